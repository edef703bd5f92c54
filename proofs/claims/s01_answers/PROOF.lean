import PyProof.Rows.All
import Lrx4Neutral
import PyLrx4
import Wide.All
import OpenK.AllK
import Wide.FinOn
import Open.SpecLaws
import KE.OsGo
import KE.HD4
import HandS.ForSpec
import HandS.Comp
import HandS.Iter
import HandS.Walk
import HandS.Evl
import HandS.Wide
import HandS.CallLocal
import HandS.Defaults
import HandS.HeadHook1
import HandS.HeadHook2
import HandS.Spec
import PySem.Challenge.RW_openqueues_s01_answers
set_option Elab.async false
set_option linter.all false
set_option maxRecDepth 100000
set_option maxHeartbeats 8000000
/-! fractions and Rat -/
namespace OQ
open Lrx1 (Fraction add sub mul divide whole zero one reduce lt le sum entry isZero)
/-- in lowest terms -/
def Cn (q : Fraction) : Prop := 0 < q.den ∧ Nat.gcd q.num.natAbs q.den = 1
/-- the value -/
def val (q : Fraction) : Rat := mkRat q.num q.den
theorem cn_ne {q : Fraction} (h : Cn q) : q.den ≠ 0 := by have := h.1; omega
theorem val_eq {q : Fraction} (h : Cn q) : val q = Rat.mk' q.num q.den (cn_ne h) h.2 := by
  unfold val
  rw [Rat.mk_eq_mkRat]
theorem val_num {q : Fraction} (h : Cn q) : (val q).num = q.num := by rw [val_eq h]
theorem val_den {q : Fraction} (h : Cn q) : (val q).den = q.den := by rw [val_eq h]
theorem val_inj {p q : Fraction} (hp : Cn p) (hq : Cn q) (h : val p = val q) : p = q := by
  have h1 := congrArg Rat.num h
  have h2 := congrArg Rat.den h
  rw [val_num hp, val_num hq] at h1
  rw [val_den hp, val_den hq] at h2
  cases p; cases q
  simp only at h1 h2
  subst h1 h2
  rfl
theorem reduce_eq (n : Int) (d : Nat) (h : d ≠ 0) : (reduce n d).num = (mkRat n d).num ∧ (reduce n d).den = (mkRat n d).den := by
  rw [Rat.num_mkRat, Rat.den_mkRat, if_neg h, if_neg h, Nat.gcd_comm]
  unfold reduce
  rw [if_neg h]
  exact ⟨rfl, rfl⟩
theorem cn_reduce (n : Int) (d : Nat) : Cn (reduce n d) := by
  by_cases h : d = 0
  · unfold reduce
    rw [if_pos h]
    exact ⟨by decide, by decide⟩
  · obtain ⟨h1, h2⟩ := reduce_eq n d h
    refine ⟨?_, ?_⟩
    · rw [h2]; exact Nat.pos_of_ne_zero (Rat.den_nz _)
    · rw [h1, h2]; exact (mkRat n d).reduced
theorem val_reduce (n : Int) (d : Nat) : val (reduce n d) = mkRat n d := by
  by_cases h : d = 0
  · subst h
    unfold reduce val
    rw [Rat.mkRat_zero, if_pos rfl, Rat.zero_mkRat]
  · obtain ⟨h1, h2⟩ := reduce_eq n d h
    unfold val
    rw [h1, h2, Rat.mkRat_self]
theorem val_reduce_div (n : Int) (d : Nat) : val (reduce n d) = (n : Rat) / (d : Rat) := by rw [val_reduce, Rat.mkRat_eq_div]
theorem cn_add (a b : Fraction) : Cn (add a b) := cn_reduce _ _
theorem cn_sub (a b : Fraction) : Cn (sub a b) := cn_reduce _ _
theorem cn_mul (a b : Fraction) : Cn (mul a b) := cn_reduce _ _
theorem cn_divide (a b : Fraction) : Cn (divide a b) := cn_reduce _ _
theorem cn_zero : Cn zero := ⟨by decide, by decide⟩
theorem cn_one : Cn one := ⟨by decide, by decide⟩
theorem cn_whole (n : Int) : Cn (whole n) := ⟨by show 0 < 1; decide, Nat.gcd_one_right _⟩
theorem val_zero : val zero = 0 := by rfl
theorem val_one : val one = 1 := by rfl
theorem val_whole (n : Int) : val (whole n) = (n : Rat) := by
  rw [val_eq (cn_whole n)]
  rfl
theorem val_add {a b : Fraction} (ha : Cn a) (hb : Cn b) : val (add a b) = val a + val b := by
  unfold add
  rw [val_reduce, Rat.add_def', val_num ha, val_num hb, val_den ha, val_den hb]
theorem val_sub {a b : Fraction} (ha : Cn a) (hb : Cn b) : val (sub a b) = val a - val b := by
  unfold sub
  rw [val_reduce, Rat.sub_def', val_num ha, val_num hb, val_den ha, val_den hb]
theorem val_mul {a b : Fraction} (ha : Cn a) (hb : Cn b) : val (mul a b) = val a * val b := by
  unfold mul
  rw [val_reduce, Rat.mul_def', val_num ha, val_num hb, val_den ha, val_den hb]
theorem num_zero_iff {a : Fraction} (ha : Cn a) : a.num = 0 ↔ val a = 0 := by
  rw [← Rat.num_eq_zero, val_num ha]
theorem val_divide {a b : Fraction} (ha : Cn a) (hb : Cn b) : val (divide a b) = val a / val b := by
  unfold divide
  rw [val_reduce, Rat.div_def, Rat.mul_def', Rat.num_inv, Rat.den_inv, val_num ha, val_num hb, val_den ha, val_den hb]
  by_cases z : b.num = 0
  · rw [z]; simp
  · rw [if_neg z]
    by_cases n : b.num < 0
    · rw [if_pos n, Int.sign_eq_neg_one_of_neg n]
      congr 1
      rw [Int.neg_mul, Int.one_mul, Int.mul_neg]
    · rw [if_neg n, Int.sign_eq_one_of_pos (by omega), Int.one_mul]
theorem eq_zero_of {a : Fraction} (ha : Cn a) (h : val a = 0) : a = zero := val_inj ha cn_zero (by rw [h, val_zero])
theorem val_eq_zero_iff {a : Fraction} (ha : Cn a) : val a = 0 ↔ a = zero := ⟨eq_zero_of ha, fun e => by rw [e]; exact val_zero⟩
theorem isZero_iff {a : Fraction} (ha : Cn a) : isZero a = true ↔ val a = 0 := by
  unfold isZero
  rw [beq_iff_eq, num_zero_iff ha]
theorem isZero_eq {a : Fraction} (ha : Cn a) : isZero a = decide (a = zero) := by
  have h := isZero_iff ha
  rw [val_eq_zero_iff ha] at h
  by_cases e : a = zero
  · rw [h.mpr e, decide_eq_true e]
  · rw [decide_eq_false e]
    cases q : isZero a with
    | false => rfl
    | true => exact absurd (h.mp q) e
theorem lt_iff {a b : Fraction} (ha : Cn a) (hb : Cn b) : lt a b = true ↔ val a < val b := by
  unfold lt
  rw [decide_eq_true_iff, Rat.lt_iff, val_num ha, val_num hb, val_den ha, val_den hb]
theorem num_pos_iff {a : Fraction} (ha : Cn a) : 0 < a.num ↔ 0 < val a := by
  rw [Rat.lt_iff, val_num ha, val_den ha]
  simp
theorem num_nonneg_iff {a : Fraction} (ha : Cn a) : 0 ≤ a.num ↔ 0 ≤ val a := by
  rw [← Rat.num_nonneg, val_num ha]
/-! ### sums -/
def rsum : List Rat → Rat
  | [] => 0
  | x :: l => x + rsum l
theorem cn_foldl_add : ∀ (l : List Fraction) (a : Fraction), Cn a → Cn (l.foldl add a)
  | [], _, h => h
  | _ :: l, _, _ => cn_foldl_add l _ (cn_add _ _)
theorem cn_sum (l : List Fraction) : Cn (sum l) := cn_foldl_add l _ cn_zero
theorem val_foldl_add : ∀ (l : List Fraction) (a : Fraction), Cn a → (∀ x ∈ l, Cn x) → val (l.foldl add a) = val a + rsum (l.map val)
  | [], a, _, _ => by simp [rsum, Rat.add_zero]
  | x :: l, a, h, hl => by
    rw [List.foldl_cons, val_foldl_add l _ (cn_add _ _) (fun y hy => hl y (List.mem_cons_of_mem _ hy)), val_add h (hl x List.mem_cons_self)]
    simp only [List.map_cons, rsum]
    grind
theorem val_sum {l : List Fraction} (h : ∀ x ∈ l, Cn x) : val (sum l) = rsum (l.map val) := by
  unfold sum
  rw [val_foldl_add l _ cn_zero h, val_zero]
  grind
theorem rsum_append : ∀ (l m : List Rat), rsum (l ++ m) = rsum l + rsum m
  | [], m => by simp [rsum, Rat.zero_add]
  | x :: l, m => by simp only [List.cons_append, rsum, rsum_append l m]; grind
theorem rsum_nonneg : ∀ {l : List Rat}, (∀ x ∈ l, 0 ≤ x) → 0 ≤ rsum l
  | [], _ => by simp [rsum]
  | x :: l, h => by
    have h1 := h x List.mem_cons_self
    have h2 := rsum_nonneg (l := l) fun y hy => h y (List.mem_cons_of_mem _ hy)
    simp only [rsum]
    grind
theorem rsum_pos_of_mem : ∀ {l : List Rat} {x : Rat}, (∀ x ∈ l, 0 ≤ x) → x ∈ l → x ≤ rsum l
  | [], _, _, h => by cases h
  | y :: l, x, h, hx => by
    have h1 := h y List.mem_cons_self
    have hl : ∀ z ∈ l, 0 ≤ z := fun z hz => h z (List.mem_cons_of_mem _ hz)
    have h2 := rsum_nonneg hl
    simp only [rsum]
    rcases List.mem_cons.mp hx with e | e
    · subst e; grind
    · have h3 := rsum_pos_of_mem hl e
      grind
theorem rsum_zero_of {l : List Rat} (h : ∀ x ∈ l, 0 ≤ x) (z : rsum l = 0) : ∀ x ∈ l, x = 0 := fun x hx => by
  have h1 := rsum_pos_of_mem h hx
  have h2 := h x hx
  grind
end OQ
/-! finite sums of Rat, and one step of Gauss and Jordan over them -/
namespace OQ
open Lrx1 (Fraction add sub mul divide whole zero one reduce lt le sum entry isZero)
def S : Nat → (Nat → Rat) → Rat
  | 0, _ => 0
  | n + 1, f => S n f + f n
theorem S_congr : ∀ {n : Nat} {f g : Nat → Rat}, (∀ i, i < n → f i = g i) → S n f = S n g
  | 0, _, _, _ => rfl
  | n + 1, f, g, h => by
    unfold S
    rw [S_congr (n := n) fun i hi => h i (by omega), h n (by omega)]
theorem S_add : ∀ (n : Nat) (f g : Nat → Rat), S n (fun i => f i + g i) = S n f + S n g
  | 0, _, _ => by simp [S, Rat.add_zero]
  | n + 1, f, g => by simp only [S, S_add n f g]; grind
theorem S_mul : ∀ (n : Nat) (f : Nat → Rat) (c : Rat), S n (fun i => f i * c) = S n f * c
  | 0, _, _ => by simp [S]
  | n + 1, f, c => by simp only [S, S_mul n f c]; grind
theorem S_mull (n : Nat) (f : Nat → Rat) (c : Rat) : S n (fun i => c * f i) = c * S n f := by
  rw [Rat.mul_comm, ← S_mul]
  exact S_congr fun i _ => Rat.mul_comm _ _
theorem S_sub (n : Nat) (f g : Nat → Rat) : S n (fun i => f i - g i) = S n f - S n g := by
  have h := S_add n (fun i => f i - g i) g
  have e : S n (fun i => f i - g i + g i) = S n f := S_congr fun i _ => by grind
  rw [e] at h
  grind
theorem S_zero : ∀ (n : Nat), S n (fun _ => 0) = 0
  | 0 => rfl
  | n + 1 => by simp only [S, S_zero n, Rat.add_zero]
theorem S_nonneg : ∀ {n : Nat} {f : Nat → Rat}, (∀ i, i < n → 0 ≤ f i) → 0 ≤ S n f
  | 0, _, _ => by simp [S]
  | n + 1, f, h => by
    have h1 := S_nonneg (n := n) fun i hi => h i (by omega)
    have h2 := h n (by omega)
    simp only [S]
    grind
theorem S_le {n : Nat} {f g : Nat → Rat} (h : ∀ i, i < n → f i ≤ g i) : S n f ≤ S n g := by
  have h1 : 0 ≤ S n (fun i => g i - f i) := S_nonneg fun i hi => by have := h i hi; grind
  rw [S_sub] at h1
  grind
theorem S_one (n : Nat) : ∀ {c : Nat} {f : Nat → Rat}, c < n → (∀ i, i < n → i ≠ c → f i = 0) → S n f = f c := by
  induction n with
  | zero => intro c f h; omega
  | succ n ih =>
    intro c f h z
    unfold S
    by_cases e : c = n
    · subst e
      have : S c f = S c (fun _ => 0) := S_congr fun i hi => z i (by omega) (by omega)
      rw [this, S_zero, Rat.zero_add]
    · rw [ih (by omega) fun i hi ne => z i (by omega) ne, z n (by omega) (by omega), Rat.add_zero]
/-- the sum without one place -/
def T (n c : Nat) (f : Nat → Rat) : Rat := S n fun i => if i = c then 0 else f i
theorem S_split {n c : Nat} (f : Nat → Rat) (h : c < n) : S n f = T n c f + f c := by
  have e : S n f = S n (fun i => (if i = c then 0 else f i) + (if i = c then f i else 0)) := S_congr fun i _ => by
    by_cases q : i = c
    · rw [if_pos q, if_pos q, Rat.zero_add]
    · rw [if_neg q, if_neg q, Rat.add_zero]
  rw [e, S_add]
  have e2 : S n (fun i => if i = c then f i else 0) = f c := by
    rw [S_one n h fun i _ ne => if_neg ne, if_pos rfl]
  rw [e2]
  rfl
theorem T_congr {n c : Nat} {f g : Nat → Rat} (h : ∀ i, i < n → i ≠ c → f i = g i) : T n c f = T n c g := S_congr fun i hi => by
  by_cases q : i = c
  · rw [if_pos q, if_pos q]
  · rw [if_neg q, if_neg q, h i hi q]
theorem T_sub_mul {n c : Nat} (f g : Nat → Rat) (k : Rat) : T n c (fun i => f i - g i * k) = T n c f - T n c g * k := by
  unfold T
  rw [← S_mul, ← S_sub]
  exact S_congr fun i _ => by
    by_cases q : i = c
    · rw [if_pos q, if_pos q, if_pos q]; grind
    · rw [if_neg q, if_neg q, if_neg q]
theorem T_nonpos {n c : Nat} {f : Nat → Rat} (h : ∀ i, i < n → i ≠ c → f i ≤ 0) : T n c f ≤ 0 := by
  have h1 : 0 ≤ S n (fun i => -(if i = c then 0 else f i)) := S_nonneg fun i hi => by
    by_cases q : i = c
    · rw [if_pos q]; grind
    · rw [if_neg q]; have := h i hi q; grind
  have h2 : S n (fun i => -(if i = c then 0 else f i)) = - T n c f := by
    unfold T
    have := S_mul n (fun i => if i = c then 0 else f i) (-1)
    rw [show S n (fun i => -(if i = c then 0 else f i)) = S n (fun i => (if i = c then 0 else f i) * (-1)) from S_congr fun i _ => by grind, this]
    grind
  grind
theorem S_comm : ∀ (n m : Nat) (f : Nat → Nat → Rat), S n (fun i => S m (fun j => f i j)) = S m (fun j => S n (fun i => f i j))
  | 0, m, f => by simp only [S]; rw [S_zero]
  | n + 1, m, f => by
    simp only [S]
    rw [S_comm n m f, S_add]
/-! ### the step -/
abbrev Mx := Nat → Nat → Rat
def stepM (A : Mx) (c : Nat) : Mx := fun i j => if i = c then A c j / A c c else A i j - A i c * (A c j / A c c)
/-- the columns' weights -/
def col (n : Nat) (w : Nat → Rat) (A : Mx) (j : Nat) : Rat := S n fun i => w i * A i j
structure MM (n : Nat) (A : Mx) (w : Nat → Rat) : Prop where
  wp : ∀ i, i < n → 0 < w i
  vp : ∀ j, j < n → 0 < col n w A j
  off : ∀ i j, i < n → j < n → i ≠ j → A i j ≤ 0
  side : ∀ i, i < n → 0 ≤ A i n
theorem MM.pivot {n c : Nat} {A : Mx} {w : Nat → Rat} (h : MM n A w) (hc : c < n) : 0 < A c c := by
  have h1 := h.vp c hc
  unfold col at h1
  rw [S_split _ hc] at h1
  have h2 : T n c (fun i => w i * A i c) ≤ 0 := T_nonpos fun i hi ne => by
    have a := h.off i c hi hc ne
    have b := h.wp i hi
    have := Rat.mul_nonneg (Rat.le_of_lt b) (show 0 ≤ - A i c by grind)
    grind
  have h3 : 0 < w c * A c c := by grind
  exact (Rat.mul_pos_iff_of_pos_left (h.wp c hc)).mp h3
theorem MM.step {n c : Nat} {A : Mx} {w : Nat → Rat} (h : MM n A w) (hc : c < n) : ∃ w', MM n (stepM A c) w' := by
  have hp := h.pivot hc
  have hpn : A c c ≠ 0 := Rat.ne_of_gt hp
  have lead : ∀ j, j < n → j ≠ c → A c j / A c c ≤ 0 := fun j hj ne => by
    have a := h.off c j hc hj (Ne.symm ne)
    false_or_by_contra
    have q := Rat.mul_pos (show 0 < A c j / A c c by grind) hp
    rw [Rat.div_mul_cancel hpn] at q
    grind
  have colK : ∀ j, col n (fun i => if i = c then col n w A c else w i) (stepM A c) j = col n w A j := fun j => by
    unfold col
    rw [S_split _ hc, S_split (fun i => w i * A i j) hc]
    show T n c (fun i => (if i = c then S n (fun i => w i * A i c) else w i) * stepM A c i j) + (if c = c then S n (fun i => w i * A i c) else w c) * stepM A c c j = _
    rw [if_pos rfl]
    have e1 : T n c (fun i => (if i = c then S n (fun i => w i * A i c) else w i) * stepM A c i j) = T n c (fun i => w i * A i j - w i * A i c * (A c j / A c c)) := T_congr fun i _ ne => by
      unfold stepM
      rw [if_neg ne, if_neg ne]
      grind
    rw [e1, T_sub_mul, S_split (fun i => w i * A i c) hc]
    unfold stepM
    rw [if_pos rfl]
    have q := Rat.div_mul_cancel (a := A c j) hpn
    grind
  refine ⟨fun i => if i = c then col n w A c else w i, ⟨fun i hi => ?_, fun j hj => ?_, fun i j hi hj ne => ?_, fun i hi => ?_⟩⟩
  · by_cases e : i = c
    · rw [if_pos e]; exact h.vp c hc
    · rw [if_neg e]; exact h.wp i hi
  · rw [colK]; exact h.vp j hj
  · unfold stepM
    by_cases e : i = c
    · rw [if_pos e]
      exact lead j hj (by omega)
    · rw [if_neg e]
      by_cases e2 : j = c
      · subst e2
        have : A j j / A j j = 1 := by rw [Rat.div_def]; exact Rat.mul_inv_cancel _ hpn
        rw [this]
        grind
      · have a := lead j hj e2
        have b := h.off i c hi hc e
        have d := h.off i j hi hj ne
        have := Rat.mul_nonneg (show 0 ≤ -A i c by grind) (show 0 ≤ -(A c j / A c c) by grind)
        grind
  · have a := h.side c hc
    have q : 0 ≤ A c n / A c c := by
      false_or_by_contra
      have q := Rat.mul_pos (show 0 < -(A c n / A c c) by grind) hp
      have := Rat.div_mul_cancel (a := A c n) hpn
      grind
    unfold stepM
    by_cases e : i = c
    · rw [if_pos e]; exact q
    · rw [if_neg e]
      have b := h.off i c hi hc e
      have d := h.side i hi
      have := Rat.mul_nonneg (show 0 ≤ -A i c by grind) q
      grind
/-! ### solutions -/
def Sol (n : Nat) (A : Mx) (y : Nat → Rat) : Prop := ∀ i, i < n → S n (fun j => A i j * y j) = A i n
theorem sol_step {n c : Nat} {A : Mx} {y : Nat → Rat} (hc : c < n) (hp : A c c ≠ 0) : Sol n (stepM A c) y ↔ Sol n A y := by
  have row : S n (fun j => stepM A c c j * y j) = S n (fun j => A c j * y j) / A c c := by
    rw [Rat.div_def, ← S_mul]
    exact S_congr fun j _ => by
      unfold stepM
      rw [if_pos rfl, Rat.div_def]
      grind
  have rowi : ∀ i, i ≠ c → S n (fun j => stepM A c i j * y j) = S n (fun j => A i j * y j) - A i c * (S n (fun j => A c j * y j) / A c c) := fun i ne => by
    rw [← row, ← S_mull, ← S_sub]
    exact S_congr fun j _ => by
      unfold stepM
      rw [if_neg ne, if_pos rfl]
      grind
  have sc : stepM A c c n = A c n / A c c := by unfold stepM; rw [if_pos rfl]
  have si : ∀ i, i ≠ c → stepM A c i n = A i n - A i c * (A c n / A c c) := fun i ne => by unfold stepM; rw [if_neg ne]
  constructor
  · intro h i hi
    have h1 := h c hc
    rw [row, sc] at h1
    have h2 : S n (fun j => A c j * y j) = A c n := by
      have a := Rat.div_mul_cancel (a := S n (fun j => A c j * y j)) hp
      have b := Rat.div_mul_cancel (a := A c n) hp
      rw [h1] at a
      rw [← a, b]
    by_cases e : i = c
    · rw [e]; exact h2
    · have h3 := h i hi
      rw [rowi i e, si i e, h2] at h3
      grind
  · intro h i hi
    by_cases e : i = c
    · rw [e, row, sc, h c hc]
    · rw [rowi i e, si i e, h c hc, h i hi]
def iter (A : Mx) : Nat → Mx
  | 0 => A
  | k + 1 => stepM (iter A k) k
theorem iter_unit {n : Nat} {A : Mx} : ∀ {k : Nat}, k ≤ n → (∀ c, c < k → iter A c c c ≠ 0) → ∀ i j, j < k → iter A k i j = if i = j then 1 else 0
  | 0, _, _, _, _, h => by omega
  | k + 1, hk, hp, i, j, hj => by
    have ih := iter_unit (n := n) (A := A) (k := k) (by omega) fun c hc => hp c (by omega)
    have hpk := hp k (by omega)
    show stepM (iter A k) k i j = _
    unfold stepM
    by_cases e : j = k
    · subst e
      have one_ : iter A j j j / iter A j j j = 1 := by rw [Rat.div_def]; exact Rat.mul_inv_cancel _ hpk
      by_cases e2 : i = j
      · rw [if_pos e2, if_pos e2, one_]
      · rw [if_neg e2, if_neg e2, one_]; grind
    · have hj2 : j < k := by omega
      have z : iter A k k j = 0 := by rw [ih k j hj2, if_neg (by omega)]
      rw [z]
      have zd : (0 : Rat) / iter A k k k = 0 := by rw [Rat.div_def, Rat.zero_mul]
      rw [zd]
      by_cases e2 : i = k
      · rw [if_pos e2, if_neg (by omega)]
      · rw [if_neg e2, ih i j hj2]; grind
theorem iter_mm {n : Nat} {A : Mx} (h : ∃ w, MM n A w) : ∀ k, k ≤ n → ∃ w, MM n (iter A k) w
  | 0, _ => h
  | k + 1, hk => by
    obtain ⟨w, m⟩ := iter_mm h k (by omega)
    exact m.step (by omega)
theorem iter_pivot {n : Nat} {A : Mx} (h : ∃ w, MM n A w) (c : Nat) (hc : c < n) : 0 < iter A c c c := by
  obtain ⟨w, m⟩ := iter_mm h c (by omega)
  exact m.pivot hc
theorem iter_sol {n : Nat} {A : Mx} (h : ∃ w, MM n A w) (y : Nat → Rat) : ∀ k, k ≤ n → (Sol n (iter A k) y ↔ Sol n A y)
  | 0, _ => Iff.rfl
  | k + 1, hk => (sol_step (by omega) (Rat.ne_of_gt (iter_pivot h k (by omega)))).trans (iter_sol h y k (by omega))
/-- what the last column holds is the solution, and the only one -/
theorem iter_end {n : Nat} {A : Mx} (h : ∃ w, MM n A w) (y : Nat → Rat) : Sol n A y ↔ ∀ i, i < n → y i = iter A n i n := by
  rw [← iter_sol h y n (Nat.le_refl _)]
  have u := iter_unit (n := n) (A := A) (k := n) (Nat.le_refl _) fun c hc => Rat.ne_of_gt (iter_pivot h c hc)
  have e : ∀ i, i < n → S n (fun j => iter A n i j * y j) = y i := fun i hi => by
    rw [S_one n hi fun j hj ne => by rw [u i j hj, if_neg (Ne.symm ne), Rat.zero_mul], u i i hi, if_pos rfl, Rat.one_mul]
  constructor
  · intro q i hi
    rw [← e i hi]
    exact q i hi
  · intro q i hi
    rw [e i hi]
    exact q i hi
theorem iter_nonneg {n : Nat} {A : Mx} (h : ∃ w, MM n A w) (i : Nat) (hi : i < n) : 0 ≤ iter A n i n := by
  obtain ⟨w, m⟩ := iter_mm h n (Nat.le_refl _)
  exact m.side i hi
end OQ
/-! a small common denominator, by pigeons -/
namespace OQ
theorem pigeon : ∀ (N : Nat) (f : Nat → Nat), (∀ t, t ≤ N → f t < N) → ∃ s t, s < t ∧ t ≤ N ∧ f s = f t
  | 0, f, h => by have := h 0 (Nat.le_refl _); omega
  | M + 1, f, h => by
    by_cases e : ∃ t, t ≤ M ∧ f t = f (M + 1)
    · obtain ⟨t, ht, q⟩ := e
      exact ⟨t, M + 1, by omega, Nat.le_refl _, q⟩
    · have ne : ∀ t, t ≤ M → f t ≠ f (M + 1) := fun t ht q => e ⟨t, ht, q⟩
      have hv := h (M + 1) (Nat.le_refl _)
      obtain ⟨s, t, h1, h2, h3⟩ := pigeon M (fun t => if f t = M then f (M + 1) else f t) (fun t ht => by
        show (if f t = M then f (M + 1) else f t) < M
        have a := h t (by omega)
        have b := ne t ht
        by_cases q : f t = M
        · rw [if_pos q]; omega
        · rw [if_neg q]; omega)
      refine ⟨s, t, h1, by omega, ?_⟩
      have h3 : (if f s = M then f (M + 1) else f s) = (if f t = M then f (M + 1) else f t) := h3
      have b1 := ne s (by omega)
      have b2 := ne t h2
      by_cases q1 : f s = M
      · by_cases q2 : f t = M
        · omega
        · rw [if_pos q1, if_neg q2] at h3; omega
      · by_cases q2 : f t = M
        · rw [if_neg q1, if_pos q2] at h3; omega
        · rw [if_neg q1, if_neg q2] at h3; exact h3
/-- a vector of numbers below K as one number -/
def code (K : Nat) : Nat → (Nat → Nat) → Nat
  | 0, _ => 0
  | n + 1, f => code K n f * K + f n
theorem code_lt {K : Nat} : ∀ {n : Nat} {f : Nat → Nat}, (∀ i, i < n → f i < K) → code K n f < K ^ n
  | 0, _, _ => by simp [code]
  | n + 1, f, h => by
    have h1 := code_lt (K := K) (n := n) (f := f) fun i hi => h i (by omega)
    have h2 := h n (by omega)
    unfold code
    rw [Nat.pow_succ]
    calc code K n f * K + f n < code K n f * K + K := by omega
      _ = (code K n f + 1) * K := by rw [Nat.add_mul, Nat.one_mul]
      _ ≤ K ^ n * K := Nat.mul_le_mul_right _ h1
theorem code_inj {K : Nat} : ∀ {n : Nat} {f g : Nat → Nat}, (∀ i, i < n → f i < K) → (∀ i, i < n → g i < K) → code K n f = code K n g → ∀ i, i < n → f i = g i
  | 0, _, _, _, _, _, _, h => by omega
  | n + 1, f, g, hf, hg, e, i, hi => by
    unfold code at e
    have a := hf n (by omega)
    have b := hg n (by omega)
    have e1 : (code K n f * K + f n) / K = (code K n g * K + g n) / K := by rw [e]
    have e2 : (code K n f * K + f n) % K = (code K n g * K + g n) % K := by rw [e]
    rw [Nat.mul_comm, Nat.mul_comm (code K n g), Nat.mul_add_div (by omega), Nat.mul_add_div (by omega), Nat.div_eq_of_lt a, Nat.div_eq_of_lt b] at e1
    rw [Nat.mul_comm, Nat.mul_comm (code K n g), Nat.mul_add_mod, Nat.mul_add_mod, Nat.mod_eq_of_lt a, Nat.mod_eq_of_lt b] at e2
    by_cases q : i = n
    · rw [q]; exact e2
    · exact code_inj (n := n) (fun i hi => hf i (by omega)) (fun i hi => hg i (by omega)) (by omega) i (by omega)
theorem int_of_rat {a b : Int} (h : (a : Rat) = (b : Rat)) : a = b := by
  have := congrArg Rat.num h
  simpa using this
/-- S of whole numbers -/
def SI : Nat → (Nat → Int) → Int
  | 0, _ => 0
  | n + 1, f => SI n f + f n
theorem SI_cast : ∀ (n : Nat) (f : Nat → Int), ((SI n f : Int) : Rat) = S n fun i => (f i : Rat)
  | 0, _ => rfl
  | n + 1, f => by
    simp only [SI, S, Rat.intCast_add, SI_cast n f]
theorem S_abs {M : Rat} : ∀ {n : Nat} {f : Nat → Rat}, (∀ i, i < n → f i ≤ M ∧ -M ≤ f i) → S n f ≤ (n : Rat) * M ∧ -((n : Rat) * M) ≤ S n f
  | 0, _, _ => by simp [S]
  | n + 1, f, h => by
    have h1 := S_abs (M := M) (n := n) fun i hi => h i (by omega)
    have h2 := h n (by omega)
    simp only [S]
    have e : (((n + 1 : Nat)) : Rat) = (n : Rat) + 1 := by simp [Rat.natCast_add]
    rw [e]
    grind
/-- B y whole, y the only solution: y has a denominator of at most (2 n M + 1) ^ n -/
theorem small_den {n M : Nat} {B : Nat → Nat → Int} {y : Nat → Rat} {a : Nat → Int} (hB : ∀ i j, i < n → j < n → (B i j).natAbs ≤ M) (hy : ∀ i, i < n → S n (fun j => (B i j : Rat) * y j) = (a i : Rat))
    (uniq : ∀ g : Nat → Rat, (∀ i, i < n → S n (fun j => (B i j : Rat) * g j) = 0) → ∀ j, j < n → g j = 0) :
    ∃ d : Nat, 0 < d ∧ d ≤ (2 * (n * M) + 1) ^ n ∧ ∀ j, j < n → ∃ m : Int, (d : Rat) * y j = (m : Rat) := by
  -- t y less its whole part
  let fl : Nat → Nat → Int := fun t j => ((t : Rat) * y j).floor
  let z : Nat → Nat → Int := fun t i => (t : Int) * a i - SI n (fun j => B i j * fl t j)
  have hz : ∀ (t i : Nat), i < n → ((z t i : Int) : Rat) = S n (fun j => (B i j : Rat) * ((t : Rat) * y j - (fl t j : Rat))) := fun t i hi => by
    have e : S n (fun j => (B i j : Rat) * ((t : Rat) * y j - (fl t j : Rat))) = S n (fun j => (t : Rat) * ((B i j : Rat) * y j)) - S n (fun j => (B i j : Rat) * (fl t j : Rat)) := by
      rw [← S_sub]
      exact S_congr fun j _ => by grind
    rw [e, S_mull, hy i hi]
    show ((((t : Int) * a i - SI n (fun j => B i j * fl t j)) : Int) : Rat) = _
    rw [Rat.intCast_sub, Rat.intCast_mul, SI_cast]
    have e2 : S n (fun j => ((B i j * fl t j : Int) : Rat)) = S n (fun j => (B i j : Rat) * (fl t j : Rat)) := S_congr fun j _ => Rat.intCast_mul _ _
    rw [e2]
    rfl
  have fr : ∀ (t j : Nat), 0 ≤ (t : Rat) * y j - (fl t j : Rat) ∧ (t : Rat) * y j - (fl t j : Rat) ≤ 1 := fun t j => by
    have h1 := Rat.floor_le ((t : Rat) * y j)
    have h2 := Rat.lt_floor_add_one ((t : Rat) * y j)
    have e : ((((t : Rat) * y j).floor + 1 : Int) : Rat) = (((t : Rat) * y j).floor : Rat) + 1 := by rw [Rat.intCast_add]; rfl
    rw [e] at h2
    constructor
    · show 0 ≤ (t : Rat) * y j - (((t : Rat) * y j).floor : Rat)
      grind
    · show (t : Rat) * y j - (((t : Rat) * y j).floor : Rat) ≤ 1
      grind
  have zb : ∀ (t i : Nat), i < n → -((n * M : Nat) : Int) ≤ z t i ∧ z t i ≤ ((n * M : Nat) : Int) := fun t i hi => by
    have b : ∀ j, j < n → (B i j : Rat) * ((t : Rat) * y j - (fl t j : Rat)) ≤ (M : Rat) ∧ -(M : Rat) ≤ (B i j : Rat) * ((t : Rat) * y j - (fl t j : Rat)) := fun j hj => by
      obtain ⟨f1, f2⟩ := fr t j
      have b1 := hB i j hi hj
      have c1 : B i j ≤ (M : Int) := by omega
      have c2 : -(M : Int) ≤ B i j := by omega
      have d1 : (B i j : Rat) ≤ (M : Rat) := by have := Rat.intCast_le_intCast.mpr c1; exact this
      have d2 : -(M : Rat) ≤ (B i j : Rat) := by have := Rat.intCast_le_intCast.mpr c2; rw [Rat.intCast_neg] at this; exact this
      have m0 : (0 : Rat) ≤ (M : Rat) := Rat.natCast_nonneg
      generalize (t : Rat) * y j - (fl t j : Rat) = x at f1 f2
      have p1 := Rat.mul_nonneg (show 0 ≤ (M : Rat) - (B i j : Rat) by grind) f1
      have p2 := Rat.mul_nonneg (show 0 ≤ (M : Rat) + (B i j : Rat) by grind) f1
      have p3 := Rat.mul_nonneg m0 (show 0 ≤ 1 - x by grind)
      constructor <;> grind
    obtain ⟨s1, s2⟩ := S_abs b
    rw [← hz t i hi] at s1 s2
    have e : (n : Rat) * (M : Rat) = (((n * M : Nat) : Int) : Rat) := by
      rw [← Rat.natCast_mul]
      rfl
    rw [e] at s1 s2
    rw [← Rat.intCast_neg] at s2
    exact ⟨Rat.intCast_le_intCast.mp s2, Rat.intCast_le_intCast.mp s1⟩
  let c : Nat → Nat := fun t => code (2 * (n * M) + 1) n fun i => (z t i + (n * M : Nat)).toNat
  have dig : ∀ (t i : Nat), i < n → (z t i + ((n * M : Nat) : Int)).toNat < 2 * (n * M) + 1 := fun t i hi => by
    have := zb t i hi
    omega
  obtain ⟨s, t, h1, h2, h3⟩ := pigeon ((2 * (n * M) + 1) ^ n) c fun t _ => code_lt fun i hi => dig t i hi
  have eqz : ∀ i, i < n → z s i = z t i := fun i hi => by
    have := code_inj (dig s) (dig t) h3 i hi
    have a1 := zb s i hi
    have a2 := zb t i hi
    omega
  have g0 := uniq (fun j => ((t : Rat) * y j - (fl t j : Rat)) - ((s : Rat) * y j - (fl s j : Rat))) fun i hi => by
    have e : S n (fun j => (B i j : Rat) * (((t : Rat) * y j - (fl t j : Rat)) - ((s : Rat) * y j - (fl s j : Rat)))) = S n (fun j => (B i j : Rat) * ((t : Rat) * y j - (fl t j : Rat))) - S n (fun j => (B i j : Rat) * ((s : Rat) * y j - (fl s j : Rat))) := by
      rw [← S_sub]
      exact S_congr fun j _ => by grind
    rw [e, ← hz t i hi, ← hz s i hi, eqz i hi]
    grind
  refine ⟨t - s, by omega, by omega, fun j hj => ⟨fl t j - fl s j, ?_⟩⟩
  have q := g0 j hj
  have e : ((t - s : Nat) : Rat) = (t : Rat) - (s : Rat) := by
    have : ((t - s + s : Nat) : Rat) = (t : Rat) := by rw [Nat.sub_add_cancel (by omega)]
    rw [Rat.natCast_add] at this
    grind
  rw [e, Rat.intCast_sub]
  grind
end OQ
/-! the program's elimination, and the document's -/
namespace OQ
open Lrx1 (Fraction add sub mul divide whole zero one reduce lt le sum entry isZero)
abbrev Row := List Fraction
def mScaled (row : Row) (p : Fraction) : Row := row.map fun x => divide x p
def mTaken (row lead : Row) (f : Fraction) : Row := if f = zero then row else List.zipWith (fun x y => if y = zero then x else sub x (mul f y)) row lead
def mCleared (R : List Row) (c : Nat) : List Row :=
  (List.range R.length).map fun k => if k = c then mScaled (R.getD c []) (entry (R.getD c []) c) else mTaken (R.getD k []) (mScaled (R.getD c []) (entry (R.getD c []) c)) (entry (R.getD k []) c)
def mIter (R : List Row) : Nat → List Row
  | 0 => R
  | k + 1 => mCleared (mIter R k) k
def mWide (R : List Row) (sides : Row) : List Row := List.zipWith (fun r s => r ++ [s]) R sides
def lastOf (row : Row) : Fraction := row.getLastD zero
def mSolved (R : List Row) (sides : Row) : Row := (mIter (mWide R sides) R.length).map lastOf
structure Rows (n : Nat) (R : List Row) : Prop where
  len : R.length = n
  wid : ∀ r ∈ R, r.length = n + 1
  cn : ∀ r ∈ R, ∀ x ∈ r, Cn x
def mx (R : List Row) : Mx := fun i j => val (entry (R.getD i []) j)
theorem getD_mem {α : Type} {l : List α} {i : Nat} {d : α} (h : i < l.length) : l.getD i d ∈ l := by
  rw [List.getD_eq_getElem?_getD, List.getElem?_eq_getElem h]
  exact List.getElem_mem h
theorem cn_entry {r : Row} (h : ∀ x ∈ r, Cn x) (j : Nat) : Cn (entry r j) := by
  unfold entry
  by_cases q : j < r.length
  · exact h _ (getD_mem q)
  · rw [List.getD_eq_getElem?_getD, List.getElem?_eq_none (by omega)]
    exact cn_zero
section
variable {n c : Nat} {R : List Row}
theorem Rows.row (h : Rows n R) {i : Nat} (hi : i < n) : (R.getD i []).length = n + 1 ∧ ∀ x ∈ R.getD i [], Cn x := by
  have m : R.getD i [] ∈ R := getD_mem (by rw [h.len]; exact hi)
  exact ⟨h.wid _ m, h.cn _ m⟩
theorem Rows.cnE (h : Rows n R) {i : Nat} (hi : i < n) (j : Nat) : Cn (entry (R.getD i []) j) := cn_entry (h.row hi).2 j
theorem entry_map {f : Fraction → Fraction} {r : Row} {j : Nat} (hj : j < r.length) : entry (r.map f) j = f (entry r j) := by
  unfold entry
  rw [List.getD_eq_getElem?_getD, List.getD_eq_getElem?_getD, List.getElem?_map, List.getElem?_eq_getElem hj]
  rfl
theorem entry_zip {f : Fraction → Fraction → Fraction} {r s : Row} {j : Nat} (hj : j < r.length) (hs : j < s.length) : entry (List.zipWith f r s) j = f (entry r j) (entry s j) := by
  unfold entry
  simp only [List.getD_eq_getElem?_getD]
  rw [List.getElem?_zipWith, List.getElem?_eq_getElem hj, List.getElem?_eq_getElem hs]
  rfl
theorem ext_row {r s : Row} (hl : r.length = s.length) (h : ∀ j, j < r.length → entry r j = entry s j) : r = s := by
  refine List.ext_getElem hl fun j h1 h2 => ?_
  have := h j h1
  unfold entry at this
  rw [List.getD_eq_getElem?_getD, List.getD_eq_getElem?_getD, List.getElem?_eq_getElem h1, List.getElem?_eq_getElem h2] at this
  exact this
theorem scaled_len {r : Row} {p : Fraction} : (mScaled r p).length = r.length := by unfold mScaled; rw [List.length_map]
theorem scaled_entry {r : Row} {p : Fraction} {j : Nat} (hj : j < r.length) : entry (mScaled r p) j = divide (entry r j) p := entry_map hj
theorem scaled_cn {r : Row} {p : Fraction} : ∀ x ∈ mScaled r p, Cn x := fun x hx => by
  unfold mScaled at hx
  obtain ⟨y, _, rfl⟩ := List.mem_map.mp hx
  exact cn_divide _ _
theorem taken_len {r s : Row} {f : Fraction} (h : r.length = s.length) : (mTaken r s f).length = r.length := by
  unfold mTaken
  split
  · rfl
  · rw [List.length_zipWith, h, Nat.min_self]
/-- the short cuts change nothing -/
theorem taken_entry {r s : Row} {f : Fraction} {j : Nat} (hl : r.length = s.length) (hj : j < r.length) (hr : ∀ x ∈ r, Cn x) (hs : ∀ x ∈ s, Cn x) (hf : Cn f) : entry (mTaken r s f) j = sub (entry r j) (mul f (entry s j)) := by
  have cr := cn_entry hr j
  have cs := cn_entry hs j
  unfold mTaken
  by_cases z : f = zero
  · rw [if_pos z, z]
    refine val_inj cr (cn_sub _ _) ?_
    rw [val_sub cr (cn_mul _ _), val_mul cn_zero cs, val_zero]
    grind
  · rw [if_neg z, entry_zip hj (by omega)]
    by_cases q : entry s j = zero
    · rw [if_pos q, q]
      refine val_inj cr (cn_sub _ _) ?_
      rw [val_sub cr (cn_mul _ _), val_mul hf cn_zero, val_zero]
      grind
    · rw [if_neg q]
theorem taken_cn {r s : Row} {f : Fraction} (hr : ∀ x ∈ r, Cn x) : ∀ x ∈ mTaken r s f, Cn x := fun x hx => by
  unfold mTaken at hx
  split at hx
  · exact hr x hx
  · obtain ⟨i, h1, h2⟩ := List.mem_iff_getElem.mp hx
    rw [List.getElem_zipWith] at h2
    rw [List.length_zipWith] at h1
    rw [← h2]
    split
    · exact hr _ (List.getElem_mem _)
    · exact cn_sub _ _
theorem getD_map_range {α : Type} {f : Nat → α} {d : α} {m i : Nat} (h : i < m) : ((List.range m).map f).getD i d = f i := by
  rw [List.getD_eq_getElem?_getD, List.getElem?_map, List.getElem?_range h]
  rfl
theorem cleared_row (h : Rows n R) {i : Nat} (hi : i < n) : (mCleared R c).getD i [] = if i = c then mScaled (R.getD c []) (entry (R.getD c []) c) else mTaken (R.getD i []) (mScaled (R.getD c []) (entry (R.getD c []) c)) (entry (R.getD i []) c) := by
  unfold mCleared
  rw [getD_map_range (by rw [h.len]; exact hi)]
theorem cleared_len : (mCleared R c).length = R.length := by unfold mCleared; rw [List.length_map, List.length_range]
theorem cleared_rows (h : Rows n R) (hc : c < n) : Rows n (mCleared R c) := by
  have l : (mCleared R c).length = n := by rw [cleared_len, h.len]
  have key : ∀ i, i < n → ((mCleared R c).getD i []).length = n + 1 ∧ ∀ x ∈ (mCleared R c).getD i [], Cn x := fun i hi => by
    rw [cleared_row h hi]
    split
    · exact ⟨by rw [scaled_len, (h.row hc).1], scaled_cn⟩
    · exact ⟨by rw [taken_len (by rw [scaled_len, (h.row hc).1, (h.row hi).1]), (h.row hi).1], taken_cn (h.row hi).2⟩
  have mem : ∀ r ∈ mCleared R c, ∃ i, i < n ∧ r = (mCleared R c).getD i [] := fun r hr => by
    obtain ⟨i, h1, h2⟩ := List.mem_iff_getElem.mp hr
    exact ⟨i, by omega, by rw [List.getD_eq_getElem?_getD, List.getElem?_eq_getElem h1, ← h2]; rfl⟩
  refine ⟨l, fun r hr => ?_, fun r hr => ?_⟩
  · obtain ⟨i, hi, rfl⟩ := mem r hr
    exact (key i hi).1
  · obtain ⟨i, hi, rfl⟩ := mem r hr
    exact (key i hi).2
theorem cleared_entry (h : Rows n R) (hc : c < n) {i j : Nat} (hi : i < n) (hj : j < n + 1) : entry ((mCleared R c).getD i []) j = if i = c then divide (entry (R.getD c []) j) (entry (R.getD c []) c) else
    sub (entry (R.getD i []) j) (mul (entry (R.getD i []) c) (divide (entry (R.getD c []) j) (entry (R.getD c []) c))) := by
  rw [cleared_row h hi]
  by_cases e : i = c
  · rw [if_pos e, if_pos e, scaled_entry (by rw [(h.row hc).1]; exact hj)]
  · rw [if_neg e, if_neg e, taken_entry (by rw [scaled_len, (h.row hc).1, (h.row hi).1]) (by rw [(h.row hi).1]; exact hj) (h.row hi).2 scaled_cn (h.cnE hi c), scaled_entry (by rw [(h.row hc).1]; exact hj)]
theorem cleared_mx (h : Rows n R) (hc : c < n) {i j : Nat} (hi : i < n) (hj : j < n + 1) : mx (mCleared R c) i j = stepM (mx R) c i j := by
  unfold mx stepM
  rw [cleared_entry h hc hi hj]
  by_cases e : i = c
  · rw [if_pos e, if_pos e, val_divide (h.cnE hc j) (h.cnE hc c)]
  · rw [if_neg e, if_neg e, val_sub (h.cnE hi j) (cn_mul _ _), val_mul (h.cnE hi c) (cn_divide _ _), val_divide (h.cnE hc j) (h.cnE hc c)]
/-- the document's step finds the same row, and does the same -/
theorem pivot_same (h : Rows n R) (hc : c < n) (hp : entry (R.getD c []) c ≠ zero) : Lrx1.pivotStep R c = some (mCleared R c) := by
  have nz : isZero (entry (R.getD c []) c) = false := by
    rw [isZero_eq (h.cnE hc c), decide_eq_false hp]
  have find : (List.range R.length).find? (fun r => decide (c ≤ r) && !isZero (entry (R.getD r []) c)) = some c := by
    rw [List.find?_range_eq_some]
    refine ⟨?_, by rw [List.mem_range, h.len]; exact hc, fun j hj => ?_⟩
    · rw [nz, decide_eq_true (Nat.le_refl _)]; rfl
    · rw [decide_eq_false (by omega)]; rfl
  unfold Lrx1.pivotStep
  rw [find]
  have setsame : ∀ (i : Nat), R.set i (R.getD i []) = R := fun i => by
    by_cases q : i < R.length
    · rw [List.getD_eq_getElem?_getD, List.getElem?_eq_getElem q]
      exact List.set_getElem_self q
    · exact List.set_eq_of_length_le (by omega)
  show some ((List.range (((R.set c (R.getD c [])).set c (R.getD c []))).length).map _) = _
  simp only [setsame]
  congr 1
  refine List.map_congr_left fun i hi => ?_
  rw [List.mem_range, h.len] at hi
  have lead : Lrx1.scaleRow (divide one (entry (R.getD c []) c)) (R.getD c []) = mScaled (R.getD c []) (entry (R.getD c []) c) := by
    unfold Lrx1.scaleRow mScaled
    refine List.map_congr_left fun x hx => ?_
    have cx := (h.row hc).2 x hx
    refine val_inj (cn_mul _ _) (cn_divide _ _) ?_
    rw [val_mul (cn_divide _ _) cx, val_divide cn_one (h.cnE hc c), val_divide cx (h.cnE hc c), val_one, Rat.div_def, Rat.div_def]
    grind
  rw [lead]
  by_cases e : i = c
  · rw [if_pos e, if_pos e]
  · rw [if_neg e, if_neg e]
    have l1 : (mScaled (R.getD c []) (entry (R.getD c []) c)).length = (R.getD i []).length := by rw [scaled_len, (h.row hc).1, (h.row hi).1]
    refine ext_row ?_ fun j hj => ?_
    · unfold Lrx1.subtractRow
      rw [List.length_map, List.length_range, taken_len l1.symm]
    · unfold Lrx1.subtractRow at hj ⊢
      rw [List.length_map, List.length_range] at hj
      rw [taken_entry l1.symm hj (h.row hi).2 scaled_cn (h.cnE hi c)]
      show ((List.range (R.getD i []).length).map _).getD j zero = _
      rw [getD_map_range hj]
end
/-! ### all columns -/
section
variable {n : Nat} {R : List Row}
theorem entry_ne_zero {r : Row} {j : Nat} (p : 0 < val (entry r j)) : entry r j ≠ zero := fun e => by
  rw [e, val_zero] at p
  exact Rat.lt_irrefl p
theorem mIter_rows (h : Rows n R) (m : ∃ w, MM n (mx R) w) : ∀ k, k ≤ n → Rows n (mIter R k) ∧ (∀ i j, i < n → j < n + 1 → mx (mIter R k) i j = iter (mx R) k i j)
  | 0, _ => ⟨h, fun _ _ _ _ => rfl⟩
  | k + 1, hk => by
    obtain ⟨h1, h2⟩ := mIter_rows h m k (by omega)
    refine ⟨cleared_rows h1 (by omega), fun i j hi hj => ?_⟩
    show mx (mCleared (mIter R k) k) i j = stepM (iter (mx R) k) k i j
    rw [cleared_mx h1 (by omega) hi hj]
    unfold stepM
    rw [h2 k j (by omega) hj, h2 k k (by omega) (by omega), h2 i j hi hj, h2 i k hi (by omega)]
theorem mIter_pivot (h : Rows n R) (m : ∃ w, MM n (mx R) w) (c : Nat) (hc : c < n) : 0 < val (entry ((mIter R c).getD c []) c) := by
  have e := (mIter_rows h m c (by omega)).2 c c hc (by omega)
  unfold mx at e
  have p := iter_pivot m c hc
  unfold mx at p
  rw [e]
  exact p
theorem solve_fold (h : Rows n R) (m : ∃ w, MM n (mx R) w) : ∀ k, k ≤ n → (List.range k).foldl (fun (state : Option (List Lrx1.Row)) (c : Nat) => state.bind fun rows => Lrx1.pivotStep rows c) (some R) = some (mIter R k)
  | 0, _ => rfl
  | k + 1, hk => by
    rw [List.range_succ, List.foldl_append, solve_fold h m k (by omega)]
    show Lrx1.pivotStep (mIter R k) k = some (mCleared (mIter R k) k)
    have r := (mIter_rows h m k (by omega)).1
    exact pivot_same r (by omega) (entry_ne_zero (mIter_pivot h m k (by omega)))
theorem solve_same (h : Rows n R) (m : ∃ w, MM n (mx R) w) : Lrx1.solve R = some ((mIter R n).map lastOf) := by
  unfold Lrx1.solve
  rw [h.len, solve_fold h m n (Nat.le_refl _)]
  have r := (mIter_rows h m n (Nat.le_refl _)).1
  show some ((mIter R n).map fun row => entry row (mIter R n).length) = _
  congr 1
  refine List.map_congr_left fun row hr => ?_
  unfold entry lastOf
  rw [r.len, List.getLastD_eq_getLast?, List.getLast?_eq_getElem?, r.wid row hr, List.getD_eq_getElem?_getD]
  rfl
/-- the solution's entries -/
theorem solved_val (h : Rows n R) (m : ∃ w, MM n (mx R) w) {i : Nat} (hi : i < n) : val (entry ((mIter R n).map lastOf) i) = iter (mx R) n i n ∧ Cn (entry ((mIter R n).map lastOf) i) := by
  obtain ⟨r, e⟩ := mIter_rows h m n (Nat.le_refl _)
  have q : entry ((mIter R n).map lastOf) i = entry ((mIter R n).getD i []) n := by
    have hi' : i < (mIter R n).length := by rw [r.len]; exact hi
    have w := (r.row hi).1
    have e0 : (mIter R n).getD i [] = (mIter R n)[i] := by
      rw [List.getD_eq_getElem?_getD, List.getElem?_eq_getElem hi']
      rfl
    rw [e0] at w ⊢
    unfold entry lastOf
    rw [List.getD_eq_getElem?_getD, List.getElem?_map, List.getElem?_eq_getElem hi']
    show ((mIter R n)[i]).getLastD zero = ((mIter R n)[i]).getD n zero
    rw [List.getLastD_eq_getLast?, List.getLast?_eq_getElem?, w, List.getD_eq_getElem?_getD]
    rfl
  rw [q]
  exact ⟨e i n hi (by omega), r.cnE hi n⟩
end
end OQ
/-! an open network's equations: weights of the rows -/
namespace OQ
open Lrx1 (Fraction add sub mul divide whole zero one reduce lt le sum entry isZero)
theorem pow_anti {d : Rat} (h0 : 0 < d) (h1 : d < 1) : ∀ {k m : Nat}, k ≤ m → d ^ m ≤ d ^ k := fun {k m} h => by
  obtain ⟨j, rfl⟩ := Nat.exists_eq_add_of_le h
  clear h
  induction j with
  | zero => exact Rat.le_refl
  | succ j ih =>
    rw [show k + (j + 1) = k + j + 1 from rfl, Rat.pow_succ]
    have p := Rat.pow_pos (n := k + j) h0
    have := Rat.mul_nonneg (Rat.le_of_lt p) (show 0 ≤ 1 - d by grind)
    grind
/-- the least k up to N -/
def lv (f : Nat → Bool) : Nat → Nat
  | 0 => 0
  | N + 1 => if f 0 = true then 0 else lv (fun k => f (k + 1)) N + 1
theorem lv_spec : ∀ {N : Nat} {f : Nat → Bool}, f N = true → f (lv f N) = true ∧ lv f N ≤ N ∧ ∀ k, k < lv f N → f k = false
  | 0, f, h => ⟨h, Nat.le_refl _, fun k hk => by unfold lv at hk; omega⟩
  | N + 1, f, h => by
    unfold lv
    by_cases q : f 0 = true
    · rw [if_pos q]
      exact ⟨q, Nat.zero_le _, fun k hk => by omega⟩
    · rw [if_neg q]
      obtain ⟨h1, h2, h3⟩ := lv_spec (N := N) (f := fun k => f (k + 1)) h
      refine ⟨h1, by omega, fun k hk => ?_⟩
      cases k with
      | zero => exact Bool.eq_false_iff.mpr q
      | succ k => exact h3 k (by omega)
section
variable {n N : Nat} {P : Mx} {l : Nat → Nat} {d : Rat}
/-- the further from the way out, the heavier -/
theorem weights_ok (h0 : 0 < d) (h1 : d < 1) (P0 : ∀ p q, p < n → q < n → 0 ≤ P p q) (P1 : ∀ p, p < n → S n (P p) ≤ 1) (lN : ∀ p, p < n → l p ≤ N)
    (l0 : ∀ p, p < n → l p = 0 → S n (P p) ≤ 1 - d) (l1 : ∀ p k, p < n → l p = k + 1 → ∃ q, q < n ∧ l q ≤ k ∧ d ≤ P p q) (p : Nat) (hp : p < n) :
    0 < 1 - d ^ (l p + 1) ∧ 1 - d ^ (l p + 1) ≤ 1 ∧ (1 - d) * d ^ (N + 1) ≤ (1 - d ^ (l p + 1)) - S n (fun q => P p q * (1 - d ^ (l q + 1))) := by
  have b1 : d ^ (l p + 1) ≤ d := by
    have := pow_anti h0 h1 (k := 1) (m := l p + 1) (by omega)
    rw [Rat.pow_one] at this
    exact this
  have b2 := Rat.pow_pos (n := l p + 1) h0
  refine ⟨by grind, by grind, ?_⟩
  have top : ∀ q, q < n → 1 - d ^ (l q + 1) ≤ 1 - d ^ (N + 1) := fun q hq => by
    have := pow_anti h0 h1 (k := l q + 1) (m := N + 1) (by have := lN q hq; omega)
    grind
  have W0 := Rat.pow_pos (n := N + 1) h0
  have W1 : d ^ (N + 1) ≤ d := by
    have := pow_anti h0 h1 (k := 1) (m := N + 1) (by omega)
    rw [Rat.pow_one] at this
    exact this
  cases e : l p with
  | zero =>
    have s := l0 p hp e
    have s0 : 0 ≤ S n (P p) := S_nonneg fun q hq => P0 p q hp hq
    have m : S n (fun q => P p q * (1 - d ^ (l q + 1))) ≤ S n (P p) * (1 - d ^ (N + 1)) := by
      rw [← S_mul]
      refine S_le fun q hq => ?_
      have a := P0 p q hp hq
      have b := top q hq
      have := Rat.mul_nonneg a (show 0 ≤ (1 - d ^ (N + 1)) - (1 - d ^ (l q + 1)) by grind)
      grind
    have t := Rat.mul_nonneg (show 0 ≤ (1 - d) - S n (P p) by grind) (show 0 ≤ 1 - d ^ (N + 1) by grind)
    rw [Nat.zero_add, Rat.pow_one]
    grind
  | succ k =>
    obtain ⟨q0, hq0, lq, dq⟩ := l1 p k hp e
    have s := P1 p hp
    have m : S n (fun q => P p q * (1 - d ^ (l q + 1))) ≤ S n (P p) * (1 - d ^ (N + 1)) - P p q0 * ((1 - d ^ (N + 1)) - (1 - d ^ (l q0 + 1))) := by
      rw [S_split _ hq0, S_split (P p) hq0]
      have tt : T n q0 (fun q => P p q * (1 - d ^ (l q + 1))) ≤ T n q0 (P p) * (1 - d ^ (N + 1)) := by
        have t1 : T n q0 (fun q => P p q * (1 - d ^ (l q + 1)) - P p q * (1 - d ^ (N + 1))) ≤ 0 := T_nonpos fun q hq _ => by
          have a := P0 p q hp hq
          have b := top q hq
          have := Rat.mul_nonneg a (show 0 ≤ (1 - d ^ (N + 1)) - (1 - d ^ (l q + 1)) by grind)
          grind
        rw [T_sub_mul] at t1
        grind
      grind
    have g1 : 1 - d ^ (l q0 + 1) ≤ 1 - d ^ (k + 1) := by
      have := pow_anti h0 h1 (k := l q0 + 1) (m := k + 1) (by omega)
      grind
    have kN : d ^ (N + 1) ≤ d ^ (k + 1) := pow_anti h0 h1 (by have := lN p hp; omega)
    have t1 := Rat.mul_nonneg (show 0 ≤ P p q0 - d by grind) (show 0 ≤ (1 - d ^ (N + 1)) - (1 - d ^ (l q0 + 1)) by have := top q0 hq0; grind)
    have t2 := Rat.mul_nonneg (Rat.le_of_lt h0) (show 0 ≤ (1 - d ^ (k + 1)) - (1 - d ^ (l q0 + 1)) by grind)
    have t3 := Rat.mul_nonneg (show 0 ≤ 1 - S n (P p) by grind) (show 0 ≤ 1 - d ^ (N + 1) by grind)
    have e2 : d ^ (k + 1 + 1) = d ^ (k + 1) * d := Rat.pow_succ _ _
    rw [e2]
    grind
end
/-- the matrix of the equations -/
def eqM (P : Mx) (a : Nat → Rat) (n : Nat) : Mx := fun i j => if j = n then a i else (if j = i then 1 else 0) - P j i
section
variable {n N : Nat} {P : Mx} {l : Nat → Nat} {d : Rat} {a : Nat → Rat}
theorem eq_col (w : Nat → Rat) (j : Nat) (hj : j < n) : col n w (eqM P a n) j = w j - S n (fun q => P j q * w q) := by
  unfold col eqM
  have e : S n (fun i => w i * (if j = n then a i else (if j = i then 1 else 0) - P j i)) = S n (fun i => w i * (if j = i then 1 else 0)) - S n (fun q => P j q * w q) := by
    rw [← S_sub]
    exact S_congr fun i _ => by rw [if_neg (by omega)]; grind
  rw [e, S_one n hj fun i _ ne => by rw [if_neg (Ne.symm ne), Rat.mul_zero], if_pos rfl, Rat.mul_one]
theorem eq_mm (h0 : 0 < d) (h1 : d < 1) (P0 : ∀ p q, p < n → q < n → 0 ≤ P p q) (P1 : ∀ p, p < n → S n (P p) ≤ 1) (lN : ∀ p, p < n → l p ≤ N)
    (l0 : ∀ p, p < n → l p = 0 → S n (P p) ≤ 1 - d) (l1 : ∀ p k, p < n → l p = k + 1 → ∃ q, q < n ∧ l q ≤ k ∧ d ≤ P p q) (a0 : ∀ i, i < n → 0 ≤ a i) : MM n (eqM P a n) (fun p => 1 - d ^ (l p + 1)) := by
  have k := weights_ok h0 h1 P0 P1 lN l0 l1
  refine ⟨fun i hi => (k i hi).1, fun j hj => ?_, fun i j hi hj ne => ?_, fun i hi => ?_⟩
  · rw [eq_col _ j hj]
    have := (k j hj).2.2
    have e := Rat.mul_pos (show 0 < 1 - d by grind) (Rat.pow_pos (n := N + 1) h0)
    grind
  · unfold eqM
    rw [if_neg (by omega), if_neg (Ne.symm ne)]
    have := P0 j i hj hi
    grind
  · unfold eqM
    rw [if_pos rfl]
    exact a0 i hi
/-- how large the solution is -/
theorem eq_bound (h0 : 0 < d) (h1 : d < 1) (P0 : ∀ p q, p < n → q < n → 0 ≤ P p q) (P1 : ∀ p, p < n → S n (P p) ≤ 1) (lN : ∀ p, p < n → l p ≤ N)
    (l0 : ∀ p, p < n → l p = 0 → S n (P p) ≤ 1 - d) (l1 : ∀ p k, p < n → l p = k + 1 → ∃ q, q < n ∧ l q ≤ k ∧ d ≤ P p q) (a0 : ∀ i, i < n → 0 ≤ a i)
    {r : Nat → Rat} (r0 : ∀ i, i < n → 0 ≤ r i) (sol : Sol n (eqM P a n) r) (j : Nat) (hj : j < n) : (1 - d) * d ^ (N + 1) * r j ≤ S n a := by
  have k := weights_ok h0 h1 P0 P1 lN l0 l1
  have e1 : S n (fun i => (1 - d ^ (l i + 1)) * a i) = S n (fun j => col n (fun p => 1 - d ^ (l p + 1)) (eqM P a n) j * r j) := by
    unfold col
    have c : S n (fun j => S n (fun i => (1 - d ^ (l i + 1)) * eqM P a n i j) * r j) = S n (fun j => S n (fun i => (1 - d ^ (l i + 1)) * (eqM P a n i j * r j))) := S_congr fun j _ => by
      rw [← S_mul]
      exact S_congr fun i _ => by grind
    rw [c, S_comm n n fun j i => (1 - d ^ (l i + 1)) * (eqM P a n i j * r j)]
    exact S_congr fun i hi => by
      rw [S_mull, sol i hi]
      unfold eqM
      rw [if_pos rfl]
  have e2 : S n (fun i => (1 - d ^ (l i + 1)) * a i) ≤ S n a := S_le fun i hi => by
    have := Rat.mul_nonneg (show 0 ≤ 1 - (1 - d ^ (l i + 1)) by have := (k i hi).2.1; grind) (a0 i hi)
    grind
  have low : ∀ i, i < n → (1 - d) * d ^ (N + 1) * r i ≤ col n (fun p => 1 - d ^ (l p + 1)) (eqM P a n) i * r i := fun i hi => by
    rw [eq_col _ i hi]
    have := Rat.mul_nonneg (show 0 ≤ (1 - d ^ (l i + 1) - S n (fun q => P i q * (1 - d ^ (l q + 1)))) - (1 - d) * d ^ (N + 1) by have := (k i hi).2.2; grind) (r0 i hi)
    grind
  have ep := Rat.mul_pos (show 0 < 1 - d by grind) (Rat.pow_pos (n := N + 1) h0)
  have e3 : (1 - d) * d ^ (N + 1) * r j ≤ S n (fun i => (1 - d) * d ^ (N + 1) * r i) := by
    rw [S_split _ hj]
    have : 0 ≤ T n j (fun i => (1 - d) * d ^ (N + 1) * r i) := S_nonneg fun i hi => by
      by_cases q : i = j
      · rw [if_pos q]; exact Rat.le_refl
      · rw [if_neg q]; exact Rat.mul_nonneg (Rat.le_of_lt ep) (r0 i hi)
    grind
  have e4 := S_le low
  grind
end
end OQ
/-! how large the numbers are -/
namespace OQ
open Lrx1 (Fraction add sub mul divide whole zero one reduce lt le sum entry isZero)
/-- numerator and denominator below 2 ^ b -/
def Sz (b : Nat) (q : Fraction) : Prop := q.num.natAbs < 2 ^ b ∧ q.den < 2 ^ b
theorem Sz.mono {a b : Nat} {q : Fraction} (h : Sz a q) (l : a ≤ b) : Sz b q :=
  ⟨Nat.lt_of_lt_of_le h.1 (Nat.pow_le_pow_right (by decide) l), Nat.lt_of_lt_of_le h.2 (Nat.pow_le_pow_right (by decide) l)⟩
theorem reduce_small (n : Int) (d : Nat) : (reduce n d).num.natAbs ≤ n.natAbs ∧ (reduce n d).den ≤ max d 1 := by
  unfold reduce
  by_cases h : d = 0
  · rw [if_pos h]
    exact ⟨Nat.zero_le _, by show 1 ≤ max d 1; omega⟩
  · rw [if_neg h]
    constructor
    · show (n / ((Nat.gcd n.natAbs d : Nat) : Int)).natAbs ≤ n.natAbs
      rw [Int.natAbs_ediv_of_dvd (by rw [Int.ofNat_dvd_left]; exact Nat.gcd_dvd_left _ _)]
      exact Nat.div_le_self _ _
    · show d / Nat.gcd n.natAbs d ≤ max d 1
      have := Nat.div_le_self d (Nat.gcd n.natAbs d)
      omega
theorem sz_reduce {n : Int} {d b : Nat} (hn : n.natAbs < 2 ^ b) (hd : d < 2 ^ b) (hb : 0 < b) : Sz b (reduce n d) := by
  obtain ⟨h1, h2⟩ := reduce_small n d
  have h3 : 1 < 2 ^ b := Nat.one_lt_two_pow (by omega)
  exact ⟨by omega, by omega⟩
/-- a value told by other numbers is no larger than these -/
theorem sz_rep {q : Fraction} {m : Int} {d b : Nat} (h : Cn q) (hd : 0 < d) (e : val q = (m : Rat) / (d : Rat)) (hm : m.natAbs < 2 ^ b) (hdb : d < 2 ^ b) : Sz b q := by
  have q1 : q = reduce m d := val_inj h (cn_reduce _ _) (by rw [e, val_reduce_div])
  obtain ⟨h1, h2⟩ := reduce_small m d
  rw [← q1] at h1 h2
  exact ⟨by omega, by omega⟩
theorem mul_lt_pow {x y a b : Nat} (hx : x < 2 ^ a) (hy : y < 2 ^ b) : x * y < 2 ^ (a + b) := by
  rw [Nat.pow_add]
  exact Nat.mul_lt_mul'' hx hy
theorem sz_mul {p q : Fraction} {a b : Nat} (hp : Sz a p) (hq : Sz b q) (h : 0 < a + b) : Sz (a + b) (mul p q) :=
  sz_reduce (by rw [Int.natAbs_mul]; exact mul_lt_pow hp.1 hq.1) (mul_lt_pow hp.2 hq.2) h
theorem sz_add {p q : Fraction} {a b : Nat} (hp : Sz a p) (hq : Sz b q) : Sz (a + b + 1) (add p q) := by
  have e1 : (p.num * (q.den : Int) + q.num * (p.den : Int)).natAbs ≤ p.num.natAbs * q.den + q.num.natAbs * p.den := by
    refine Nat.le_trans (Int.natAbs_add_le _ _) ?_
    rw [Int.natAbs_mul, Int.natAbs_mul, Int.natAbs_natCast, Int.natAbs_natCast]
    exact Nat.le_refl _
  have h1 := mul_lt_pow hp.1 hq.2
  have h2 := mul_lt_pow hq.1 hp.2
  rw [Nat.add_comm b a] at h2
  have h3 := mul_lt_pow hp.2 hq.2
  have e : 2 ^ (a + b + 1) = 2 ^ (a + b) * 2 := Nat.pow_succ ..
  exact sz_reduce (by omega) (by omega) (by omega)
theorem sz_sub {p q : Fraction} {a b : Nat} (hp : Sz a p) (hq : Sz b q) : Sz (a + b + 1) (sub p q) := by
  have e1 : (p.num * (q.den : Int) - q.num * (p.den : Int)).natAbs ≤ p.num.natAbs * q.den + q.num.natAbs * p.den := by
    refine Nat.le_trans (Int.natAbs_sub_le _ _) ?_
    rw [Int.natAbs_mul, Int.natAbs_mul, Int.natAbs_natCast, Int.natAbs_natCast]
    exact Nat.le_refl _
  have h1 := mul_lt_pow hp.1 hq.2
  have h2 := mul_lt_pow hq.1 hp.2
  rw [Nat.add_comm b a] at h2
  have h3 := mul_lt_pow hp.2 hq.2
  have e : 2 ^ (a + b + 1) = 2 ^ (a + b) * 2 := Nat.pow_succ ..
  exact sz_reduce (by omega) (by omega) (by omega)
theorem sz_divide {p q : Fraction} {a b : Nat} (hp : Sz a p) (hq : Sz b q) (h : 0 < a + b) : Sz (a + b) (divide p q) := by
  refine sz_reduce ?_ ?_ h
  · have : (p.num * (q.den : Int)).natAbs < 2 ^ (a + b) := by
      rw [Int.natAbs_mul, Int.natAbs_natCast]
      exact mul_lt_pow hp.1 hq.2
    split
    · rw [Int.natAbs_neg]; exact this
    · exact this
  · rw [Nat.mul_comm, Nat.add_comm]
    have := mul_lt_pow hq.1 hp.2
    exact this
theorem sz_whole {k : Int} {b : Nat} (h : k.natAbs < 2 ^ b) (hb : 0 < b) : Sz b (whole k) := ⟨h, Nat.one_lt_two_pow (by omega)⟩
theorem sz_zero {b : Nat} (hb : 0 < b) : Sz b zero := ⟨Nat.pow_pos (by decide), Nat.one_lt_two_pow (by omega)⟩
theorem sz_one {b : Nat} (hb : 0 < b) : Sz b one := ⟨Nat.one_lt_two_pow (by omega), Nat.one_lt_two_pow (by omega)⟩
theorem sz_foldl : ∀ {l : List Fraction} {x : Fraction} {a b : Nat}, Sz a x → (∀ y ∈ l, Sz b y) → Sz (a + l.length * (b + 1)) (l.foldl add x)
  | [], x, a, b, h, _ => by
    rw [show a + ([] : List Fraction).length * (b + 1) = a by simp]
    exact h
  | y :: l, x, a, b, h, hl => by
    have h1 := sz_add h (hl y List.mem_cons_self)
    have h2 := sz_foldl (l := l) h1 fun z hz => hl z (List.mem_cons_of_mem _ hz)
    have e : a + b + 1 + l.length * (b + 1) = a + (y :: l).length * (b + 1) := by
      rw [List.length_cons, Nat.add_mul]
      omega
    rw [e] at h2
    exact h2
theorem sz_sum {l : List Fraction} {b : Nat} (h : ∀ y ∈ l, Sz b y) : Sz (1 + l.length * (b + 1)) (sum l) := sz_foldl (sz_zero (by decide)) h
/-! ### a row's common denominator -/
def RB (n b : Nat) (r : Row) : Prop := ∃ d : Nat, 0 < d ∧ d < 2 ^ b ∧ ∀ j, j < n + 1 → ∃ m : Int, m.natAbs < 2 ^ b ∧ val (entry r j) = (m : Rat) / (d : Rat)
theorem natCast_ne {d : Nat} (h : 0 < d) : (d : Rat) ≠ 0 := by
  have := Rat.natCast_pos.mpr h
  grind
theorem val_nd {q : Fraction} : val q = (q.num : Rat) / (q.den : Rat) := by
  unfold val
  rw [Rat.mkRat_eq_div]
theorem common : ∀ {l : List Fraction} {s : Nat}, (∀ x ∈ l, Cn x ∧ Sz s x) → ∃ d : Nat, 0 < d ∧ d ≤ 2 ^ (s * l.length) ∧ ∀ x ∈ l, ∃ m : Int, m.natAbs ≤ 2 ^ (s * l.length) ∧ val x = (m : Rat) / (d : Rat)
  | [], s, _ => ⟨1, by decide, by simp, fun x hx => by cases hx⟩
  | y :: l, s, h => by
    obtain ⟨d, d0, d1, hd⟩ := common (l := l) fun x hx => h x (List.mem_cons_of_mem _ hx)
    obtain ⟨cy, sy⟩ := h y List.mem_cons_self
    have yd : 0 < y.den := cy.1
    have le : 2 ^ (s * (y :: l).length) = 2 ^ s * 2 ^ (s * l.length) := by
      rw [List.length_cons, Nat.mul_add, Nat.mul_one, Nat.add_comm, Nat.pow_add]
    have r1 := natCast_ne d0
    have r2 := natCast_ne yd
    refine ⟨y.den * d, Nat.mul_pos yd d0, ?_, fun x hx => ?_⟩
    · rw [le]
      exact Nat.mul_le_mul (Nat.le_of_lt sy.2) d1
    · rw [Rat.natCast_mul]
      rcases List.mem_cons.mp hx with e | e
      · subst e
        refine ⟨x.num * (d : Int), ?_, ?_⟩
        · rw [Int.natAbs_mul, Int.natAbs_natCast, le]
          exact Nat.mul_le_mul (Nat.le_of_lt sy.1) d1
        · rw [val_nd, Rat.intCast_mul]
          show _ = ((x.num : Rat) * (d : Rat)) / ((x.den : Rat) * (d : Rat))
          grind
      · obtain ⟨m, m1, m2⟩ := hd x e
        refine ⟨m * (y.den : Int), ?_, ?_⟩
        · rw [Int.natAbs_mul, Int.natAbs_natCast, le, Nat.mul_comm]
          exact Nat.mul_le_mul (Nat.le_of_lt sy.2) m1
        · rw [m2, Rat.intCast_mul]
          show _ = ((m : Rat) * (y.den : Rat)) / ((y.den : Rat) * (d : Rat))
          grind
theorem rb_of {n s : Nat} {r : Row} (hl : r.length = n + 1) (h : ∀ x ∈ r, Cn x ∧ Sz s x) : RB n (s * (n + 1) + 1) r := by
  obtain ⟨d, d0, d1, hd⟩ := common h
  rw [hl] at d1 hd
  have e : 2 ^ (s * (n + 1) + 1) = 2 ^ (s * (n + 1)) * 2 := Nat.pow_succ ..
  have p : 0 < 2 ^ (s * (n + 1)) := Nat.pow_pos (by decide)
  refine ⟨d, d0, by omega, fun j hj => ?_⟩
  obtain ⟨m, m1, m2⟩ := hd (entry r j) (getD_mem (by rw [hl]; exact hj))
  exact ⟨m, by omega, m2⟩
theorem RB.sz {n b : Nat} {r : Row} (h : RB n b r) (hl : r.length = n + 1) (hc : ∀ x ∈ r, Cn x) : ∀ x ∈ r, Sz b x := fun x hx => by
  obtain ⟨d, d0, d1, hd⟩ := h
  obtain ⟨j, h1, h2⟩ := List.mem_iff_getElem.mp hx
  obtain ⟨m, m1, m2⟩ := hd j (by omega)
  have e : entry r j = x := by
    unfold entry
    rw [List.getD_eq_getElem?_getD, List.getElem?_eq_getElem h1, ← h2]
    rfl
  rw [e] at m2
  exact sz_rep (hc x hx) d0 m2 m1 d1
section
variable {n c b : Nat} {R : List Row}
theorem rb_step (h : Rows n R) (hc : c < n) (hp : 0 < val (entry (R.getD c []) c)) (hb : ∀ i, i < n → RB n b (R.getD i [])) (i : Nat) (hi : i < n) : RB n (2 * b + 1) ((mCleared R c).getD i []) := by
  obtain ⟨d, d0, d1, hd⟩ := hb c hc
  obtain ⟨k, k1, k2⟩ := hd c (by omega)
  have dr := natCast_ne d0
  have dp := Rat.natCast_pos.mpr d0
  have kp : 0 < (k : Rat) := by
    rw [k2] at hp
    have := Rat.mul_pos hp dp
    rw [Rat.div_mul_cancel dr] at this
    exact this
  have ki : 0 < k := Rat.intCast_pos.mp kp
  obtain ⟨kn, rfl⟩ : ∃ kn : Nat, k = (kn : Int) := ⟨k.toNat, by omega⟩
  have kn0 : 0 < kn := by omega
  have kr := natCast_ne kn0
  have knb : kn < 2 ^ b := by simpa using k1
  have lead : ∀ j, j < n + 1 → ∃ m : Int, m.natAbs < 2 ^ b ∧ val (entry (R.getD c []) j) / val (entry (R.getD c []) c) = (m : Rat) / (kn : Rat) := fun j hj => by
    obtain ⟨m, m1, m2⟩ := hd j hj
    refine ⟨m, m1, ?_⟩
    rw [m2, k2]
    show (m : Rat) / (d : Rat) / ((kn : Rat) / (d : Rat)) = (m : Rat) / (kn : Rat)
    grind
  have big : (2 : Nat) ^ b ≤ 2 ^ (2 * b + 1) := Nat.pow_le_pow_right (by decide) (by omega)
  by_cases e : i = c
  · refine ⟨kn, kn0, by omega, fun j hj => ?_⟩
    obtain ⟨m, m1, m2⟩ := lead j hj
    refine ⟨m, by omega, ?_⟩
    rw [cleared_entry h hc hi hj, if_pos e, val_divide (h.cnE hc j) (h.cnE hc c)]
    exact m2
  · obtain ⟨d', d0', d1', hd'⟩ := hb i hi
    obtain ⟨u, u1, u2⟩ := hd' c (by omega)
    have dr' := natCast_ne d0'
    have sq : 2 ^ (2 * b + 1) = 2 ^ (b + b) * 2 := by rw [← Nat.pow_succ]; congr 1; omega
    refine ⟨d' * kn, Nat.mul_pos d0' kn0, ?_, fun j hj => ?_⟩
    · have := mul_lt_pow d1' knb
      omega
    · obtain ⟨m, m1, m2⟩ := lead j hj
      obtain ⟨v, v1, v2⟩ := hd' j hj
      refine ⟨v * (kn : Int) - u * m, ?_, ?_⟩
      · have a1 := mul_lt_pow v1 knb
        have a2 := mul_lt_pow u1 m1
        have a3 := Int.natAbs_sub_le (v * (kn : Int)) (u * m)
        rw [Int.natAbs_mul, Int.natAbs_mul, Int.natAbs_natCast] at a3
        omega
      · rw [cleared_entry h hc hi hj, if_neg e, val_sub (h.cnE hi j) (cn_mul _ _), val_mul (h.cnE hi c) (cn_divide _ _), val_divide (h.cnE hc j) (h.cnE hc c), m2, v2, u2, Rat.natCast_mul, Rat.intCast_sub, Rat.intCast_mul, Rat.intCast_mul]
        show (v : Rat) / (d' : Rat) - (u : Rat) / (d' : Rat) * ((m : Rat) / (kn : Rat)) = ((v : Rat) * (kn : Rat) - (u : Rat) * (m : Rat)) / ((d' : Rat) * (kn : Rat))
        grind
def bb (b : Nat) : Nat → Nat
  | 0 => b
  | k + 1 => 2 * bb b k + 1
theorem bb_eq (b : Nat) : ∀ k, bb b k + 1 = (b + 1) * 2 ^ k
  | 0 => by simp [bb]
  | k + 1 => by
    have := bb_eq b k
    unfold bb
    rw [Nat.pow_succ, ← Nat.mul_assoc, ← this]
    omega
theorem rb_iter (h : Rows n R) (m : ∃ w, MM n (mx R) w) (hb : ∀ i, i < n → RB n b (R.getD i [])) : ∀ k, k ≤ n → ∀ i, i < n → RB n (bb b k) ((mIter R k).getD i [])
  | 0, _, i, hi => hb i hi
  | k + 1, hk, i, hi => rb_step (mIter_rows h m k (by omega)).1 (by omega) (mIter_pivot h m k (by omega)) (rb_iter h m hb k (by omega)) i hi
/-- all that the elimination meets -/
structure Run (n : Nat) (R : List Row) : Prop where
  rows : ∀ k, k ≤ n → Rows n (mIter R k)
  piv : ∀ k, k < n → 0 < val (entry ((mIter R k).getD k []) k)
  small : ∀ k, k ≤ n → ∀ r ∈ mIter R k, ∀ x ∈ r, Sz 10000000 x
theorem run_ok (hn : n ≤ 15) (h : Rows n R) (m : ∃ w, MM n (mx R) w) (hs : ∀ r ∈ R, ∀ x ∈ r, Sz 17 x) : Run n R := by
  refine ⟨fun k hk => (mIter_rows h m k hk).1, fun k hk => mIter_pivot h m k hk, fun k hk r hr => ?_⟩
  have r1 := (mIter_rows h m k hk).1
  have e := rb_iter h m (b := 17 * (n + 1) + 1) (fun i hi => by
    have mem : R.getD i [] ∈ R := getD_mem (by rw [h.len]; exact hi)
    exact rb_of (h.wid _ mem) fun x hx => ⟨h.cn _ mem x hx, hs _ mem x hx⟩) k hk
  obtain ⟨i, h1, h2⟩ := List.mem_iff_getElem.mp hr
  have e2 : (mIter R k).getD i [] = r := by
    rw [List.getD_eq_getElem?_getD, List.getElem?_eq_getElem h1, ← h2]
    rfl
  have e3 := e i (by rw [← r1.len]; exact h1)
  rw [e2] at e3
  intro x hx
  refine (e3.sz (r1.wid r hr) (r1.cn r hr) x hx).mono ?_
  have q := bb_eq (17 * (n + 1) + 1) k
  have q2 : 2 ^ k ≤ 2 ^ 15 := Nat.pow_le_pow_right (by decide) (by omega)
  have q3 : (17 * (n + 1) + 1 + 1) * 2 ^ k ≤ 274 * 2 ^ 15 := Nat.mul_le_mul (by omega) q2
  omega
end
end OQ
/-! the document's network: its equations -/
namespace OQ
open Lrx1 (Fraction add sub mul divide whole zero one reduce lt le sum entry isZero)
open Lrx4 (Network Station stationCount placeCount places stationOf place placesOf getStation arrival service leaveWeight routeWeight weightSum route leave leadsOut)
structure NetOk (net : Network) : Prop where
  st : 1 ≤ stationCount net ∧ stationCount net ≤ 5
  cl : 1 ≤ net.classCount ∧ net.classCount ≤ 3
  la : net.arrivals.length = placeCount net
  ls : net.services.length = placeCount net
  ll : net.leaving.length = placeCount net
  lr : net.routes.length = placeCount net
  lrr : ∀ r ∈ net.routes, r.length = placeCount net
  ba : ∀ a ∈ net.arrivals, a ≤ 100000
  bs : ∀ a ∈ net.services, 1 ≤ a ∧ a ≤ 100000
  bl : ∀ a ∈ net.leaving, a ≤ 1000
  br : ∀ r ∈ net.routes, ∀ x ∈ r, x ≤ 1000
  kd : ∀ s ∈ net.stations, s.kind ≤ 3 ∧ (s.kind = 0 → 1 ≤ s.servers ∧ s.servers ≤ 20) ∧ (s.kind ≠ 0 → s.servers = 1)
theorem getD_le {l : List Nat} {i d m : Nat} (h : ∀ a ∈ l, a ≤ m) (hd : d ≤ m) : l.getD i d ≤ m := by
  by_cases q : i < l.length
  · exact h _ (getD_mem q)
  · rw [List.getD_eq_getElem?_getD, List.getElem?_eq_none (by omega)]
    exact hd
section
variable {net : Network}
theorem NetOk.n1 (ok : NetOk net) : 1 ≤ placeCount net ∧ placeCount net ≤ 15 := by
  unfold placeCount
  have h1 := ok.st
  have h2 := ok.cl
  constructor
  · exact Nat.mul_pos h1.1 h2.1
  · exact Nat.le_trans (Nat.mul_le_mul h1.2 h2.2) (by decide)
theorem NetOk.arr (ok : NetOk net) (p : Nat) : arrival net p ≤ 100000 := getD_le ok.ba (by decide)
theorem NetOk.ser (ok : NetOk net) (p : Nat) : 1 ≤ service net p ∧ service net p ≤ 100000 := by
  unfold service
  by_cases q : p < net.services.length
  · exact ok.bs _ (getD_mem q)
  · rw [List.getD_eq_getElem?_getD, List.getElem?_eq_none (by omega)]
    decide
theorem NetOk.lea (ok : NetOk net) (p : Nat) : leaveWeight net p ≤ 1000 := getD_le ok.bl (by decide)
theorem NetOk.rou (ok : NetOk net) (p q : Nat) : routeWeight net p q ≤ 1000 := by
  unfold routeWeight
  by_cases h : p < net.routes.length
  · exact getD_le (ok.br _ (getD_mem h)) (by decide)
  · have e : net.routes.getD p [] = [] := by
      rw [List.getD_eq_getElem?_getD, List.getElem?_eq_none (by omega)]
      rfl
    rw [e]
    exact Nat.zero_le _
theorem NetOk.kind (ok : NetOk net) (i : Nat) : (getStation net i).kind ≤ 3 ∧ ((getStation net i).kind = 0 → 1 ≤ (getStation net i).servers ∧ (getStation net i).servers ≤ 20) ∧ ((getStation net i).kind ≠ 0 → (getStation net i).servers = 1) := by
  unfold getStation
  by_cases h : i < net.stations.length
  · exact ok.kd _ (getD_mem h)
  · rw [List.getD_eq_getElem?_getD, List.getElem?_eq_none (by omega)]
    exact ⟨by decide, fun _ => by decide, fun h => absurd rfl h⟩
theorem fold_range (f : Nat → Nat) : ∀ (n : Nat), (((List.range n).foldl (fun (s q : Nat) => s + f q) 0 : Nat) : Rat) = S n fun q => (f q : Rat)
  | 0 => rfl
  | n + 1 => by
    rw [List.range_succ, List.foldl_append]
    show (((List.range n).foldl (fun (s q : Nat) => s + f q) 0 + f n : Nat) : Rat) = _
    rw [Rat.natCast_add, fold_range f n]
    rfl
theorem fold_le (f : Nat → Nat) {m : Nat} (h : ∀ q, f q ≤ m) : ∀ (n : Nat), (List.range n).foldl (fun (s q : Nat) => s + f q) 0 ≤ n * m
  | 0 => by simp
  | n + 1 => by
    rw [List.range_succ, List.foldl_append]
    show (List.range n).foldl (fun (s q : Nat) => s + f q) 0 + f n ≤ (n + 1) * m
    have := fold_le f h n
    have := h n
    rw [Nat.add_mul]
    omega
theorem weight_sum_rat (p : Nat) : (weightSum net p : Rat) = (leaveWeight net p : Rat) + S (placeCount net) fun q => (routeWeight net p q : Rat) := by
  unfold weightSum places
  rw [Rat.natCast_add, fold_range]
theorem NetOk.wsum (ok : NetOk net) (p : Nat) : weightSum net p ≤ 16000 := by
  unfold weightSum places
  have h1 := ok.lea p
  have h2 := fold_le (routeWeight net p) (ok.rou p) (placeCount net)
  have h3 := ok.n1.2
  have h4 : placeCount net * 1000 ≤ 15 * 1000 := Nat.mul_le_mul_right _ h3
  omega
theorem wsum_ge (p : Nat) : leaveWeight net p ≤ weightSum net p := by unfold weightSum; omega
/-! ### chances -/
def PN (net : Network) : Mx := fun p q => val (route net p q)
theorem cn_route (p q : Nat) : Cn (route net p q) := cn_reduce _ _
theorem cn_leave (p : Nat) : Cn (leave net p) := by
  unfold leave
  split
  · exact cn_one
  · exact cn_reduce _ _
theorem val_route (p q : Nat) : PN net p q = (routeWeight net p q : Rat) / (weightSum net p : Rat) := by
  unfold PN route
  rw [val_reduce_div]
  rfl
theorem pn_zero {p : Nat} (h : weightSum net p = 0) (q : Nat) : PN net p q = 0 := by
  rw [val_route, h]
  show _ / (0 : Rat) = 0
  grind
theorem pn_sum {p : Nat} (h : weightSum net p ≠ 0) : S (placeCount net) (PN net p) = 1 - (leaveWeight net p : Rat) / (weightSum net p : Rat) := by
  have e : S (placeCount net) (PN net p) = (S (placeCount net) fun q => (routeWeight net p q : Rat)) * (weightSum net p : Rat)⁻¹ := by
    rw [← S_mul]
    exact S_congr fun q _ => by rw [val_route, Rat.div_def]
  have z := natCast_ne (show 0 < weightSum net p by omega)
  have w := weight_sum_rat (net := net) p
  rw [e, Rat.div_def]
  generalize S (placeCount net) (fun q => (routeWeight net p q : Rat)) = x at *
  generalize (weightSum net p : Rat) = y at *
  generalize (leaveWeight net p : Rat) = u at *
  grind
theorem pn_nonneg (p q : Nat) : 0 ≤ PN net p q := by
  rw [val_route, Rat.div_def]
  have a : (0 : Rat) ≤ (routeWeight net p q : Rat) := Rat.natCast_nonneg
  by_cases z : weightSum net p = 0
  · rw [z]
    show 0 ≤ _ * (0 : Rat)⁻¹
    grind
  · exact Rat.mul_nonneg a (Rat.le_of_lt (Rat.inv_pos.mpr (Rat.natCast_pos.mpr (by omega))))
theorem div_nonneg' {a b : Rat} (ha : 0 ≤ a) (hb : 0 ≤ b) : 0 ≤ a / b := by
  by_cases z : b = 0
  · rw [z]; grind
  · rw [Rat.div_def]
    exact Rat.mul_nonneg ha (Rat.le_of_lt (Rat.inv_pos.mpr (by grind)))
theorem pn_le (p : Nat) : S (placeCount net) (PN net p) ≤ 1 := by
  by_cases z : weightSum net p = 0
  · rw [show S (placeCount net) (PN net p) = S (placeCount net) (fun _ => 0) from S_congr fun q _ => pn_zero z q, S_zero]
    grind
  · rw [pn_sum z]
    have := div_nonneg' (a := (leaveWeight net p : Rat)) (b := (weightSum net p : Rat)) Rat.natCast_nonneg Rat.natCast_nonneg
    grind
abbrev dl : Rat := 1 / 16000
theorem dl0 : (0 : Rat) < dl := by decide +kernel
theorem dl1 : dl < (1 : Rat) := by decide +kernel
theorem one_of {x s : Nat} (hx : 1 ≤ x) (hs : 0 < s) (h : s ≤ 16000) : dl ≤ (x : Rat) / (s : Rat) := by
  have a : (1 : Rat) ≤ (x : Rat) := Rat.natCast_le_natCast.mpr hx
  have b : (s : Rat) ≤ 16000 := Rat.natCast_le_natCast.mpr h
  have c : (0 : Rat) < (s : Rat) := Rat.natCast_pos.mpr hs
  have d : (x : Rat) / (s : Rat) * (s : Rat) = (x : Rat) := Rat.div_mul_cancel (Rat.ne_of_gt c)
  false_or_by_contra
  rename_i q
  have q2 : (x : Rat) / (s : Rat) < dl := by grind
  have m := Rat.mul_lt_mul_of_pos_right q2 c
  rw [d] at m
  have e : dl * (s : Rat) ≤ dl * 16000 := Rat.mul_le_mul_of_nonneg_left b (Rat.le_of_lt dl0)
  have f : dl * 16000 = 1 := by decide +kernel
  grind
/-! ### the ways out -/
theorem leads_mem {k p : Nat} (h : p ∈ leadsOut net k) : p < placeCount net := by
  cases k with
  | zero =>
    have := (List.mem_filter.mp h).1
    exact List.mem_range.mp this
  | succ k =>
    have := (List.mem_filter.mp h).1
    exact List.mem_range.mp this
def level (net : Network) (p : Nat) : Nat := lv (fun k => (leadsOut net k).contains p) (placeCount net)
theorem isOpen_iff : Lrx4.isOpen net = true ↔ ∀ p, p < placeCount net → p ∈ leadsOut net (placeCount net) := by
  unfold Lrx4.isOpen places
  rw [List.all_eq_true]
  constructor
  · intro h p hp
    have := h p (List.mem_range.mpr hp)
    exact List.contains_iff_mem.mp this
  · intro h p hp
    exact List.contains_iff_mem.mpr (h p (List.mem_range.mp hp))
section
variable (op : Lrx4.isOpen net = true)
include op
theorem level_ok {p : Nat} (hp : p < placeCount net) : p ∈ leadsOut net (level net p) ∧ level net p ≤ placeCount net ∧ ∀ k, k < level net p → ¬ p ∈ leadsOut net k := by
  have h := isOpen_iff.mp op p hp
  obtain ⟨h1, h2, h3⟩ := lv_spec (N := placeCount net) (f := fun k => (leadsOut net k).contains p) (List.contains_iff_mem.mpr h)
  refine ⟨List.contains_iff_mem.mp h1, h2, fun k hk q => ?_⟩
  have := h3 k hk
  rw [List.contains_iff_mem.mpr q] at this
  cases this
theorem level_zero (ok : NetOk net) {p : Nat} (hp : p < placeCount net) (h : level net p = 0) : S (placeCount net) (PN net p) ≤ 1 - dl := by
  have m := (level_ok op hp).1
  rw [h] at m
  have nz := (List.mem_filter.mp m).2
  by_cases z : weightSum net p = 0
  · rw [show S (placeCount net) (PN net p) = S (placeCount net) (fun _ => 0) from S_congr fun q _ => pn_zero z q, S_zero]
    have := dl1
    grind
  · have lp : 1 ≤ leaveWeight net p := by
      false_or_by_contra
      have e : leaveWeight net p = 0 := by omega
      unfold leave at nz
      rw [if_neg z, e] at nz
      have : isZero (reduce ((0 : Nat) : Int) (weightSum net p)) = true := by
        rw [isZero_iff (cn_reduce _ _), val_reduce]
        exact Rat.zero_mkRat _
      rw [this] at nz
      cases nz
    rw [pn_sum z]
    have := one_of lp (by omega) (ok.wsum p)
    grind
theorem level_succ (ok : NetOk net) {p k : Nat} (hp : p < placeCount net) (h : level net p = k + 1) : ∃ q, q < placeCount net ∧ level net q ≤ k ∧ dl ≤ PN net p q := by
  obtain ⟨m, _, nm⟩ := level_ok op hp
  rw [h] at m nm
  have m2 := (List.mem_filter.mp m).2
  have n2 := nm k (by omega)
  have m3 : ((leadsOut net k).contains p || (leadsOut net k).any fun q => decide (0 < routeWeight net p q)) = true := m2
  rw [Bool.or_eq_true] at m3
  rcases m3 with e | e
  · exact absurd (List.contains_iff_mem.mp e) n2
  · obtain ⟨q, hq, w⟩ := List.any_eq_true.mp e
    have w1 := of_decide_eq_true w
    have hqn := leads_mem hq
    refine ⟨q, hqn, ?_, ?_⟩
    · obtain ⟨_, _, nq⟩ := level_ok op hqn
      false_or_by_contra
      exact nq k (by omega) hq
    · rw [val_route]
      refine one_of w1 ?_ (ok.wsum p)
      have wr := weight_sum_rat (net := net) p
      false_or_by_contra
      have z : weightSum net p = 0 := by omega
      rw [z] at wr
      have s1 := S_split (fun q => (routeWeight net p q : Rat)) hqn
      have s2 : 0 ≤ T (placeCount net) q fun q => (routeWeight net p q : Rat) := S_nonneg fun i _ => by
        by_cases c : i = q
        · rw [if_pos c]; exact Rat.le_refl
        · rw [if_neg c]; exact Rat.natCast_nonneg
      have s3 : (0 : Rat) < (routeWeight net p q : Rat) := Rat.natCast_pos.mpr w1
      have s4 : (0 : Rat) ≤ (leaveWeight net p : Rat) := Rat.natCast_nonneg
      have s5 : ((0 : Nat) : Rat) = 0 := rfl
      grind
end
/-! ### the equations -/
def eqRows (net : Network) (side : Nat → Fraction) : List Row := (places net).map fun q => ((places net).map fun p => sub (if p = q then one else zero) (route net p q)) ++ [side q]
theorem eqRows_getD (side : Nat → Fraction) {i : Nat} (hi : i < placeCount net) : (eqRows net side).getD i [] = ((places net).map fun p => sub (if p = i then one else zero) (route net p i)) ++ [side i] := by
  unfold eqRows places
  rw [getD_map_range hi]
theorem eqRows_rows {side : Nat → Fraction} (hs : ∀ i, i < placeCount net → Cn (side i)) : Rows (placeCount net) (eqRows net side) := by
  refine ⟨by unfold eqRows places; rw [List.length_map, List.length_range], fun r hr => ?_, fun r hr x hx => ?_⟩
  · obtain ⟨q, _, rfl⟩ := List.mem_map.mp hr
    unfold places
    rw [List.length_append, List.length_map, List.length_range]
    rfl
  · obtain ⟨q, hq, rfl⟩ := List.mem_map.mp hr
    rcases List.mem_append.mp hx with h | h
    · obtain ⟨p, _, rfl⟩ := List.mem_map.mp h
      exact cn_sub _ _
    · rw [List.mem_singleton.mp h]
      exact hs q (List.mem_range.mp hq)
theorem eqRows_mx (side : Nat → Fraction) {i j : Nat} (hi : i < placeCount net) (hj : j < placeCount net + 1) : mx (eqRows net side) i j = eqM (PN net) (fun i => val (side i)) (placeCount net) i j := by
  unfold mx
  rw [eqRows_getD side hi]
  unfold eqM entry places
  rw [List.getD_eq_getElem?_getD]
  by_cases e : j = placeCount net
  · rw [if_pos e, List.getElem?_append_right (by rw [List.length_map, List.length_range]; omega), List.length_map, List.length_range, e, Nat.sub_self]
    rfl
  · rw [if_neg e, List.getElem?_append_left (by rw [List.length_map, List.length_range]; omega), List.getElem?_map, List.getElem?_range (by omega)]
    show val (sub (if j = i then one else zero) (route net j i)) = _
    rw [val_sub (by split; exact cn_one; exact cn_zero) (cn_route _ _)]
    congr 1
    split
    · exact val_one
    · exact val_zero
theorem mm_congr {n : Nat} {A B : Mx} {w : Nat → Rat} (h : ∀ i j, i < n → j < n + 1 → A i j = B i j) (m : MM n B w) : MM n A w := by
  refine ⟨m.wp, fun j hj => ?_, fun i j hi hj ne => ?_, fun i hi => ?_⟩
  · have e : col n w A j = col n w B j := S_congr fun i hi => by rw [h i j hi (by omega)]
    rw [e]
    exact m.vp j hj
  · rw [h i j hi (by omega)]
    exact m.off i j hi hj ne
  · rw [h i n hi (by omega)]
    exact m.side i hi
theorem sol_congr {n : Nat} {A B : Mx} {y : Nat → Rat} (h : ∀ i j, i < n → j < n + 1 → A i j = B i j) : Sol n A y ↔ Sol n B y := by
  constructor
  · intro s i hi
    rw [← h i n hi (by omega), ← s i hi]
    exact S_congr fun j hj => by rw [h i j hi (by omega)]
  · intro s i hi
    rw [h i n hi (by omega), ← s i hi]
    exact S_congr fun j hj => by rw [h i j hi (by omega)]
/-- the sides: whole numbers from 0 to 100000 -/
def Side (net : Network) (side : Nat → Fraction) : Prop := ∀ i, i < placeCount net → ∃ a : Nat, a ≤ 100000 ∧ side i = whole (a : Int)
theorem eq_mm' (ok : NetOk net) (op : Lrx4.isOpen net = true) {side : Nat → Fraction} (hs : Side net side) : MM (placeCount net) (mx (eqRows net side)) (fun p => 1 - dl ^ (level net p + 1)) :=
  mm_congr (fun i j hi hj => eqRows_mx side hi hj) (eq_mm (N := placeCount net) dl0 dl1 (fun p q _ _ => pn_nonneg p q) (fun p _ => pn_le p) (fun p hp => (level_ok op hp).2.1) (fun p hp e => level_zero op ok hp e) (fun p k hp e => level_succ op ok hp e)
    fun i hi => by
      obtain ⟨a, _, e⟩ := hs i hi
      rw [e, val_whole]
      exact Rat.natCast_nonneg)
theorem side_cn {side : Nat → Fraction} (hs : Side net side) : ∀ i, i < placeCount net → Cn (side i) := fun i hi => by
  obtain ⟨a, _, e⟩ := hs i hi
  rw [e]
  exact cn_whole _
theorem sz_route (ok : NetOk net) (p q : Nat) : Sz 14 (route net p q) := by
  have h1 := ok.rou p q
  have h2 := ok.wsum p
  exact sz_reduce (by show ((routeWeight net p q : Nat) : Int).natAbs < 2 ^ 14; rw [Int.natAbs_natCast]; omega) (by omega) (by decide)
theorem sz_eqRows (ok : NetOk net) {side : Nat → Fraction} (hs : Side net side) : ∀ r ∈ eqRows net side, ∀ x ∈ r, Sz 17 x := fun r hr x hx => by
  obtain ⟨q, hq, rfl⟩ := List.mem_map.mp hr
  rcases List.mem_append.mp hx with h | h
  · obtain ⟨p, _, rfl⟩ := List.mem_map.mp h
    have s : Sz 1 (if p = q then one else zero) := by split; exact sz_one (by decide); exact sz_zero (by decide)
    exact (sz_sub s (sz_route ok p q)).mono (by decide)
  · rw [List.mem_singleton.mp h]
    obtain ⟨a, ha, e⟩ := hs q (List.mem_range.mp hq)
    rw [e]
    exact sz_whole (by rw [Int.natAbs_natCast]; omega) (by decide)
/-- the elimination runs through -/
theorem eq_run (ok : NetOk net) (op : Lrx4.isOpen net = true) {side : Nat → Fraction} (hs : Side net side) : Run (placeCount net) (eqRows net side) :=
  run_ok ok.n1.2 (eqRows_rows (side_cn hs)) ⟨_, eq_mm' ok op hs⟩ (sz_eqRows ok hs)
def flowOf (net : Network) (side : Nat → Fraction) : Row := (mIter (eqRows net side) (placeCount net)).map lastOf
theorem solve_flow (ok : NetOk net) (op : Lrx4.isOpen net = true) {side : Nat → Fraction} (hs : Side net side) : (Lrx1.solve (eqRows net side)).getD [] = flowOf net side := by
  rw [solve_same (eqRows_rows (side_cn hs)) ⟨_, eq_mm' ok op hs⟩]
  rfl
/-- the solution in numbers -/
structure Flow (net : Network) (side : Nat → Fraction) (r : Row) : Prop where
  len : r.length = placeCount net
  cn : ∀ x ∈ r, Cn x
  nonneg : ∀ x ∈ r, 0 ≤ val x
  sz : ∀ x ∈ r, Sz 540 x
theorem flow_ok (ok : NetOk net) (op : Lrx4.isOpen net = true) {side : Nat → Fraction} (hs : Side net side) : Flow net side (flowOf net side) := by
  have rw_ := eqRows_rows (side_cn hs)
  have m := eq_mm' ok op hs
  have run := eq_run ok op hs
  have l : (flowOf net side).length = placeCount net := by
    unfold flowOf
    rw [List.length_map, (run.rows _ (Nat.le_refl _)).len]
  have key : ∀ i, i < placeCount net → val (entry (flowOf net side) i) = iter (mx (eqRows net side)) (placeCount net) i (placeCount net) ∧ Cn (entry (flowOf net side) i) := fun i hi => solved_val rw_ ⟨_, m⟩ hi
  have mem : ∀ x ∈ flowOf net side, ∃ i, i < placeCount net ∧ x = entry (flowOf net side) i := fun x hx => by
    obtain ⟨i, h1, h2⟩ := List.mem_iff_getElem.mp hx
    refine ⟨i, by omega, ?_⟩
    unfold entry
    rw [List.getD_eq_getElem?_getD, List.getElem?_eq_getElem h1, ← h2]
    rfl
  have nn : ∀ i, i < placeCount net → 0 ≤ val (entry (flowOf net side) i) := fun i hi => by
    rw [(key i hi).1]
    exact iter_nonneg ⟨_, m⟩ i hi
  -- it solves the equations, alone
  have sol : Sol (placeCount net) (eqM (PN net) (fun i => val (side i)) (placeCount net)) (fun i => val (entry (flowOf net side) i)) := by
    rw [← sol_congr (fun i j hi hj => eqRows_mx side hi hj), iter_end ⟨_, m⟩]
    exact fun i hi => (key i hi).1
  -- the magnitude
  have mag : ∀ j, j < placeCount net → val (entry (flowOf net side) j) ≤ (2 : Rat) ^ 250 := fun j hj => by
    have b := eq_bound (N := placeCount net) (l := level net) dl0 dl1 (fun p q _ _ => pn_nonneg p q) (fun p _ => pn_le p) (fun p hp => (level_ok op hp).2.1) (fun p hp e => level_zero op ok hp e) (fun p k hp e => level_succ op ok hp e)
      (fun i hi => by
        obtain ⟨a, _, e⟩ := hs i hi
        show 0 ≤ val (side i)
        rw [e, val_whole]
        exact Rat.natCast_nonneg) (fun i hi => nn i hi) sol j hj
    have s : S (placeCount net) (fun i => val (side i)) ≤ 1500000 := by
      have : S (placeCount net) (fun i => val (side i)) ≤ (placeCount net : Rat) * 100000 := (S_abs (M := 100000) fun i hi => by
        obtain ⟨a, ha, e⟩ := hs i hi
        show val (side i) ≤ 100000 ∧ -100000 ≤ val (side i)
        rw [e, val_whole]
        have h1 : ((a : Int) : Rat) ≤ 100000 := Rat.intCast_le_intCast.mpr (show (a : Int) ≤ 100000 by omega)
        have h2 : (0 : Rat) ≤ ((a : Int) : Rat) := Rat.intCast_nonneg.mpr (by omega)
        constructor <;> grind).1
      have n15 : (placeCount net : Rat) ≤ 15 := Rat.natCast_le_natCast.mpr ok.n1.2
      grind
    have pw : dl ^ 16 ≤ dl ^ (placeCount net + 1) := pow_anti dl0 dl1 (by have := ok.n1.2; omega)
    have c : (1500000 : Rat) ≤ (1 - dl) * dl ^ 16 * 2 ^ 250 := by decide +kernel
    false_or_by_contra
    rename_i q
    have q2 : (2 : Rat) ^ 250 < val (entry (flowOf net side) j) := by grind
    have p1 : 0 < (1 - dl) * dl ^ 16 := Rat.mul_pos (by have := dl1; grind) (Rat.pow_pos dl0)
    have p2 := Rat.mul_lt_mul_of_pos_left q2 p1
    have p3 := Rat.mul_nonneg (Rat.mul_nonneg (show 0 ≤ 1 - dl by have := dl1; grind) (show 0 ≤ dl ^ (placeCount net + 1) - dl ^ 16 by grind)) (nn j hj)
    grind
  -- the denominator
  have den : ∃ d : Nat, 0 < d ∧ d ≤ 2 ^ 284 ∧ ∀ j, j < placeCount net → ∃ k : Int, (d : Rat) * val (entry (flowOf net side) j) = (k : Rat) := by
    let T1 : Nat → Nat := fun j => if weightSum net j = 0 then 1 else weightSum net j
    have T0 : ∀ j, 0 < T1 j := fun j => by
      show 0 < if weightSum net j = 0 then 1 else weightSum net j
      split <;> omega
    let B : Nat → Nat → Int := fun i j => (if j = i then (T1 j : Int) else 0) - (routeWeight net j i : Int)
    have TA : ∀ i j, j < placeCount net → (B i j : Rat) = eqM (PN net) (fun i => val (side i)) (placeCount net) i j * (T1 j : Rat) := fun i j hj => by
      unfold eqM
      rw [if_neg (by omega), val_route]
      show (((if j = i then (T1 j : Int) else 0) - (routeWeight net j i : Int) : Int) : Rat) = _
      rw [Rat.intCast_sub]
      have tz := natCast_ne (T0 j)
      have e1 : (((if j = i then (T1 j : Int) else 0) : Int) : Rat) = (if j = i then 1 else 0) * (T1 j : Rat) := by
        split
        · rw [Rat.one_mul]; rfl
        · rw [Rat.zero_mul]; rfl
      have e2 : (((routeWeight net j i : Nat) : Int) : Rat) = (routeWeight net j i : Rat) / (weightSum net j : Rat) * (T1 j : Rat) := by
        by_cases z : weightSum net j = 0
        · have zr : routeWeight net j i = 0 ∨ placeCount net ≤ i := by
            by_cases hi : i < placeCount net
            · left
              have p := val_route (net := net) j i
              have wr := weight_sum_rat (net := net) j
              rw [z] at wr
              have s1 := S_split (fun q => (routeWeight net j q : Rat)) hi
              have s2 : 0 ≤ T (placeCount net) i fun q => (routeWeight net j q : Rat) := S_nonneg fun k _ => by
                by_cases c : k = i
                · rw [if_pos c]; exact Rat.le_refl
                · rw [if_neg c]; exact Rat.natCast_nonneg
              have s3 : (0 : Rat) ≤ (routeWeight net j i : Rat) := Rat.natCast_nonneg
              have s4 : (0 : Rat) ≤ (leaveWeight net j : Rat) := Rat.natCast_nonneg
              have s5 : ((0 : Nat) : Rat) = 0 := rfl
              have s6 : (routeWeight net j i : Rat) = ((0 : Nat) : Rat) := by grind
              false_or_by_contra
              have : 0 < routeWeight net j i := by omega
              have := Rat.natCast_pos.mpr this
              grind
            · right; omega
          have zr0 : routeWeight net j i = 0 := by
            rcases zr with z | z
            · exact z
            · unfold routeWeight
              rw [List.getD_eq_getElem?_getD, List.getElem?_eq_none]
              · rfl
              · have := ok.lrr (net.routes.getD j []) (getD_mem (by rw [ok.lr]; exact hj))
                omega
          rw [zr0]
          show (0 : Rat) = (0 : Rat) / _ * _
          rw [Rat.div_def, Rat.zero_mul, Rat.zero_mul]
        · have e : T1 j = weightSum net j := if_neg z
          rw [e]
          have wz := natCast_ne (show 0 < weightSum net j by omega)
          rw [Rat.div_mul_cancel wz]
          rfl
      rw [e1, e2]
      grind
    have uniq : ∀ g : Nat → Rat, (∀ i, i < placeCount net → S (placeCount net) (fun j => (B i j : Rat) * g j) = 0) → ∀ j, j < placeCount net → g j = 0 := fun g hg j hj => by
      have s2 : Sol (placeCount net) (eqM (PN net) (fun i => val (side i)) (placeCount net)) (fun i => val (entry (flowOf net side) i) + (T1 i : Rat) * g i) := fun i hi => by
        have e : S (placeCount net) (fun j => eqM (PN net) (fun i => val (side i)) (placeCount net) i j * (val (entry (flowOf net side) j) + (T1 j : Rat) * g j)) =
            S (placeCount net) (fun j => eqM (PN net) (fun i => val (side i)) (placeCount net) i j * val (entry (flowOf net side) j)) + S (placeCount net) (fun j => (B i j : Rat) * g j) := by
          rw [← S_add]
          exact S_congr fun j hj => by rw [TA i j hj]; grind
        rw [e, hg i hi, sol i hi]
        grind
      rw [← sol_congr (fun i j hi hj => eqRows_mx side hi hj), iter_end ⟨_, m⟩] at s2
      have e1 := s2 j hj
      rw [(key j hj).1] at e1
      have tz := natCast_ne (T0 j)
      have e2 : (T1 j : Rat) * g j = 0 := by grind
      rcases Rat.mul_eq_zero.mp e2 with z | z
      · exact absurd z tz
      · exact z
    let av : Nat → Int := fun i => (side i).num
    have hB : ∀ i j, i < placeCount net → j < placeCount net → (B i j).natAbs ≤ 16000 := fun i j hi hj => by
      have h1 := ok.rou j i
      have h2 := ok.wsum j
      have h3 : T1 j ≤ 16000 := by
        show (if weightSum net j = 0 then 1 else weightSum net j) ≤ 16000
        split <;> omega
      show ((if j = i then (T1 j : Int) else 0) - (routeWeight net j i : Int)).natAbs ≤ 16000
      split <;> omega
    obtain ⟨d, d0, d1, d2⟩ := small_den (n := placeCount net) (M := 16000) (B := B) (y := fun j => val (entry (flowOf net side) j) / (T1 j : Rat)) (a := av) hB (fun i hi => by
      have e : S (placeCount net) (fun j => (B i j : Rat) * (val (entry (flowOf net side) j) / (T1 j : Rat))) = S (placeCount net) (fun j => eqM (PN net) (fun i => val (side i)) (placeCount net) i j * val (entry (flowOf net side) j)) := S_congr fun j hj => by
        rw [TA i j hj]
        have tz := natCast_ne (T0 j)
        grind
      rw [e, sol i hi]
      unfold eqM
      rw [if_pos rfl]
      obtain ⟨a, _, q⟩ := hs i hi
      show val (side i) = (((side i).num : Int) : Rat)
      rw [q, val_whole]
      rfl) uniq
    refine ⟨d, d0, Nat.le_trans d1 ?_, fun j hj => ?_⟩
    · have n15 := ok.n1.2
      have p1 : (2 * (placeCount net * 16000) + 1) ^ placeCount net ≤ 480001 ^ placeCount net := Nat.pow_le_pow_left (by omega) _
      have p2 : 480001 ^ placeCount net ≤ 480001 ^ 15 := Nat.pow_le_pow_right (by decide) n15
      have p3 : 480001 ^ 15 ≤ 2 ^ 284 := by decide +kernel
      exact Nat.le_trans p1 (Nat.le_trans p2 p3)
    · obtain ⟨k, hk⟩ := d2 j hj
      refine ⟨k * (T1 j : Int), ?_⟩
      have tz := natCast_ne (T0 j)
      rw [Rat.intCast_mul, ← hk]
      show (d : Rat) * val (entry (flowOf net side) j) = (d : Rat) * (val (entry (flowOf net side) j) / (T1 j : Rat)) * (T1 j : Rat)
      grind
  obtain ⟨d, d0, d1, d2⟩ := den
  refine ⟨l, fun x hx => ?_, fun x hx => ?_, fun x hx => ?_⟩
  · obtain ⟨i, hi, rfl⟩ := mem x hx
    exact (key i hi).2
  · obtain ⟨i, hi, rfl⟩ := mem x hx
    exact nn i hi
  · obtain ⟨i, hi, rfl⟩ := mem x hx
    obtain ⟨k, hk⟩ := d2 i hi
    have dr := natCast_ne d0
    have v : val (entry (flowOf net side) i) = (k : Rat) / (d : Rat) := by grind
    have k0 : (0 : Rat) ≤ (k : Rat) := by
      rw [← hk]
      exact Rat.mul_nonneg Rat.natCast_nonneg (nn i hi)
    have ki : 0 ≤ k := Rat.intCast_nonneg.mp k0
    have kb : (k : Rat) ≤ ((2 ^ 534 : Nat) : Rat) := by
      rw [← hk]
      have a1 : (d : Rat) ≤ ((2 ^ 284 : Nat) : Rat) := Rat.natCast_le_natCast.mpr d1
      have a2 := mag i hi
      have a3 : ((2 ^ 284 : Nat) : Rat) * 2 ^ 250 = ((2 ^ 534 : Nat) : Rat) := by decide +kernel
      have a4 : (0 : Rat) ≤ 2 ^ 250 := by decide +kernel
      have m1 := Rat.mul_le_mul_of_nonneg_right a1 (nn i hi)
      have m2 := Rat.mul_le_mul_of_nonneg_left a2 (show (0 : Rat) ≤ ((2 ^ 284 : Nat) : Rat) from Rat.natCast_nonneg)
      grind
    have kb2 : k ≤ ((2 ^ 534 : Nat) : Int) := Rat.intCast_le_intCast.mp kb
    refine sz_rep (key i hi).2 d0 v ?_ ?_
    · have : (2 : Nat) ^ 534 < 2 ^ 540 := by decide +kernel
      omega
    · have : (2 : Nat) ^ 284 < 2 ^ 540 := by decide +kernel
      omega
end
end OQ
/-! loads, utilizations: signs and sizes -/
namespace OQ
open Lrx1 (Fraction add sub mul divide whole zero one reduce lt le sum entry isZero)
open Lrx4 (Network Station stationCount placeCount places stationOf place placesOf getStation arrival service leaveWeight routeWeight weightSum route leave leadsOut loadIn stationLoadIn stationRateIn utilizationIn)
theorem div_nonneg2 {a b : Rat} (ha : 0 ≤ a) (hb : 0 ≤ b) : 0 ≤ a / b := div_nonneg' ha hb
theorem filter_one {n i : Nat} (hi : i < n) : (List.range n).filter (fun p => p == i) = [i] := by
  induction n with
  | zero => omega
  | succ n ih =>
    rw [List.range_succ, List.filter_append]
    by_cases e : i = n
    · subst e
      have : (List.range i).filter (fun p => p == i) = [] := List.filter_eq_nil_iff.mpr fun a ha => by
        have := List.mem_range.mp ha
        simp
        omega
      rw [this]
      simp
    · rw [ih (by omega)]
      have : (n == i) = false := beq_eq_false_iff_ne.mpr (by omega)
      rw [List.filter_cons, this]
      simp
theorem filter_mod {n i : Nat} (hi : i < n) : ∀ c : Nat, (List.range (n * c)).filter (fun p => p % n == i) = (List.range c).map (fun k => k * n + i)
  | 0 => by simp
  | c + 1 => by
    rw [Nat.mul_add, Nat.mul_one, List.range_add, List.filter_append, filter_mod hi c, List.range_succ, List.map_append]
    congr 1
    rw [List.filter_map]
    have e : ((fun p => p % n == i) ∘ fun x => n * c + x) = fun x => x % n == i := by
      funext x
      show ((n * c + x) % n == i) = (x % n == i)
      rw [Nat.mul_add_mod]
    rw [e]
    have e2 : (List.range n).filter (fun x => x % n == i) = (List.range n).filter (fun p => p == i) := List.filter_congr fun x hx => by rw [Nat.mod_eq_of_lt (List.mem_range.mp hx)]
    rw [e2, filter_one hi]
    simp [Nat.mul_comm]
/-- the places of a station, by classes -/
theorem placesOf_eq {net : Network} {i : Nat} (hi : i < stationCount net) : placesOf net i = (List.range net.classCount).map (place net i) := filter_mod hi net.classCount
theorem placesOf_mem {net : Network} {i p : Nat} (h : p ∈ placesOf net i) : p < placeCount net := List.mem_range.mp (List.mem_filter.mp h).1
theorem placesOf_len {net : Network} {i : Nat} (hi : i < stationCount net) : (placesOf net i).length = net.classCount := by rw [placesOf_eq hi, List.length_map, List.length_range]
theorem place_lt {net : Network} {i c : Nat} (hi : i < stationCount net) (hc : c < net.classCount) : place net i c < placeCount net := by
  unfold place placeCount
  calc c * stationCount net + i < c * stationCount net + stationCount net := by omega
    _ = (c + 1) * stationCount net := by rw [Nat.add_mul, Nat.one_mul]
    _ ≤ net.classCount * stationCount net := Nat.mul_le_mul_right _ hc
    _ = stationCount net * net.classCount := Nat.mul_comm _ _
theorem stationOf_lt {net : Network} (ok : NetOk net) (p : Nat) : stationOf net p < stationCount net := Nat.mod_lt _ ok.st.1
/-- what is known of rates -/
structure Rt (net : Network) (r : Row) : Prop where
  len : r.length = placeCount net
  cn : ∀ x ∈ r, Cn x
  nonneg : ∀ x ∈ r, 0 ≤ val x
  sz : ∀ x ∈ r, Sz 540 x
theorem Flow.rt {net : Network} {side : Nat → Fraction} {r : Row} (h : Flow net side r) : Rt net r := ⟨h.len, h.cn, h.nonneg, h.sz⟩
theorem traffic_eq {net : Network} (ok : NetOk net) (op : Lrx4.isOpen net = true) : Lrx4.traffic net = flowOf net (fun q => whole (arrival net q : Int)) :=
  solve_flow ok op fun i _ => ⟨arrival net i, ok.arr i, rfl⟩
theorem side_arr {net : Network} (ok : NetOk net) : Side net (fun q => whole (arrival net q : Int)) := fun i _ => ⟨arrival net i, ok.arr i, rfl⟩
def startSide (p : Nat) : Nat → Fraction := fun q => if p = q then one else zero
theorem side_start {net : Network} (p : Nat) : Side net (startSide p) := fun i _ => by
  by_cases e : p = i
  · exact ⟨1, by decide, by unfold startSide; rw [if_pos e]; rfl⟩
  · exact ⟨0, by decide, by unfold startSide; rw [if_neg e]; rfl⟩
theorem visits_eq {net : Network} (ok : NetOk net) (op : Lrx4.isOpen net = true) (p : Nat) : Lrx4.visitsFrom net p = flowOf net (startSide p) := solve_flow ok op (side_start p)
theorem traffic_rt {net : Network} (ok : NetOk net) (op : Lrx4.isOpen net = true) : Rt net (Lrx4.traffic net) := by
  rw [traffic_eq ok op]
  exact (flow_ok ok op (side_arr ok)).rt
theorem visits_rt {net : Network} (ok : NetOk net) (op : Lrx4.isOpen net = true) (p : Nat) : Rt net (Lrx4.visitsFrom net p) := by
  rw [visits_eq ok op]
  exact (flow_ok ok op (side_start p)).rt
section
variable {net : Network} {r : Row}
theorem Rt.at_ (h : Rt net r) (p : Nat) : Cn (entry r p) ∧ 0 ≤ val (entry r p) ∧ Sz 540 (entry r p) := by
  by_cases q : p < r.length
  · have m : entry r p ∈ r := getD_mem q
    exact ⟨h.cn _ m, h.nonneg _ m, h.sz _ m⟩
  · have e : entry r p = zero := by
      unfold entry
      rw [List.getD_eq_getElem?_getD, List.getElem?_eq_none (by omega)]
      rfl
    rw [e]
    exact ⟨cn_zero, by rw [val_zero]; exact Rat.le_refl, sz_zero (by decide)⟩
theorem cn_load (p : Nat) : Cn (loadIn net r p) := cn_divide _ _
theorem val_load (h : Rt net r) (p : Nat) : val (loadIn net r p) = val (entry r p) / (service net p : Rat) := by
  unfold loadIn
  rw [val_divide (h.at_ p).1 (cn_whole _), val_whole]
  rfl
theorem load_nonneg (h : Rt net r) (p : Nat) : 0 ≤ val (loadIn net r p) := by
  rw [val_load h]
  exact div_nonneg2 (h.at_ p).2.1 Rat.natCast_nonneg
theorem sz_nat {n b : Nat} (h : n < 2 ^ b) (hb : 0 < b) : Sz b (whole (n : Int)) := sz_whole (by rw [Int.natAbs_natCast]; exact h) hb
theorem sz_load (ok : NetOk net) (h : Rt net r) (p : Nat) : Sz 557 (loadIn net r p) := sz_divide (h.at_ p).2.2 (sz_nat (b := 17) (by have := (ok.ser p).2; omega) (by decide)) (by decide)
theorem cn_sload (i : Nat) : Cn (stationLoadIn net r i) := cn_sum _
theorem val_sload (i : Nat) : val (stationLoadIn net r i) = rsum ((placesOf net i).map fun p => val (loadIn net r p)) := by
  unfold stationLoadIn
  rw [val_sum fun x hx => by
    obtain ⟨p, _, rfl⟩ := List.mem_map.mp hx
    exact cn_load p, List.map_map]
  rfl
theorem sload_nonneg (h : Rt net r) (i : Nat) : 0 ≤ val (stationLoadIn net r i) := by
  rw [val_sload]
  exact rsum_nonneg fun x hx => by
    obtain ⟨p, _, rfl⟩ := List.mem_map.mp hx
    exact load_nonneg h p
theorem sz_sload (ok : NetOk net) (h : Rt net r) {i : Nat} (hi : i < stationCount net) : Sz 1700 (stationLoadIn net r i) := by
  refine (sz_sum (b := 557) fun y hy => ?_).mono ?_
  · obtain ⟨p, _, rfl⟩ := List.mem_map.mp hy
    exact sz_load ok h p
  · rw [List.length_map, placesOf_len hi]
    have := ok.cl.2
    have := Nat.mul_le_mul_right (557 + 1) this
    omega
theorem cn_srate (i : Nat) : Cn (stationRateIn net r i) := cn_sum _
theorem val_srate (h : Rt net r) (i : Nat) : val (stationRateIn net r i) = rsum ((placesOf net i).map fun p => val (entry r p)) := by
  unfold stationRateIn
  rw [val_sum fun x hx => by
    obtain ⟨p, _, rfl⟩ := List.mem_map.mp hx
    exact (h.at_ p).1, List.map_map]
  rfl
theorem srate_nonneg (h : Rt net r) (i : Nat) : 0 ≤ val (stationRateIn net r i) := by
  rw [val_srate h]
  exact rsum_nonneg fun x hx => by
    obtain ⟨p, _, rfl⟩ := List.mem_map.mp hx
    exact (h.at_ p).2.1
theorem sz_srate (ok : NetOk net) (h : Rt net r) {i : Nat} (hi : i < stationCount net) : Sz 1700 (stationRateIn net r i) := by
  refine (sz_sum (b := 540) fun y hy => ?_).mono ?_
  · obtain ⟨p, _, rfl⟩ := List.mem_map.mp hy
    exact (h.at_ p).2.2
  · rw [List.length_map, placesOf_len hi]
    have := ok.cl.2
    have := Nat.mul_le_mul_right (540 + 1) this
    omega
/-- the servers as the program has them -/
theorem servers_eq (ok : NetOk net) (i : Nat) : Lrx4.servers net i = (getStation net i).servers := by
  unfold Lrx4.servers
  obtain ⟨_, h1, h2⟩ := ok.kind i
  by_cases e : (getStation net i).kind = 0
  · rw [if_pos e]
  · rw [if_neg e, h2 e]
theorem servers_in (ok : NetOk net) (i : Nat) : 1 ≤ Lrx4.servers net i ∧ Lrx4.servers net i ≤ 20 := by
  obtain ⟨_, h1, h2⟩ := ok.kind i
  unfold Lrx4.servers
  by_cases e : (getStation net i).kind = 0
  · rw [if_pos e]; exact h1 e
  · rw [if_neg e]; decide
theorem cn_util (i : Nat) : Cn (utilizationIn net r i) := by
  unfold utilizationIn
  split
  · exact cn_zero
  · exact cn_divide _ _
theorem val_util (i : Nat) : val (utilizationIn net r i) = if (getStation net i).kind = 2 then 0 else val (stationLoadIn net r i) / (Lrx4.servers net i : Rat) := by
  unfold utilizationIn
  split
  · exact val_zero
  · rw [val_divide (cn_sload i) (cn_whole _), val_whole]
    rfl
theorem util_nonneg (h : Rt net r) (i : Nat) : 0 ≤ val (utilizationIn net r i) := by
  rw [val_util]
  split
  · exact Rat.le_refl
  · exact div_nonneg2 (sload_nonneg h i) Rat.natCast_nonneg
theorem sz_util (ok : NetOk net) (h : Rt net r) {i : Nat} (hi : i < stationCount net) : Sz 1705 (utilizationIn net r i) := by
  unfold utilizationIn
  split
  · exact sz_zero (by decide)
  · exact sz_divide (sz_sload ok h hi) (sz_nat (b := 5) (by have := (servers_in ok i).2; omega) (by decide)) (by decide)
end
end OQ
/-! the stations' numbers, without a program -/
namespace OQ
open Lrx1 (Fraction add sub mul divide whole zero one reduce lt le sum entry isZero)
open Lrx4 (Network Station stationCount placeCount places stationOf place placesOf getStation arrival service loadIn stationLoadIn stationRateIn utilizationIn)
/-- in lowest terms and with few bits -/
def Fb (b : Nat) (q : Fraction) : Prop := Cn q ∧ Sz b q
theorem Fb.mono {a b : Nat} {q : Fraction} (h : Fb a q) (l : a ≤ b) : Fb b q := ⟨h.1, h.2.mono l⟩
theorem fb_add {a b : Nat} {p q : Fraction} (hp : Fb a p) (hq : Fb b q) : Fb (a + b + 1) (add p q) := ⟨cn_add _ _, sz_add hp.2 hq.2⟩
theorem fb_sub {a b : Nat} {p q : Fraction} (hp : Fb a p) (hq : Fb b q) : Fb (a + b + 1) (sub p q) := ⟨cn_sub _ _, sz_sub hp.2 hq.2⟩
theorem fb_mul {a b : Nat} {p q : Fraction} (hp : Fb a p) (hq : Fb b q) (h : 0 < a + b := by omega) : Fb (a + b) (mul p q) := ⟨cn_mul _ _, sz_mul hp.2 hq.2 h⟩
theorem fb_div {a b : Nat} {p q : Fraction} (hp : Fb a p) (hq : Fb b q) (h : 0 < a + b := by omega) : Fb (a + b) (divide p q) := ⟨cn_divide _ _, sz_divide hp.2 hq.2 h⟩
theorem fb_one : Fb 1 one := ⟨cn_one, sz_one (by decide)⟩
theorem fb_zero : Fb 1 zero := ⟨cn_zero, sz_zero (by decide)⟩
theorem fb_nat {n b : Nat} (h : n < 2 ^ b) (hb : 0 < b := by decide) : Fb b (whole (n : Int)) := ⟨cn_whole _, sz_nat h hb⟩
theorem fb_sum {l : List Fraction} {b : Nat} (h : ∀ y ∈ l, Fb b y) : Fb (1 + l.length * (b + 1)) (sum l) := ⟨cn_sum _, sz_sum fun y hy => (h y hy).2⟩
theorem val_nat (n : Nat) : val (whole (n : Int)) = (n : Rat) := by rw [val_whole]; rfl
/-! ### the share of lost customers -/
theorem cn_erl (q : Fraction) : ∀ k, Cn (Lrx2.erlangB q k)
  | 0 => cn_one
  | k + 1 => cn_divide _ _
theorem val_erl {q : Fraction} (h : Cn q) (k : Nat) : val (Lrx2.erlangB q (k + 1)) = val q * val (Lrx2.erlangB q k) / (((k + 1 : Nat) : Rat) + val q * val (Lrx2.erlangB q k)) := by
  show val (divide (mul q (Lrx2.erlangB q k)) (add (whole ((k + 1 : Nat) : Int)) (mul q (Lrx2.erlangB q k)))) = _
  rw [val_divide (cn_mul _ _) (cn_add _ _), val_mul h (cn_erl q k), val_add (cn_whole _) (cn_mul _ _), val_mul h (cn_erl q k), val_nat]
theorem nat_pos {k : Nat} : (0 : Rat) < ((k + 1 : Nat) : Rat) := by
  rw [show (0 : Rat) = ((0 : Nat) : Rat) from rfl, Rat.natCast_lt_natCast]
  omega
theorem erl_in {q : Fraction} (h : Cn q) (h0 : 0 ≤ val q) : ∀ k, 0 ≤ val (Lrx2.erlangB q k) ∧ val (Lrx2.erlangB q k) ≤ 1
  | 0 => by
    rw [show Lrx2.erlangB q 0 = one from rfl, val_one]
    exact ⟨by decide, Rat.le_refl⟩
  | k + 1 => by
    obtain ⟨i1, i2⟩ := erl_in h h0 k
    rw [val_erl h]
    have p : 0 ≤ val q * val (Lrx2.erlangB q k) := Rat.mul_nonneg h0 i1
    have d : 0 < ((k + 1 : Nat) : Rat) + val q * val (Lrx2.erlangB q k) := by have := @nat_pos k; grind
    refine ⟨div_nonneg' p (by grind), ?_⟩
    have k0 := @nat_pos k
    have e : val q * val (Lrx2.erlangB q k) / (((k + 1 : Nat) : Rat) + val q * val (Lrx2.erlangB q k)) = 1 - ((k + 1 : Nat) : Rat) / (((k + 1 : Nat) : Rat) + val q * val (Lrx2.erlangB q k)) := by grind
    rw [e]
    have z : 0 ≤ ((k + 1 : Nat) : Rat) / (((k + 1 : Nat) : Rat) + val q * val (Lrx2.erlangB q k)) := div_nonneg' (by grind) (by grind)
    grind
theorem erl_rep {q : Fraction} {s : Nat} (h : Cn q) (h0 : 0 ≤ val q) (hs : Sz s q) : ∀ k, k ≤ 20 → ∃ p d : Nat, 0 < d ∧ p < 2 ^ ((s + 6) * k + 1) ∧ d < 2 ^ ((s + 6) * k + 1) ∧ val (Lrx2.erlangB q k) = (p : Rat) / (d : Rat)
  | 0, _ => ⟨1, 1, by decide, by rw [Nat.mul_zero]; decide, by rw [Nat.mul_zero]; decide, by rw [show Lrx2.erlangB q 0 = one from rfl, val_one]; decide +kernel⟩
  | k + 1, hk => by
    obtain ⟨p, d, d0, hp, hd, e⟩ := erl_rep h h0 hs k (by omega)
    have n0 := (num_nonneg_iff h).mpr h0
    obtain ⟨a, ha⟩ := Int.eq_ofNat_of_zero_le n0
    have vq : val q = (a : Rat) / (q.den : Rat) := by rw [val_nd, ha]; rfl
    have qd := h.1
    have sa : a < 2 ^ s := by have := hs.1; rw [ha, Int.natAbs_natCast] at this; exact this
    have sd := hs.2
    refine ⟨a * p, (k + 1) * q.den * d + a * p, ?_, ?_, ?_, ?_⟩
    · have : 0 < (k + 1) * q.den * d := Nat.mul_pos (Nat.mul_pos (by omega) qd) d0
      omega
    · have := mul_lt_pow sa hp
      refine Nat.lt_of_lt_of_le this (Nat.pow_le_pow_right (by decide) ?_)
      rw [Nat.mul_succ]
      omega
    · have h1 := mul_lt_pow sa hp
      have h2 : (k + 1) * q.den * d < 2 ^ (5 + s + ((s + 6) * k + 1)) := mul_lt_pow (mul_lt_pow (b := s) (show k + 1 < 2 ^ 5 by omega) sd) hd
      have h3 : 2 ^ (s + ((s + 6) * k + 1)) ≤ 2 ^ (5 + s + ((s + 6) * k + 1)) := Nat.pow_le_pow_right (by decide) (by omega)
      have h4 : 2 ^ (5 + s + ((s + 6) * k + 1)) + 2 ^ (5 + s + ((s + 6) * k + 1)) = 2 ^ ((s + 6) * (k + 1) + 1) := by
        rw [← Nat.two_mul, ← Nat.pow_succ', Nat.mul_succ]
        congr 1
        omega
      omega
    · rw [val_erl h, e, vq, Rat.natCast_add ((k + 1) * q.den * d) (a * p), Rat.natCast_mul ((k + 1) * q.den) d, Rat.natCast_mul (k + 1) q.den, Rat.natCast_mul a p]
      have r1 := natCast_ne d0
      have r2 := natCast_ne qd
      have r3 : (0 : Rat) < ((k + 1 : Nat) : Rat) := nat_pos
      have r4 : (0 : Rat) ≤ (a : Rat) := Rat.natCast_nonneg
      have r5 : (0 : Rat) ≤ (p : Rat) := Rat.natCast_nonneg
      have r6 : (0 : Rat) < (d : Rat) := by have : (0 : Rat) ≤ (d : Rat) := Rat.natCast_nonneg; grind
      have r7 : (0 : Rat) < (q.den : Rat) := by have : (0 : Rat) ≤ (q.den : Rat) := Rat.natCast_nonneg; grind
      generalize ((k + 1 : Nat) : Rat) = K at *
      generalize (a : Rat) = A at *
      generalize (p : Rat) = B at *
      generalize (d : Rat) = D at *
      generalize (q.den : Rat) = E at *
      have u1 : 0 < K * E * D := Rat.mul_pos (Rat.mul_pos r3 r7) r6
      have u2 : 0 ≤ A * B := Rat.mul_nonneg r4 r5
      have u3 : K * E * D + A * B ≠ 0 := by grind
      have u4 : 0 ≤ A / E * (B / D) := Rat.mul_nonneg (div_nonneg' r4 (by grind)) (div_nonneg' r5 (by grind))
      have u5 : K + A / E * (B / D) ≠ 0 := by grind
      have u6 : A / E * (B / D) * (E * D) = A * B := by grind
      have u7 : (K + A / E * (B / D)) * (E * D) = K * E * D + A * B := by grind
      grind
theorem fb_erl {q : Fraction} {s : Nat} (h : Fb s q) (h0 : 0 ≤ val q) {k : Nat} (hk : k ≤ 20) : Fb ((s + 6) * 20 + 1) (Lrx2.erlangB q k) := by
  obtain ⟨p, d, d0, hp, hd, e⟩ := erl_rep h.1 h0 h.2 k hk
  have m : 2 ^ ((s + 6) * k + 1) ≤ 2 ^ ((s + 6) * 20 + 1) := Nat.pow_le_pow_right (by decide) (Nat.add_le_add_right (Nat.mul_le_mul_left _ hk) _)
  exact ⟨cn_erl q k, sz_rep (m := (p : Int)) (cn_erl q k) d0 e (by rw [Int.natAbs_natCast]; omega) (by omega)⟩
/-! ### those who wait -/
def useF (q : Fraction) (c : Nat) : Fraction := divide q (whole (c : Int))
theorem cn_use (q : Fraction) (c : Nat) : Cn (useF q c) := cn_divide _ _
theorem val_use {q : Fraction} (h : Cn q) (c : Nat) : val (useF q c) = val q / (c : Rat) := by
  unfold useF
  rw [val_divide h (cn_whole _), val_nat]
/-- a load that a station can bear -/
structure Ld (q : Fraction) (c : Nat) : Prop where
  fb : Fb 1700 q
  nn : 0 ≤ val q
  c1 : 1 ≤ c
  c20 : c ≤ 20
  u1 : val (useF q c) < 1
theorem Ld.u0 {q : Fraction} {c : Nat} (h : Ld q c) : 0 ≤ val (useF q c) := by
  rw [val_use h.fb.1]
  exact div_nonneg' h.nn Rat.natCast_nonneg
theorem Ld.fbu {q : Fraction} {c : Nat} (h : Ld q c) : Fb 1705 (useF q c) := fb_div (b := 5) h.fb (fb_nat (by have := h.c20; omega))
theorem Ld.fbe {q : Fraction} {c : Nat} (h : Ld q c) : Fb 34121 (Lrx2.erlangB q c) := fb_erl h.fb h.nn h.c20
/-- what is over behind u -/
theorem Ld.rest {q : Fraction} {c : Nat} (h : Ld q c) : 0 < (sub one (useF q c)).num := by
  rw [num_pos_iff (cn_sub _ _), val_sub cn_one (cn_use q c), val_one]
  have := h.u1
  grind
theorem Ld.den {q : Fraction} {c : Nat} (h : Ld q c) : 0 < (sub one (mul (useF q c) (sub one (Lrx2.erlangB q c)))).num := by
  rw [num_pos_iff (cn_sub _ _), val_sub cn_one (cn_mul _ _), val_mul (cn_use q c) (cn_sub _ _), val_sub cn_one (cn_erl q c), val_one]
  obtain ⟨e0, e1⟩ := erl_in h.fb.1 h.nn c
  have h1 := h.u1
  have h0 := h.u0
  generalize val (useF q c) = u at *
  generalize val (Lrx2.erlangB q c) = b at *
  have : u * (1 - b) ≤ u * 1 := Rat.mul_le_mul_of_nonneg_left (by grind) h0
  grind
theorem Ld.fbd {q : Fraction} {c : Nat} (h : Ld q c) : Fb 35830 (sub one (mul (useF q c) (sub one (Lrx2.erlangB q c)))) := fb_sub fb_one (fb_mul h.fbu (fb_sub fb_one h.fbe))
theorem Ld.fbc {q : Fraction} {c : Nat} (h : Ld q c) : Fb 69951 (Lrx2.erlangC q c) := by
  have := fb_div h.fbe h.fbd
  exact this
def queueF (q : Fraction) (c : Nat) : Fraction := divide (mul (Lrx2.erlangC q c) (useF q c)) (sub one (useF q c))
theorem Ld.fbq {q : Fraction} {c : Nat} (h : Ld q c) : Fb 73363 (queueF q c) := by
  have := fb_div (fb_mul h.fbc h.fbu) (fb_sub fb_one h.fbu)
  exact this
/-! ### the net's stations -/
structure Sta (net : Network) (r : Lrx1.Row) : Prop where
  ok : NetOk net
  rt : Rt net r
  u1 : ∀ i, i < stationCount net → val (utilizationIn net r i) < 1
section
variable {net : Network} {r : Lrx1.Row}
theorem util_use {i : Nat} (hk : (getStation net i).kind ≠ 2) : utilizationIn net r i = useF (stationLoadIn net r i) (Lrx4.servers net i) := by
  unfold utilizationIn useF
  rw [if_neg hk]
theorem Sta.ld (h : Sta net r) {i : Nat} (hi : i < stationCount net) (hk : (getStation net i).kind ≠ 2) : Ld (stationLoadIn net r i) (Lrx4.servers net i) := by
  have s := servers_in h.ok i
  refine ⟨⟨cn_sload i, sz_sload h.ok h.rt hi⟩, sload_nonneg h.rt i, s.1, s.2, ?_⟩
  rw [← util_use hk]
  exact h.u1 i hi
theorem queue_eq (h : Sta net r) {i : Nat} (hi : i < stationCount net) (hk : (getStation net i).kind ≠ 2) : Lrx4.meanWaitingIn net r i = queueF (stationLoadIn net r i) (Lrx4.servers net i) := by
  have l := h.ld hi hk
  unfold Lrx4.meanWaitingIn
  simp only [util_use hk]
  split
  · rename_i z
    have z1 : val (useF (stationLoadIn net r i) (Lrx4.servers net i)) = 0 := (isZero_iff (cn_use _ _)).mp z
    refine val_inj cn_zero l.fbq.1 ?_
    unfold queueF
    rw [val_divide (cn_mul _ _) (cn_sub _ _), val_mul l.fbc.1 (cn_use _ _), z1, Rat.mul_zero, val_zero, Rat.div_def, Rat.zero_mul]
  · rfl
/-- the wait at a station -/
def waitM (net : Network) (r : Lrx1.Row) (i : Nat) : Fraction := if stationRateIn net r i = zero then zero else divide (queueF (stationLoadIn net r i) (Lrx4.servers net i)) (stationRateIn net r i)
theorem fb_rate (h : Sta net r) {i : Nat} (hi : i < stationCount net) : Fb 1700 (stationRateIn net r i) := ⟨cn_srate i, sz_srate h.ok h.rt hi⟩
theorem fb_wait (h : Sta net r) {i : Nat} (hi : i < stationCount net) (hk : (getStation net i).kind ≠ 2) : Fb 75063 (waitM net r i) := by
  unfold waitM
  split
  · exact fb_zero.mono (by decide)
  · have := fb_div (h.ld hi hk).fbq (fb_rate h hi)
    exact this
theorem fb_entry (h : Rt net r) (p : Nat) : Fb 540 (entry r p) := ⟨(h.at_ p).1, (h.at_ p).2.2⟩
theorem fb_load (ok : NetOk net) (h : Rt net r) (p : Nat) : Fb 557 (loadIn net r p) := ⟨cn_load p, sz_load ok h p⟩
def numberM (net : Network) (r : Lrx1.Row) (p : Nat) : Fraction :=
  if (getStation net (stationOf net p)).kind = 2 then loadIn net r p
  else if (getStation net (stationOf net p)).kind = 0 then add (loadIn net r p) (mul (waitM net r (stationOf net p)) (entry r p))
  else divide (loadIn net r p) (sub one (utilizationIn net r (stationOf net p)))
def timeM (net : Network) (r : Lrx1.Row) (p : Nat) : Fraction :=
  if (getStation net (stationOf net p)).kind = 2 then divide one (whole (service net p : Int))
  else if (getStation net (stationOf net p)).kind = 0 then add (divide one (whole (service net p : Int))) (waitM net r (stationOf net p))
  else divide (divide one (whole (service net p : Int))) (sub one (utilizationIn net r (stationOf net p)))
theorem entry_rate (h : Sta net r) {p : Nat} (hp : p < placeCount net) : val (entry r p) ≤ val (stationRateIn net r (stationOf net p)) := by
  rw [val_srate h.rt]
  refine rsum_pos_of_mem (fun x hx => ?_) (List.mem_map.mpr ⟨p, List.mem_filter.mpr ⟨List.mem_range.mpr hp, beq_self_eq_true _⟩, rfl⟩)
  obtain ⟨q, _, rfl⟩ := List.mem_map.mp hx
  exact (h.rt.at_ q).2.1
theorem fb_util (h : Sta net r) {i : Nat} (hi : i < stationCount net) : Fb 1705 (utilizationIn net r i) := ⟨cn_util i, sz_util h.ok h.rt hi⟩
theorem fb_serv (h : Sta net r) (p : Nat) : Fb 18 (divide one (whole (service net p : Int))) := fb_div fb_one (fb_nat (b := 17) (by have := (h.ok.ser p).2; omega))
theorem fb_number (h : Sta net r) (p : Nat) : Fb 76200 (numberM net r p) := by
  have hi := stationOf_lt h.ok p
  unfold numberM
  split
  · exact (fb_load h.ok h.rt p).mono (by decide)
  · rename_i k
    split
    · exact (fb_add (fb_load h.ok h.rt p) (fb_mul (fb_wait h hi k) (fb_entry h.rt p))).mono (by decide)
    · exact (fb_div (fb_load h.ok h.rt p) (fb_sub fb_one (fb_util h hi))).mono (by decide)
theorem fb_time (h : Sta net r) (p : Nat) : Fb 76200 (timeM net r p) := by
  have hi := stationOf_lt h.ok p
  unfold timeM
  split
  · exact (fb_serv h p).mono (by decide)
  · rename_i k
    split
    · exact (fb_add (fb_serv h p) (fb_wait h hi k)).mono (by decide)
    · exact (fb_div (fb_serv h p) (fb_sub fb_one (fb_util h hi))).mono (by decide)
theorem number_eq (h : Sta net r) {p : Nat} (hp : p < placeCount net) : numberM net r p = Lrx4.placeNumberIn net r p := by
  have hi := stationOf_lt h.ok p
  unfold numberM Lrx4.placeNumberIn
  dsimp only
  have k3 := (h.ok.kind (stationOf net p)).1
  generalize hk : (getStation net (stationOf net p)).kind = k at *
  split
  · rename_i k2
    subst k2
    rfl
  · rename_i k2
    split
    · rename_i k0
      subst k0
      have kk : (getStation net (stationOf net p)).kind ≠ 2 := by omega
      show _ = if isZero (entry r p) then zero else add (loadIn net r p) (mul (Lrx4.meanWaitingIn net r (stationOf net p)) (divide (entry r p) (stationRateIn net r (stationOf net p))))
      have ce := (fb_entry h.rt p).1
      have cw := (fb_wait h hi kk).1
      have cl := (fb_load h.ok h.rt p).1
      by_cases z : val (entry r p) = 0
      · rw [if_pos ((isZero_iff ce).mpr z)]
        refine val_inj (cn_add _ _) cn_zero ?_
        rw [val_add cl (cn_mul _ _), val_mul cw ce, val_load h.rt, z, val_zero, Rat.div_def]
        grind
      · rw [if_neg (fun q => z ((isZero_iff ce).mp q)), queue_eq h hi kk]
        have e0 := (h.rt.at_ p).2.1
        have e1 := entry_rate h hp
        have rn : val (stationRateIn net r (stationOf net p)) ≠ 0 := by grind
        have rz : ¬ stationRateIn net r (stationOf net p) = zero := fun q => rn (by rw [q, val_zero])
        have cq := (h.ld hi kk).fbq.1
        refine val_inj (cn_add _ _) (cn_add _ _) ?_
        unfold waitM
        rw [if_neg rz, val_add cl (cn_mul _ _), val_add cl (cn_mul _ _), val_mul (cn_divide _ _) ce, val_mul cq (cn_divide _ _), val_divide cq (cn_srate _), val_divide ce (cn_srate _)]
        grind
    · rename_i k0
      rcases k with _ | _ | _ | k
      · exact absurd rfl k0
      · rfl
      · exact absurd rfl k2
      · rfl
theorem time_eq (h : Sta net r) (p : Nat) : timeM net r p = Lrx4.visitTimeIn net r p := by
  have hi := stationOf_lt h.ok p
  unfold timeM Lrx4.visitTimeIn
  dsimp only
  generalize hk : (getStation net (stationOf net p)).kind = k at *
  split
  · rename_i k2
    subst k2
    rfl
  · rename_i k2
    split
    · rename_i k0
      subst k0
      have kk : (getStation net (stationOf net p)).kind ≠ 2 := by omega
      show _ = if isZero (stationRateIn net r (stationOf net p)) then divide one (whole (service net p : Int)) else add (divide one (whole (service net p : Int))) (divide (Lrx4.meanWaitingIn net r (stationOf net p)) (stationRateIn net r (stationOf net p)))
      unfold waitM
      by_cases z : stationRateIn net r (stationOf net p) = zero
      · rw [if_pos z, if_pos ((isZero_iff (cn_srate _)).mpr (by rw [z, val_zero]))]
        refine val_inj (cn_add _ _) (cn_divide _ _) ?_
        rw [val_add (cn_divide _ _) cn_zero, val_zero, Rat.add_zero]
      · rw [if_neg z, if_neg (fun q => z (eq_zero_of (cn_srate _) ((isZero_iff (cn_srate _)).mp q))), queue_eq h hi kk]
    · rename_i k0
      rcases k with _ | _ | _ | k
      · exact absurd rfl k0
      · rfl
      · exact absurd rfl k2
      · rfl
end
end OQ
namespace OQ
open PySem PySem.Spec PyProof.Rows L2
def top (i : Nat) : Stmt := PySem.Challenge.pw_openqueues_s01_answers.main.body.getD i (.Pass ⟨0, 0, 0, 0⟩)
abbrev s_divisor : Stmt := top 3
abbrev s_ratio : Stmt := top 4
abbrev s_whole : Stmt := top 5
abbrev s_plus : Stmt := top 6
abbrev s_minus : Stmt := top 7
abbrev s_times : Stmt := top 8
abbrev s_over : Stmt := top 9
abbrev s_is_less : Stmt := top 10
abbrev s_total : Stmt := top 11
abbrev s_product : Stmt := top 12
abbrev s_power : Stmt := top 13
abbrev s_scaled : Stmt := top 15
abbrev s_taken : Stmt := top 16
abbrev s_cleared : Stmt := top 17
abbrev s_solved : Stmt := top 18
abbrev s_Net_init : Stmt := inClass (top 27) 0
abbrev s_Net_has_station : Stmt := inClass (top 27) 1
abbrev s_Net_has_place : Stmt := inClass (top 27) 2
abbrev s_Net_place_at : Stmt := inClass (top 27) 3
abbrev s_Net_station_of : Stmt := inClass (top 27) 4
abbrev s_Net_places_of : Stmt := inClass (top 27) 5
abbrev s_Net_place_count : Stmt := inClass (top 27) 6
abbrev s_Net_set_kind : Stmt := inClass (top 27) 7
abbrev s_Net_set_services : Stmt := inClass (top 27) 8
abbrev s_Net_set_service : Stmt := inClass (top 27) 9
abbrev s_Net_clear : Stmt := inClass (top 27) 10
abbrev s_weight_sum : Stmt := top 29
abbrev s_move_chance : Stmt := top 30
abbrev s_leave_chance : Stmt := top 31
abbrev s_leaves : Stmt := top 32
abbrev s_goes_on : Stmt := top 33
abbrev s_further : Stmt := top 34
abbrev s_is_open : Stmt := top 35
abbrev s_part_of : Stmt := top 37
abbrev s_equations : Stmt := top 38
abbrev s_flow : Stmt := top 39
abbrev s_traffic : Stmt := top 40
abbrev s_visits_from : Stmt := top 41
abbrev s_place_load : Stmt := top 42
abbrev s_station_load : Stmt := top 43
abbrev s_station_rate : Stmt := top 44
abbrev s_utilization : Stmt := top 45
abbrev s_utilizations : Stmt := top 46
abbrev s_busiest : Stmt := top 47
abbrev s_stable_rates : Stmt := top 48
abbrev s_departures : Stmt := top 49
abbrev s_blocked : Stmt := top 51
abbrev s_waiting_chance : Stmt := top 52
abbrev s_queue : Stmt := top 53
abbrev s_station_queue : Stmt := top 54
abbrev s_unused : Stmt := top 55
abbrev s_wait_at : Stmt := top 56
abbrev s_number_at : Stmt := top 57
abbrev s_time_at : Stmt := top 58
abbrev s_station_number : Stmt := top 59
abbrev s_station_numbers : Stmt := top 60
abbrev s_time_from : Stmt := top 61
abbrev s_factorial : Stmt := top 62
abbrev s_share : Stmt := top 63
abbrev s_weight : Stmt := top 64
abbrev s_all_weights : Stmt := top 65
abbrev s_number_chance : Stmt := top 66
abbrev s_state_chance : Stmt := top 67
abbrev s_single : Stmt := top 70
abbrev s_listed : Stmt := top 71
abbrev s_tell_route : Stmt := top 72
abbrev s_tell_leave : Stmt := top 73
abbrev s_tell_open : Stmt := top 74
abbrev s_tell_traffic : Stmt := top 75
abbrev s_tell_visits : Stmt := top 76
abbrev s_tell_utilizations : Stmt := top 77
abbrev s_tell_stable : Stmt := top 78
abbrev s_tell_bottleneck : Stmt := top 79
abbrev s_tell_numbers : Stmt := top 80
abbrev s_tell_place_number : Stmt := top 81
abbrev s_tell_visit_time : Stmt := top 82
abbrev s_tell_time_from : Stmt := top 83
abbrev s_tell_network_time : Stmt := top 84
abbrev s_tell_departures : Stmt := top 85
abbrev s_tell_number_chance : Stmt := top 86
abbrev s_tell_state_chance : Stmt := top 87
abbrev s_tell_growth : Stmt := top 88
abbrev s_tell_summary : Stmt := top 89
abbrev s_asked : Stmt := top 91
abbrev s_are_servers : Stmt := top 98
abbrev s_change_station : Stmt := top 99
abbrev s_change_service : Stmt := top 100
abbrev s_change_arrival : Stmt := top 101
abbrev s_change_route : Stmt := top 102
abbrev s_change_leaving : Stmt := top 103
abbrev s_clear_routes : Stmt := top 104
abbrev s_scale_arrivals : Stmt := top 105
abbrev s_changed : Stmt := top 107
abbrev s_first_of : Stmt := top 114
abbrev s_size_of : Stmt := top 115
abbrev s_split_up : Stmt := top 116
abbrev s_created : Stmt := top 117
abbrev s_answered : Stmt := top 118
abbrev s_answers : Stmt := top 119
end OQ
namespace OQ
open PySem PySem.Spec PyProof.Rows L2
abbrev a_divisor : Addr := 23
abbrev a_ratio : Addr := 30
abbrev a_whole : Addr := 37
abbrev a_plus : Addr := 44
abbrev a_minus : Addr := 51
abbrev a_times : Addr := 58
abbrev a_over : Addr := 65
abbrev a_is_less : Addr := 72
abbrev a_total : Addr := 79
abbrev a_product : Addr := 86
abbrev a_power : Addr := 93
abbrev a_scaled : Addr := 98
abbrev a_taken : Addr := 103
abbrev a_cleared : Addr := 108
abbrev a_solved : Addr := 113
abbrev a_Net_init : Addr := 125
abbrev a_Net_has_station : Addr := 132
abbrev a_Net_has_place : Addr := 139
abbrev a_Net_place_at : Addr := 146
abbrev a_Net_station_of : Addr := 153
abbrev a_Net_places_of : Addr := 158
abbrev a_Net_place_count : Addr := 165
abbrev a_Net_set_kind : Addr := 172
abbrev a_Net_set_services : Addr := 179
abbrev a_Net_set_service : Addr := 186
abbrev a_Net_clear : Addr := 193
abbrev a_weight_sum : Addr := 207
abbrev a_move_chance : Addr := 214
abbrev a_leave_chance : Addr := 221
abbrev a_leaves : Addr := 228
abbrev a_goes_on : Addr := 233
abbrev a_further : Addr := 238
abbrev a_is_open : Addr := 243
abbrev a_part_of : Addr := 250
abbrev a_equations : Addr := 255
abbrev a_flow : Addr := 262
abbrev a_traffic : Addr := 267
abbrev a_visits_from : Addr := 272
abbrev a_place_load : Addr := 279
abbrev a_station_load : Addr := 284
abbrev a_station_rate : Addr := 289
abbrev a_utilization : Addr := 296
abbrev a_utilizations : Addr := 301
abbrev a_busiest : Addr := 308
abbrev a_stable_rates : Addr := 313
abbrev a_departures : Addr := 318
abbrev a_blocked : Addr := 325
abbrev a_waiting_chance : Addr := 332
abbrev a_queue : Addr := 339
abbrev a_station_queue : Addr := 346
abbrev a_unused : Addr := 353
abbrev a_wait_at : Addr := 360
abbrev a_number_at : Addr := 367
abbrev a_time_at : Addr := 374
abbrev a_station_number : Addr := 379
abbrev a_station_numbers : Addr := 384
abbrev a_time_from : Addr := 389
abbrev a_factorial : Addr := 396
abbrev a_share : Addr := 403
abbrev a_weight : Addr := 410
abbrev a_all_weights : Addr := 415
abbrev a_number_chance : Addr := 422
abbrev a_state_chance : Addr := 427
abbrev a_single : Addr := 434
abbrev a_listed : Addr := 441
abbrev a_tell_route : Addr := 448
abbrev a_tell_leave : Addr := 455
abbrev a_tell_open : Addr := 462
abbrev a_tell_traffic : Addr := 469
abbrev a_tell_visits : Addr := 476
abbrev a_tell_utilizations : Addr := 483
abbrev a_tell_stable : Addr := 490
abbrev a_tell_bottleneck : Addr := 497
abbrev a_tell_numbers : Addr := 504
abbrev a_tell_place_number : Addr := 511
abbrev a_tell_visit_time : Addr := 518
abbrev a_tell_time_from : Addr := 525
abbrev a_tell_network_time : Addr := 532
abbrev a_tell_departures : Addr := 539
abbrev a_tell_number_chance : Addr := 546
abbrev a_tell_state_chance : Addr := 551
abbrev a_tell_growth : Addr := 558
abbrev a_tell_summary : Addr := 565
abbrev a_asked : Addr := 573
abbrev a_are_servers : Addr := 580
abbrev a_change_station : Addr := 587
abbrev a_change_service : Addr := 594
abbrev a_change_arrival : Addr := 601
abbrev a_change_route : Addr := 608
abbrev a_change_leaving : Addr := 615
abbrev a_clear_routes : Addr := 622
abbrev a_scale_arrivals : Addr := 627
abbrev a_changed : Addr := 635
abbrev a_first_of : Addr := 643
abbrev a_size_of : Addr := 650
abbrev a_split_up : Addr := 657
abbrev a_created : Addr := 664
abbrev a_answered : Addr := 671
abbrev a_answers : Addr := 678
abbrev a_Net : Addr := 196
abbrev a_NOTHING : Addr := 15
abbrev a_ONE : Addr := 16
abbrev a_ASKS : Addr := 566
abbrev a_CHANGES : Addr := 628
abbrev a_SIZES : Addr := 636
def asx0 : List Addr := [196, 195, 3, 15, 16, 566, 628, 636, 23, 22, 30, 29, 37, 36, 44, 43, 51, 50, 58, 57, 65, 64, 72, 71, 79, 78, 86, 85, 93, 92]
def asx1 : List Addr := [98, 97, 103, 102, 108, 107, 113, 112, 125, 124, 132, 131, 139, 138, 146, 145, 153, 152, 158, 157, 165, 164, 172, 171, 179, 178, 186, 185, 193, 192]
def asx2 : List Addr := [207, 206, 214, 213, 221, 220, 228, 227, 233, 232, 238, 237, 243, 242, 250, 249, 255, 254, 262, 261, 267, 266, 272, 271, 279, 278, 284, 283, 289, 288]
def asx3 : List Addr := [296, 295, 301, 300, 308, 307, 313, 312, 318, 317, 325, 324, 332, 331, 339, 338, 346, 345, 353, 352, 360, 359, 367, 366, 374, 373, 379, 378, 384, 383]
def asx4 : List Addr := [389, 388, 396, 395, 403, 402, 410, 409, 415, 414, 422, 421, 427, 426, 434, 433, 441, 440, 448, 447, 455, 454, 462, 461, 469, 468, 476, 475, 483, 482]
def asx5 : List Addr := [490, 489, 497, 496, 504, 503, 511, 510, 518, 517, 525, 524, 532, 531, 539, 538, 546, 545, 551, 550, 558, 557, 565, 564, 573, 572, 580, 579, 587, 586]
def asx6 : List Addr := [594, 593, 601, 600, 608, 607, 615, 614, 622, 621, 627, 626, 635, 634, 643, 642, 650, 649, 657, 656, 664, 663, 671, 670, 678, 677]
def asx : List Addr := asx0 ++ asx1 ++ asx2 ++ asx3 ++ asx4 ++ asx5 ++ asx6 ++ [cStatics, sysModules, builtinsNs, 4]
/-- a value in short -/
inductive Sv where
  | ref (a : Addr) | int (i : Int) | other
  deriving DecidableEq
def sv : Value → Sv
  | .ref a => .ref a
  | .int i _ => .int i
  | _ => .other
def ks : Value → Option Str
  | .str x _ => some x
  | _ => none
def mainL0 : List (Option Str × Sv) := [(some "__name__", .other), (some "__doc__", .other), (some "__package__", .other), (some "__loader__", .other), (some "__spec__", .other), (some "__annotations__", .ref 6), (some "__builtins__", .ref 4), (some "__file__", .other), (some "__cached__", .other), (some "NOTHING", .ref 15), (some "ONE", .ref 16), (some "divisor", .ref 23), (some "ratio", .ref 30), (some "whole", .ref 37), (some "plus", .ref 44), (some "minus", .ref 51), (some "times", .ref 58), (some "over", .ref 65), (some "is_less", .ref 72), (some "total", .ref 79), (some "product", .ref 86), (some "power", .ref 93), (some "scaled", .ref 98), (some "taken", .ref 103), (some "cleared", .ref 108), (some "solved", .ref 113), (some "IN_ORDER", .int (0)), (some "FOR_EVERYBODY", .int (2)), (some "NO_INSTANCE", .int (-11)), (some "NO_PLACE", .int (-2))]
def mainL1 : List (Option Str × Sv) := [(some "NO_ARRIVALS", .int (-6)), (some "OUTSIDE", .int (-22)), (some "NO_RESULT", .int (-33)), (some "Net", .ref 196), (some "weight_sum", .ref 207), (some "move_chance", .ref 214), (some "leave_chance", .ref 221), (some "leaves", .ref 228), (some "goes_on", .ref 233), (some "further", .ref 238), (some "is_open", .ref 243), (some "part_of", .ref 250), (some "equations", .ref 255), (some "flow", .ref 262), (some "traffic", .ref 267), (some "visits_from", .ref 272), (some "place_load", .ref 279), (some "station_load", .ref 284), (some "station_rate", .ref 289), (some "utilization", .ref 296), (some "utilizations", .ref 301), (some "busiest", .ref 308), (some "stable_rates", .ref 313), (some "departures", .ref 318), (some "blocked", .ref 325), (some "waiting_chance", .ref 332), (some "queue", .ref 339), (some "station_queue", .ref 346), (some "unused", .ref 353), (some "wait_at", .ref 360)]
def mainL2 : List (Option Str × Sv) := [(some "number_at", .ref 367), (some "time_at", .ref 374), (some "station_number", .ref 379), (some "station_numbers", .ref 384), (some "time_from", .ref 389), (some "factorial", .ref 396), (some "share", .ref 403), (some "weight", .ref 410), (some "all_weights", .ref 415), (some "number_chance", .ref 422), (some "state_chance", .ref 427), (some "MOST_CUSTOMERS", .int (60)), (some "single", .ref 434), (some "listed", .ref 441), (some "tell_route", .ref 448), (some "tell_leave", .ref 455), (some "tell_open", .ref 462), (some "tell_traffic", .ref 469), (some "tell_visits", .ref 476), (some "tell_utilizations", .ref 483), (some "tell_stable", .ref 490), (some "tell_bottleneck", .ref 497), (some "tell_numbers", .ref 504), (some "tell_place_number", .ref 511), (some "tell_visit_time", .ref 518), (some "tell_time_from", .ref 525), (some "tell_network_time", .ref 532), (some "tell_departures", .ref 539), (some "tell_number_chance", .ref 546), (some "tell_state_chance", .ref 551)]
def mainL3 : List (Option Str × Sv) := [(some "tell_growth", .ref 558), (some "tell_summary", .ref 565), (some "ASKS", .ref 566), (some "asked", .ref 573), (some "MOST_KIND", .int (3)), (some "MOST_SERVERS", .int (20)), (some "MOST_RATE", .int (100000)), (some "MOST_WEIGHT", .int (1000)), (some "MOST_FACTOR", .int (1000)), (some "are_servers", .ref 580), (some "change_station", .ref 587), (some "change_service", .ref 594), (some "change_arrival", .ref 601), (some "change_route", .ref 608), (some "change_leaving", .ref 615), (some "clear_routes", .ref 622), (some "scale_arrivals", .ref 627), (some "CHANGES", .ref 628), (some "changed", .ref 635), (some "CREATE", .int (0)), (some "STATE_CHANCE", .int (23)), (some "MOST_STATIONS", .int (5)), (some "MOST_GROUPS", .int (3)), (some "SIZES", .ref 636), (some "first_of", .ref 643), (some "size_of", .ref 650), (some "split_up", .ref 657), (some "created", .ref 664), (some "answered", .ref 671), (some "answers", .ref 678)]
def mainL : List (Option Str × Sv) := mainL0 ++ mainL1 ++ mainL2 ++ mainL3
structure DefX where
  f : Addr
  name : Str
  qual : Str
  st : Stmt
def fnx0 : List DefX := [⟨a_divisor, "divisor", "divisor", s_divisor⟩, ⟨a_ratio, "ratio", "ratio", s_ratio⟩, ⟨a_whole, "whole", "whole", s_whole⟩, ⟨a_plus, "plus", "plus", s_plus⟩, ⟨a_minus, "minus", "minus", s_minus⟩, ⟨a_times, "times", "times", s_times⟩, ⟨a_over, "over", "over", s_over⟩, ⟨a_is_less, "is_less", "is_less", s_is_less⟩, ⟨a_total, "total", "total", s_total⟩, ⟨a_product, "product", "product", s_product⟩, ⟨a_power, "power", "power", s_power⟩, ⟨a_scaled, "scaled", "scaled", s_scaled⟩, ⟨a_taken, "taken", "taken", s_taken⟩, ⟨a_cleared, "cleared", "cleared", s_cleared⟩, ⟨a_solved, "solved", "solved", s_solved⟩, ⟨a_Net_init, "__init__", "Net.__init__", s_Net_init⟩, ⟨a_Net_has_station, "has_station", "Net.has_station", s_Net_has_station⟩, ⟨a_Net_has_place, "has_place", "Net.has_place", s_Net_has_place⟩, ⟨a_Net_place_at, "place_at", "Net.place_at", s_Net_place_at⟩, ⟨a_Net_station_of, "station_of", "Net.station_of", s_Net_station_of⟩, ⟨a_Net_places_of, "places_of", "Net.places_of", s_Net_places_of⟩, ⟨a_Net_place_count, "place_count", "Net.place_count", s_Net_place_count⟩, ⟨a_Net_set_kind, "set_kind", "Net.set_kind", s_Net_set_kind⟩, ⟨a_Net_set_services, "set_services", "Net.set_services", s_Net_set_services⟩, ⟨a_Net_set_service, "set_service", "Net.set_service", s_Net_set_service⟩, ⟨a_Net_clear, "clear", "Net.clear", s_Net_clear⟩, ⟨a_weight_sum, "weight_sum", "weight_sum", s_weight_sum⟩, ⟨a_move_chance, "move_chance", "move_chance", s_move_chance⟩, ⟨a_leave_chance, "leave_chance", "leave_chance", s_leave_chance⟩, ⟨a_leaves, "leaves", "leaves", s_leaves⟩]
def fnx1 : List DefX := [⟨a_goes_on, "goes_on", "goes_on", s_goes_on⟩, ⟨a_further, "further", "further", s_further⟩, ⟨a_is_open, "is_open", "is_open", s_is_open⟩, ⟨a_part_of, "part_of", "part_of", s_part_of⟩, ⟨a_equations, "equations", "equations", s_equations⟩, ⟨a_flow, "flow", "flow", s_flow⟩, ⟨a_traffic, "traffic", "traffic", s_traffic⟩, ⟨a_visits_from, "visits_from", "visits_from", s_visits_from⟩, ⟨a_place_load, "place_load", "place_load", s_place_load⟩, ⟨a_station_load, "station_load", "station_load", s_station_load⟩, ⟨a_station_rate, "station_rate", "station_rate", s_station_rate⟩, ⟨a_utilization, "utilization", "utilization", s_utilization⟩, ⟨a_utilizations, "utilizations", "utilizations", s_utilizations⟩, ⟨a_busiest, "busiest", "busiest", s_busiest⟩, ⟨a_stable_rates, "stable_rates", "stable_rates", s_stable_rates⟩, ⟨a_departures, "departures", "departures", s_departures⟩, ⟨a_blocked, "blocked", "blocked", s_blocked⟩, ⟨a_waiting_chance, "waiting_chance", "waiting_chance", s_waiting_chance⟩, ⟨a_queue, "queue", "queue", s_queue⟩, ⟨a_station_queue, "station_queue", "station_queue", s_station_queue⟩, ⟨a_unused, "unused", "unused", s_unused⟩, ⟨a_wait_at, "wait_at", "wait_at", s_wait_at⟩, ⟨a_number_at, "number_at", "number_at", s_number_at⟩, ⟨a_time_at, "time_at", "time_at", s_time_at⟩, ⟨a_station_number, "station_number", "station_number", s_station_number⟩, ⟨a_station_numbers, "station_numbers", "station_numbers", s_station_numbers⟩, ⟨a_time_from, "time_from", "time_from", s_time_from⟩, ⟨a_factorial, "factorial", "factorial", s_factorial⟩, ⟨a_share, "share", "share", s_share⟩, ⟨a_weight, "weight", "weight", s_weight⟩]
def fnx2 : List DefX := [⟨a_all_weights, "all_weights", "all_weights", s_all_weights⟩, ⟨a_number_chance, "number_chance", "number_chance", s_number_chance⟩, ⟨a_state_chance, "state_chance", "state_chance", s_state_chance⟩, ⟨a_single, "single", "single", s_single⟩, ⟨a_listed, "listed", "listed", s_listed⟩, ⟨a_tell_route, "tell_route", "tell_route", s_tell_route⟩, ⟨a_tell_leave, "tell_leave", "tell_leave", s_tell_leave⟩, ⟨a_tell_open, "tell_open", "tell_open", s_tell_open⟩, ⟨a_tell_traffic, "tell_traffic", "tell_traffic", s_tell_traffic⟩, ⟨a_tell_visits, "tell_visits", "tell_visits", s_tell_visits⟩, ⟨a_tell_utilizations, "tell_utilizations", "tell_utilizations", s_tell_utilizations⟩, ⟨a_tell_stable, "tell_stable", "tell_stable", s_tell_stable⟩, ⟨a_tell_bottleneck, "tell_bottleneck", "tell_bottleneck", s_tell_bottleneck⟩, ⟨a_tell_numbers, "tell_numbers", "tell_numbers", s_tell_numbers⟩, ⟨a_tell_place_number, "tell_place_number", "tell_place_number", s_tell_place_number⟩, ⟨a_tell_visit_time, "tell_visit_time", "tell_visit_time", s_tell_visit_time⟩, ⟨a_tell_time_from, "tell_time_from", "tell_time_from", s_tell_time_from⟩, ⟨a_tell_network_time, "tell_network_time", "tell_network_time", s_tell_network_time⟩, ⟨a_tell_departures, "tell_departures", "tell_departures", s_tell_departures⟩, ⟨a_tell_number_chance, "tell_number_chance", "tell_number_chance", s_tell_number_chance⟩, ⟨a_tell_state_chance, "tell_state_chance", "tell_state_chance", s_tell_state_chance⟩, ⟨a_tell_growth, "tell_growth", "tell_growth", s_tell_growth⟩, ⟨a_tell_summary, "tell_summary", "tell_summary", s_tell_summary⟩, ⟨a_asked, "asked", "asked", s_asked⟩, ⟨a_are_servers, "are_servers", "are_servers", s_are_servers⟩, ⟨a_change_station, "change_station", "change_station", s_change_station⟩, ⟨a_change_service, "change_service", "change_service", s_change_service⟩, ⟨a_change_arrival, "change_arrival", "change_arrival", s_change_arrival⟩, ⟨a_change_route, "change_route", "change_route", s_change_route⟩, ⟨a_change_leaving, "change_leaving", "change_leaving", s_change_leaving⟩]
def fnx3 : List DefX := [⟨a_clear_routes, "clear_routes", "clear_routes", s_clear_routes⟩, ⟨a_scale_arrivals, "scale_arrivals", "scale_arrivals", s_scale_arrivals⟩, ⟨a_changed, "changed", "changed", s_changed⟩, ⟨a_first_of, "first_of", "first_of", s_first_of⟩, ⟨a_size_of, "size_of", "size_of", s_size_of⟩, ⟨a_split_up, "split_up", "split_up", s_split_up⟩, ⟨a_created, "created", "created", s_created⟩, ⟨a_answered, "answered", "answered", s_answered⟩, ⟨a_answers, "answers", "answers", s_answers⟩]
def fnx : List DefX := fnx0 ++ fnx1 ++ fnx2 ++ fnx3
end OQ
namespace OQ
open PySem PySem.Spec PyProof.Rows L2
def nm0 : List Str := ["NOTHING", "ONE", "divisor", "ratio", "whole", "plus", "minus", "times", "over", "is_less", "total", "product", "power", "scaled", "taken", "cleared", "solved", "IN_ORDER", "FOR_EVERYBODY", "NO_INSTANCE", "NO_PLACE", "NO_ARRIVALS", "OUTSIDE", "NO_RESULT", "Net", "weight_sum", "move_chance", "leave_chance", "leaves", "goes_on"]
def nm1 : List Str := ["further", "is_open", "part_of", "equations", "flow", "traffic", "visits_from", "place_load", "station_load", "station_rate", "utilization", "utilizations", "busiest", "stable_rates", "departures", "blocked", "waiting_chance", "queue", "station_queue", "unused", "wait_at", "number_at", "time_at", "station_number", "station_numbers", "time_from", "factorial", "share", "weight", "all_weights"]
def nm2 : List Str := ["number_chance", "state_chance", "MOST_CUSTOMERS", "single", "listed", "tell_route", "tell_leave", "tell_open", "tell_traffic", "tell_visits", "tell_utilizations", "tell_stable", "tell_bottleneck", "tell_numbers", "tell_place_number", "tell_visit_time", "tell_time_from", "tell_network_time", "tell_departures", "tell_number_chance", "tell_state_chance", "tell_growth", "tell_summary", "ASKS", "asked", "MOST_KIND", "MOST_SERVERS", "MOST_RATE", "MOST_WEIGHT", "MOST_FACTOR"]
def nm3 : List Str := ["are_servers", "change_station", "change_service", "change_arrival", "change_route", "change_leaving", "clear_routes", "scale_arrivals", "CHANGES", "changed", "CREATE", "STATE_CHANCE", "MOST_STATIONS", "MOST_GROUPS", "SIZES", "first_of", "size_of", "split_up", "created", "answered"]
def nms : List Str := nm0 ++ nm1 ++ nm2 ++ nm3
abbrev pkA : Nat := 119
abbrev FnV := Option (Str × Str × Arguments × FuncBody × Scope × Addr × List (Str × Addr) × Addr × Str)
def fnX (K : PySem.W.Frag) (f : Addr) : FnV := match K.lookup f with
  | some ⟨_, _, .func fd, _⟩ => (match fd.code with
    | .ref c => (match fd.defaults with
      | .none => (match K.lookup c with
        | some ⟨_, _, .fields vs, _⟩ => (match vs.toList with
          | _ :: .str n _ :: _ => some (fd.name, fd.qualname, fd.params, fd.body, fd.scope, fd.globals, fd.closure, fd.builtins, n)
          | _ => none)
        | _ => none)
      | _ => none)
    | _ => none)
  | _ => none
def DefX.val (d : DefX) : FnV := some (d.name, d.qual, defArgs d.st, .stmts (defBody d.st), defScope d.st, mainGlobals, [], builtinsNs, d.qual)
/-- the module's names and what they stand for -/
def mainX (K : PySem.W.Frag) : List (Option Str × Sv) := match K.lookup mainGlobals with
  | some ⟨_, _, .dict es _, _⟩ => es.toList.map fun e => (ks e.key, sv e.val)
  | _ => []
/-- a tuple of the top -/
def tupX (K : PySem.W.Frag) (a : Addr) : Option (Bool × List Sv) := match K.lookup a with
  | some ⟨.type c, _, .seq its _, _⟩ => some (decide (c = "tuple") && decide (its.size ≤ 1000), its.toList.map sv)
  | _ => none
/-- the class -/
def clsB (K : PySem.W.Frag) : Bool := PySem.W.plainGet K a_Net Str.empty && (PySem.W.hasDictIn K a_Net && (PySem.W.plainOver K a_Net && (He.eqO (PySem.W.findIn K (.ref a_Net) "__setattr__") (some (some (.builtin "object.__setattr__"))) && (PySem.W.makesIn K a_Net && PySem.W.keepIn K (.ref a_Net)))))
def methB (K : PySem.W.Frag) (p : Str × Addr) : Bool := He.eqO (PySem.W.findIn K (.ref a_Net) p.1) (some (some (.ref p.2))) && PySem.W.isFn K (.ref p.2)
def noB (K : PySem.W.Frag) (x : Str) : Bool := He.eqO (PySem.W.findIn K (.ref a_Net) x) (some none)
def meths : List (Str × Addr) := [("__init__", a_Net_init), ("has_station", a_Net_has_station), ("has_place", a_Net_has_place), ("place_at", a_Net_place_at), ("station_of", a_Net_station_of), ("places_of", a_Net_places_of), ("place_count", a_Net_place_count), ("set_kind", a_Net_set_kind), ("set_services", a_Net_set_services), ("set_service", a_Net_set_service), ("clear", a_Net_clear)]
def flds : List Str := ["stations", "groups", "kinds", "servers", "services", "arrivals", "leaving", "weights"]
def netB (K : PySem.W.Frag) : Bool := clsB K && (meths.all (methB K) && flds.all (noB K))
/-- what the great divisions lean on -/
def seeB (K : PySem.W.Frag) : Bool := (K.lookup cStatics).isSome && ((K.lookup sysModules).isSome && ((K.lookup builtinsNs).isSome && (K.lookup 4).isSome))
abbrev Obx := List (Option Str × Sv) × List FnV × List (Option (Bool × List Sv)) × Bool
def obx (K : PySem.W.Frag) : Obx := (mainX K, fnx.map fun d => fnX K d.f, [a_NOTHING, a_ONE, a_ASKS, a_CHANGES, a_SIZES].map (tupX K), netB K && seeB K)
def tNOTHING : List Sv := [.int 0, .int 1]
def tONE : List Sv := [.int 1, .int 1]
def tASKS : List Sv := [a_tell_route, a_tell_leave, a_tell_open, a_tell_traffic, a_tell_visits, a_tell_utilizations, a_tell_stable, a_tell_bottleneck, a_tell_numbers, a_tell_place_number, a_tell_visit_time, a_tell_time_from, a_tell_network_time, a_tell_departures, a_tell_number_chance, a_tell_state_chance, a_tell_growth, a_tell_summary].map Sv.ref
def tCHANGES : List Sv := [a_change_station, a_change_service, a_change_arrival, a_change_route, a_change_leaving, a_clear_routes, a_scale_arrivals].map Sv.ref
def sizes : List Int := [2, 3, 3, 3, 5, 3, 2, 2, 4, 2, 0, 0, 2, 0, 0, 0, 0, 2, 2, 2, 0, 0, 2, 0, 0, 0]
def tSIZES : List Sv := sizes.map Sv.int
def vax : Obx := (mainL, fnx.map DefX.val, [tNOTHING, tONE, tASKS, tCHANGES, tSIZES].map fun l => some (true, l), true)
def KX (g : Addr → Option Obj) : PySem.W.Frag := He.frG g asx
def hk : PySem.W.Hook where
  α := Obx
  obs := fun s => obx (KX s.heap.get?)
  val := fun _ => vax
  says := fun _ h => ∃ K : PySem.W.Frag, K.In h ∧ obx K = vax
  of := fun _ _ e => ⟨_, He.frG_in, e⟩
  keeps := fun _ _ _ ⟨K, hK, c⟩ k => ⟨K, PySem.W.Frag.In.keeps hK k, c⟩
def ob (s : PySem.W.SharedT) : Obx := obx (KX (HeadRun.getT s))
theorem ob_eq (s : PySem.W.SharedT) : ob s = hk.obs s.abs := by
  have e : HeadRun.getT s = s.abs.heap.get? := funext (HeadRun.getT_eq s)
  unfold ob
  rw [e]
  rfl
theorem run (w : World) : HeadRun.RunEqS PySem.Challenge.rw_openqueues_s01_answers (PySem.W.view PySem.Challenge.rw_openqueues_s01_answers.prog [pkA]) hk ob 8000 nms w := by
  intro os
  kernel_rfl
end OQ
/-! typed walks: what a name holds is told by a predicate that stays; a judgement says what an expression gives. G: the part of the heap that is spoken of; H: the whole -/
namespace OQ
open PySem PySem.Spec PyProof.Rows L2
abbrev St := L2.St
def Ex (H H' : Hp) : Prop := ∀ a o, H a = some o → H' a = some o
theorem Ex.refl (H : Hp) : Ex H H := fun _ _ h => h
theorem Ex.trans {H H1 H2 : Hp} (a : Ex H H1) (b : Ex H1 H2) : Ex H H2 := fun x o h => b x o (a x o h)
theorem Ex.new {H : Hp} {p : Addr} {o : HO} (h : H p = none) : Ex H (upd H p o) := fun a u e => by
  rw [upd_ne (ne_of_none e h)]
  exact e
theorem Ex.free {H H' : Hp} (e : Ex H H') {l : Addr} (h : H' l = none) : H l = none := by
  cases q : H l with
  | none => rfl
  | some o =>
    rw [e l o q] at h
    cases h
theorem Ex.rd {H H' : Hp} {a : Addr} {u : HO} (e : Ex H H') (h : Rd H a u) : Rd H' a u := by
  rcases h with h | ⟨o, h⟩
  · exact Or.inl (e a _ h)
  · exact Or.inr ⟨o, e a _ h⟩
theorem Ex.l {K : PySem.W.Frag} {H H' : Hp} {a : Addr} {xs : List V} (e : Ex H H') (h : SqL K H a xs) : SqL K H' a xs := by
  rcases h with h | h
  · exact Or.inl (e.rd h)
  · exact Or.inr h
theorem Ex.t {K : PySem.W.Frag} {H H' : Hp} {a : Addr} {xs : List V} (e : Ex H H') (h : SqT K H a xs) : SqT K H' a xs := by
  rcases h with h | h
  · exact Or.inl (e.rd h)
  · exact Or.inr h
/-- both grow; what is new in what is spoken of was free -/
structure Gr (G H G' H' : Hp) : Prop where
  sub : Ex G' H'
  old : Ex G G'
  kept : Ex H H'
  new : ∀ b o, G' b = some o → G b = some o ∨ H b = none
theorem Gr.refl {G H : Hp} (e : Ex G H) : Gr G H G H := ⟨e, Ex.refl _, Ex.refl _, fun _ _ h => .inl h⟩
theorem Gr.trans {G H G1 H1 G2 H2 : Hp} (a : Gr G H G1 H1) (b : Gr G1 H1 G2 H2) : Gr G H G2 H2 :=
  ⟨b.sub, a.old.trans b.old, a.kept.trans b.kept, fun c o h => by
    rcases b.new c o h with z | z
    · exact a.new c o z
    · exact .inr (a.kept.free z)⟩
theorem Ex.upd2 {G H : Hp} {p : Addr} {o : HO} (e : Ex G H) : Ex (upd G p o) (upd H p o) := fun a u h => by
  by_cases q : a = p
  · subst q
    rw [upd_same] at h ⊢
    exact h
  · rw [upd_ne q] at h ⊢
    exact e a u h
theorem Gr.make {G H : Hp} {p : Addr} {o : HO} (e : Ex G H) (h : H p = none) : Gr G H (upd G p o) (upd H p o) :=
  ⟨e.upd2, Ex.new (e.free h), Ex.new h, fun b u q => by
    by_cases z : b = p
    · subst z; exact .inr h
    · rw [upd_ne z] at q; exact .inl q⟩
/-- a predicate that stays -/
structure Rp where
  r : V → Hp → Prop
  up : ∀ {v : V} {H H' : Hp}, Ex H H' → r v H → r v H'
def rV (x : V) : Rp := ⟨fun v _ => v = x, fun _ h => h⟩
abbrev rZ (i : Int) : Rp := rV (.int i)
abbrev rB (b : Bool) : Rp := rV (.bl b)
def All : List Rp → List V → Hp → Prop
  | [], [], _ => True
  | r :: rs, v :: vs, H => r.r v H ∧ All rs vs H
  | _, _, _ => False
theorem All.up : ∀ {rs : List Rp} {vs : List V} {H H' : Hp}, Ex H H' → All rs vs H → All rs vs H'
  | [], [], _, _, _, _ => trivial
  | r :: rs, v :: vs, _, _, e, h => ⟨r.up e h.1, All.up e h.2⟩
  | [], _ :: _, _, _, _, h => h.elim
  | _ :: _, [], _, _, _, h => h.elim
theorem All.len : ∀ {rs : List Rp} {vs : List V} {H : Hp}, All rs vs H → vs.length = rs.length
  | [], [], _, _ => rfl
  | r :: rs, v :: vs, _, h => by rw [List.length_cons, List.length_cons, All.len h.2]
  | [], _ :: _, _, h => h.elim
  | _ :: _, [], _, h => h.elim
theorem All.get : ∀ {rs : List Rp} {vs : List V} {H : Hp} {i : Nat} {r : Rp}, All rs vs H → rs[i]? = some r → ∃ v, vs[i]? = some v ∧ r.r v H
  | [], [], _, i, _, _, e => by simp at e
  | r :: rs, v :: vs, _, 0, _, h, e => by
    have e' : r = _ := Option.some.inj e
    subst e'
    exact ⟨v, rfl, h.1⟩
  | r :: rs, v :: vs, _, i + 1, _, h, e => All.get (i := i) h.2 e
  | [], _ :: _, _, _, _, h, _ => h.elim
  | _ :: _, [], _, _, _, h, _ => h.elim
theorem All.snoc : ∀ {rs : List Rp} {vs : List V} {H : Hp} {r : Rp} {v : V}, All rs vs H → r.r v H → All (rs ++ [r]) (vs ++ [v]) H
  | [], [], _, _, _, _, h => ⟨h, trivial⟩
  | r :: rs, v :: vs, _, _, _, h, q => ⟨h.1, All.snoc h.2 q⟩
  | [], _ :: _, _, _, _, h, _ => h.elim
  | _ :: _, [], _, _, _, h, _ => h.elim
theorem All.app : ∀ {rs qs : List Rp} {vs ws : List V} {H : Hp}, All rs vs H → All qs ws H → All (rs ++ qs) (vs ++ ws) H
  | [], _, [], _, _, _, h => h
  | r :: rs, _, v :: vs, _, _, h, q => ⟨h.1, All.app h.2 q⟩
  | [], _, _ :: _, _, _, h, _ => h.elim
  | _ :: _, _, [], _, _, h, _ => h.elim
theorem all_vals {α : Type} {f : α → V} : ∀ {xs : List α} {vs : List V} {H : Hp}, All (xs.map fun x => rV (f x)) vs H → vs = xs.map f
  | [], [], _, _ => rfl
  | x :: xs, v :: vs, _, h => by
    have e : v = f x := h.1
    rw [List.map_cons, all_vals (xs := xs) h.2, e]
  | [], _ :: _, _, h => h.elim
  | _ :: _, [], _, h => h.elim
theorem vals_all {α : Type} {f : α → V} : ∀ {xs : List α} {H : Hp}, All (xs.map fun x => rV (f x)) (xs.map f) H
  | [], _ => trivial
  | _ :: xs, _ => ⟨rfl, vals_all (xs := xs)⟩
/-- a list -/
def rL (rs : List Rp) : Rp := ⟨fun v H => ∃ a vs, v = .ref a ∧ H a = some (.lst vs) ∧ All rs vs H, fun e ⟨a, vs, h1, h2, h3⟩ => ⟨a, vs, h1, e _ _ h2, h3.up e⟩⟩
abbrev rLZ (ns : List Int) : Rp := rL (ns.map fun n => rV (.int n))
abbrev rLB (bs : List Bool) : Rp := rL (bs.map fun b => rV (.bl b))
open Lrx1 (Fraction add sub mul divide whole zero one reduce lt le sum entry isZero) in
/-- a fraction -/
def rF (K : PySem.W.Frag) (q : Lrx1.Fraction) : Rp := ⟨fun v H => ∃ a, v = .ref a ∧ SqT K H a [.int q.num, .int (q.den : Int)], fun e ⟨a, h1, h2⟩ => ⟨a, h1, e.t h2⟩⟩
abbrev rLF (K : PySem.W.Frag) (qs : List Lrx1.Fraction) : Rp := rL (qs.map (rF K))
/-! ### slots -/
abbrev Ctx := List (Option Rp)
def En : Ctx → St → Hp → Prop
  | [], [], _ => True
  | none :: g, _ :: s, H => En g s H
  | some r :: g, v :: s, H => (∃ x, v = some x ∧ r.r x H) ∧ En g s H
  | _, _, _ => False
theorem En.up : ∀ {g : Ctx} {s : St} {H H' : Hp}, Ex H H' → En g s H → En g s H'
  | [], [], _, _, _, _ => trivial
  | none :: g, _ :: s, _, _, e, h => En.up (g := g) (s := s) e h
  | some r :: g, v :: s, _, _, e, ⟨⟨x, h1, h2⟩, h3⟩ => ⟨⟨x, h1, r.up e h2⟩, En.up e h3⟩
  | [], _ :: _, _, _, _, h => h.elim
  | none :: _, [], _, _, _, h => h.elim
  | some _ :: _, [], _, _, _, h => h.elim
theorem En.get : ∀ {g : Ctx} {s : St} {H : Hp} {i : Nat} {r : Rp}, En g s H → g[i]? = some (some r) → ∃ v, s[i]? = some (some v) ∧ r.r v H
  | [], [], _, i, _, _, e => by simp at e
  | none :: g, _ :: s, _, 0, _, _, e => by simp at e
  | none :: g, _ :: s, _, i + 1, _, h, e => En.get (g := g) (s := s) (i := i) h e
  | some r :: g, v :: s, _, 0, _, h, e => by
    have e' : r = _ := Option.some.inj (Option.some.inj e)
    subst e'
    obtain ⟨⟨x, h1, h2⟩, _⟩ := h
    exact ⟨x, by rw [h1]; rfl, h2⟩
  | some r :: g, v :: s, _, i + 1, _, h, e => En.get (g := g) (s := s) (i := i) h.2 e
  | [], _ :: _, _, _, _, h, _ => h.elim
  | none :: _, [], _, _, _, h, _ => h.elim
  | some _ :: _, [], _, _, _, h, _ => h.elim
theorem En.set : ∀ {g : Ctx} {s : St} {H : Hp} {i : Nat} {r : Rp} {v : V}, En g s H → r.r v H → En (g.set i (some r)) (s.set i (some v)) H
  | [], [], _, _, _, _, _, _ => trivial
  | none :: g, _ :: s, _, 0, _, v, h, q => ⟨⟨v, rfl, q⟩, h⟩
  | none :: g, _ :: s, _, i + 1, _, _, h, q => En.set (g := g) (s := s) (i := i) h q
  | some r :: g, w :: s, _, 0, _, v, h, q => ⟨⟨v, rfl, q⟩, h.2⟩
  | some r :: g, w :: s, _, i + 1, _, _, h, q => ⟨h.1, En.set (g := g) (s := s) (i := i) h.2 q⟩
  | [], _ :: _, _, _, _, _, h, _ => h.elim
  | none :: _, [], _, _, _, _, h, _ => h.elim
  | some _ :: _, [], _, _, _, _, h, _ => h.elim
/-- forgetting a slot -/
theorem En.unset : ∀ {g : Ctx} {s : St} {H : Hp} {i : Nat} {o : Option V}, En g s H → En (g.set i none) (s.set i o) H
  | [], [], _, _, _, _ => trivial
  | none :: g, _ :: s, _, 0, _, h => h
  | none :: g, _ :: s, _, i + 1, _, h => En.unset (g := g) (s := s) (i := i) h
  | some r :: g, w :: s, _, 0, _, h => h.2
  | some r :: g, w :: s, _, i + 1, _, h => ⟨h.1, En.unset (g := g) (s := s) (i := i) h.2⟩
  | [], _ :: _, _, _, _, h => h.elim
  | none :: _, [], _, _, _, h => h.elim
  | some _ :: _, [], _, _, _, h => h.elim
theorem En.forget : ∀ {g : Ctx} {s : St} {H : Hp} {i : Nat}, En g s H → En (g.set i none) s H
  | [], [], _, _, _ => trivial
  | none :: g, _ :: s, _, 0, h => h
  | none :: g, _ :: s, _, i + 1, h => En.forget (g := g) (s := s) (i := i) h
  | some r :: g, w :: s, _, 0, h => h.2
  | some r :: g, w :: s, _, i + 1, h => ⟨h.1, En.forget (g := g) (s := s) (i := i) h.2⟩
  | [], _ :: _, _, _, h => h.elim
  | none :: _, [], _, _, h => h.elim
  | some _ :: _, [], _, _, h => h.elim
theorem En.len : ∀ {g : Ctx} {s : St} {H : Hp}, En g s H → s.length = g.length
  | [], [], _, _ => rfl
  | none :: g, _ :: s, _, h => by rw [List.length_cons, List.length_cons, En.len (g := g) (s := s) h]
  | some r :: g, w :: s, _, h => by rw [List.length_cons, List.length_cons, En.len (g := g) (s := s) h.2]
  | [], _ :: _, _, h => h.elim
  | none :: _, [], _, h => h.elim
  | some _ :: _, [], _, h => h.elim
def wipeG (g : Ctx) : List Nat → Ctx
  | [] => g
  | v :: vs => (wipeG g vs).set v none
theorem En.wipe {g : Ctx} {s : St} {H : Hp} (h : En g s H) : ∀ vs : List Nat, En (wipeG g vs) (L2.wipe s vs) H
  | [] => h
  | v :: vs => (En.wipe h vs).unset
theorem en_nones : ∀ (n : Nat) {H : Hp}, En (List.replicate n none) (List.replicate n none) H
  | 0, _ => trivial
  | n + 1, H => en_nones n (H := H)
theorem en_start : ∀ {rs : List Rp} {vs : List V} {H : Hp} (n : Nat), All rs vs H → En (rs.map some ++ List.replicate n none) (vs.map some ++ List.replicate n none) H
  | [], [], _, n, _ => en_nones n
  | r :: rs, v :: vs, _, n, h => ⟨⟨v, rfl, h.1⟩, en_start (rs := rs) (vs := vs) n h.2⟩
  | [], _ :: _, _, _, h => h.elim
  | _ :: _, [], _, _, h => h.elim
/-! ### judgements -/
def tX (Γ : Ctx) (R : Rp) : TE := fun σ H Q => ∃ G, Ex G H ∧ En Γ σ G ∧ ∀ v G' H', Gr G H G' H' → R.r v G' → Q v H'
def tXT (Γ : Ctx) (k : Bool) : TT := fun σ H Q => ∃ G, Ex G H ∧ En Γ σ G ∧ ∀ G' H', Gr G H G' H' → Q k H'
def tXA (Γ : Ctx) (rs : List Rp) : TA := fun σ H Q => ∃ G, Ex G H ∧ En Γ σ G ∧ ∀ vs G' H', Gr G H G' H' → All rs vs G' → Q vs H'
inductive Out where
  | ret (R : Rp) | nxt (Γ : Ctx)
def Out.on (D : Ends) (σ : St) (G H : Hp) : Out → Prop
  | .ret R => ∀ v G' H', Gr G H G' H' → R.r v G' → D.rt v H'
  | .nxt Γ => ∀ σ' G' H', Gr G H G' H' → En Γ σ' G' → D.nx σ' H'
def tXS (Γ : Ctx) (O : Out) : TS := fun D σ H => ∃ G, Ex G H ∧ En Γ σ G ∧ O.on D σ G H
abbrev XE (X : Cx) (e : Expr) (Γ : Ctx) (R : Rp) : Prop := PE X e (tX Γ R)
abbrev XT (X : Cx) (e : Expr) (Γ : Ctx) (k : Bool) : Prop := PT X e (tXT Γ k)
abbrev XW (X : Cx) (e : Expr) (Γ : Ctx) (k : Bool) : Prop := PW X e (tXT Γ k)
abbrev XA (X : Cx) (es : List Expr) (Γ : Ctx) (rs : List Rp) : Prop := PA X es (tXA Γ rs)
abbrev XS (X : Cx) (st : Stmt) (Γ : Ctx) (O : Out) : Prop := PS X st (tXS Γ O)
abbrev XSs (X : Cx) (st : List Stmt) (Γ : Ctx) (O : Out) : Prop := PSs X st (tXS Γ O)
section
variable {X : Cx} {Γ Γ' : Ctx}
theorem PE.of {e : Expr} {t t' : TE} (h : PE X e t) (w : ∀ σ H Q, t' σ H Q → t σ H Q) : PE X e t' := ⟨fun pins s σ H Q I q => h.run pins s σ H Q I (w σ H Q q)⟩
theorem PT.of {e : Expr} {t t' : TT} (h : PT X e t) (w : ∀ σ H Q, t' σ H Q → t σ H Q) : PT X e t' := ⟨fun pins s σ H Q I q => h.run pins s σ H Q I (w σ H Q q)⟩
theorem PW.of {e : Expr} {t t' : TT} (h : PW X e t) (w : ∀ σ H Q, t' σ H Q → t σ H Q) : PW X e t' := ⟨fun wh pins s σ H Q I q => h.run wh pins s σ H Q I (w σ H Q q)⟩
theorem PA.of {es : List Expr} {t t' : TA} (h : PA X es t) (w : ∀ σ H Q, t' σ H Q → t σ H Q) : PA X es t' := ⟨fun pos pins s σ H Q I q => h.run pos pins s σ H Q I (w σ H Q q)⟩
theorem PS.of {st : Stmt} {t t' : TS} (h : PS X st t) (w : ∀ D σ H, t' D σ H → t D σ H) : PS X st t' := ⟨fun pins s σ H D I q => h.run pins s σ H D I (w D σ H q)⟩
theorem PSs.of {st : List Stmt} {t t' : TS} (h : PSs X st t) (w : ∀ D σ H, t' D σ H → t D σ H) : PSs X st t' := ⟨fun pins s σ H D I q => h.run pins s σ H D I (w D σ H q)⟩
/-- an end told of a later point -/
theorem Out.later {D : Ends} {σ σ' : St} {G H G1 H1 : Hp} (g : Gr G H G1 H1) : ∀ {O : Out}, O.on D σ G H → O.on D σ' G1 H1
  | .ret _, h => fun v G' H' q r => h v G' H' (g.trans q) r
  | .nxt _, h => fun σ2 G' H' q r => h σ2 G' H' (g.trans q) r
/-! ### expressions -/
theorem x_var {i : Nat} {x : Str} {pos : Pos} {R : Rp} (hi : Γ[i]? = some (some R) := by rfl) (hN : X.N[i]? = some x := by rfl) (hv : Vis X.env.scope x := by first | exact Or.inl rfl | exact Or.inr (Or.inl rfl) | exact Or.inr (Or.inr rfl))
    (hd : (x == ("__debug__" : Str)) = false := by decide) (hcd : (x == ("__classdict__" : Str)) = false := by decide) : XE X (.Name x pos) Γ R :=
  PE.of (pe_var hN hv hd hcd) fun σ H Q ⟨G, e, en, q⟩ => by
    obtain ⟨v, h1, h2⟩ := en.get hi
    exact ⟨v, h1, q v G H (Gr.refl e) h2⟩
theorem x_const {e : Expr} {v : V} (h : PE X e (tC v)) : XE X e Γ (rV v) := PE.of h fun _ H _ ⟨G, e, _, q⟩ => q v G H (Gr.refl e) rfl
theorem x_int {i j pos} : XE X (.Constant (.int i) j pos) Γ (rZ i) := x_const pe_int
theorem x_non {j pos} : XE X (.Constant .none j pos) Γ (rV .non) := x_const pe_non
theorem x_imp {e : Expr} {R R' : Rp} (h : XE X e Γ R) (w : ∀ v G, R.r v G → R'.r v G) : XE X e Γ R' := PE.of h fun _ _ _ ⟨G, e, en, q⟩ => ⟨G, e, en, fun v G' H' g r => q v G' H' g (w v G' r)⟩
theorem x_eq {e : Expr} {R R' : Rp} (h : XE X e Γ R) (w : R = R') : XE X e Γ R' := w ▸ h
theorem x_globI {x : Str} {i : Int} {pos : Pos} (hm : ∃ t, X.mg x = some (.int i t)) (hg : Gl X x := by rfl) (hd : (x == ("__debug__" : Str)) = false := by decide) : XE X (.Name x pos) Γ (rZ i) := by
  obtain ⟨t, h⟩ := hm
  exact x_const (pe_glob hg h ⟨t, rfl⟩ hd)
theorem x_globR {x : Str} {a : Addr} {R : Rp} {pos : Pos} (hm : X.mg x = some (.ref a)) (hr : ∀ G, R.r (.ref a) G) (hg : Gl X x := by rfl) (hd : (x == ("__debug__" : Str)) = false := by decide) : XE X (.Name x pos) Γ R :=
  x_imp (x_const (pe_glob hg hm (v := .ref a) rfl hd)) fun v G e => by
    have e : v = .ref a := e
    rw [e]
    exact hr G
section
variable {a b : Expr} {Ra Rb R : Rp} {pos : Pos}
theorem x_op2 {op : Operator} {r : R2} (ho : OpR X (binaryOp op) r) (ha : XE X a Γ Ra) (hb : XE X b Γ Rb)
    (hr : ∀ v w G H Q, Ex G H → Ra.r v G → Rb.r w G → (∀ z G' H', Gr G H G' H' → R.r z G' → Q z H') → r v w H Q) : XE X (.BinOp a op b pos) Γ R :=
  PE.of (pe_op ho ha hb) fun _ _ Q ⟨G, e, en, q⟩ => ⟨G, e, en, fun _ G1 _ g1 r1 => ⟨G1, g1.sub, en.up g1.old, fun _ _ _ g2 r2 => hr _ _ _ _ Q g2.sub (Ra.up g2.old r1) r2 fun z G' H' g3 r3 => q z G' H' ((g1.trans g2).trans g3) r3⟩⟩
theorem x_cmp2 {op : CmpOp} {r : R2} (ho : OpR X (compareOp op) r) (ha : XE X a Γ Ra) (hb : XE X b Γ Rb)
    (hr : ∀ v w G H Q, Ex G H → Ra.r v G → Rb.r w G → (∀ z G' H', Gr G H G' H' → R.r z G' → Q z H') → r v w H Q) (hm : behindInMarks op b = false) : XE X (.Compare a [op] [b] pos) Γ R :=
  PE.of (pe_cmpR ho ha hb hm) fun _ _ Q ⟨G, e, en, q⟩ => ⟨G, e, en, fun _ G1 _ g1 r1 => ⟨G1, g1.sub, en.up g1.old, fun _ _ _ g2 r2 => hr _ _ _ _ Q g2.sub (Ra.up g2.old r1) r2 fun z G' H' g3 r3 => q z G' H' ((g1.trans g2).trans g3) r3⟩⟩
theorem t_cmp2 {op : CmpOp} {r : R2} {k : Bool} (ho : OpR X (compareOp op) r) (ha : XE X a Γ Ra) (hb : XE X b Γ Rb)
    (hr : ∀ v w G H Q, Ex G H → Ra.r v G → Rb.r w G → (∀ z G' H', Gr G H G' H' → (rB k).r z G' → Q z H') → r v w H Q) (hm : behindInMarks op b = false) : XT X (.Compare a [op] [b] pos) Γ k :=
  PT.of (pt_cmpR ho ha hb hm) fun _ _ Q ⟨G, e, en, q⟩ => ⟨G, e, en, fun _ G1 _ g1 r1 => ⟨G1, g1.sub, en.up g1.old, fun _ G2 H2 g2 r2 => hr _ _ G2 H2 (fun x H' => ∃ k, x = .bl k ∧ Q k H') g2.sub (Ra.up g2.old r1) r2 fun z G' H' g3 r3 => ⟨k, r3, q G' H' ((g1.trans g2).trans g3)⟩⟩⟩
theorem i0 {g : Int → Int → V} {i j : Int} {w : V} (e : g i j = w) : ∀ v u G H Q, Ex G H → (rZ i).r v G → (rZ j).r u G → (∀ z G' H', Gr G H G' H' → (rV w).r z G' → Q z H') → (L2.rI0 g) v u H Q :=
  fun v u G H Q x h1 h2 q => ⟨i, j, h1, h2, q _ G H (Gr.refl x) e⟩
theorem iC {C : Int → Int → Prop} {g : Int → Int → V} {i j : Int} {w : V} (hc : C i j) (e : g i j = w) : ∀ v u G H Q, Ex G H → (rZ i).r v G → (rZ j).r u G → (∀ z G' H', Gr G H G' H' → (rV w).r z G' → Q z H') → (L2.rI C g) v u H Q :=
  fun v u G H Q x h1 h2 q => ⟨i, j, h1, h2, hc, q _ G H (Gr.refl x) e⟩
theorem x_add {i j : Int} (ha : XE X a Γ (rZ i)) (hb : XE X b Γ (rZ j)) : XE X (.BinOp a .Add b pos) Γ (rZ (i + j)) := x_op2 op_add ha hb (i0 rfl)
theorem x_sub {i j : Int} (ha : XE X a Γ (rZ i)) (hb : XE X b Γ (rZ j)) : XE X (.BinOp a .Sub b pos) Γ (rZ (i - j)) := x_op2 op_sub ha hb (i0 rfl)
theorem op_mulB : OpR X (binaryOp .Mult) (L2.rI IntMulOk fun i j => .int (i * j)) := opI fun _ _ _ _ _ _ _ hc q => mul_int q hc
theorem x_mul {i j : Int} (ha : XE X a Γ (rZ i)) (hb : XE X b Γ (rZ j)) (hc : IntMulOk i j) : XE X (.BinOp a .Mult b pos) Γ (rZ (i * j)) := x_op2 op_mulB ha hb (iC hc rfl)
theorem x_modN {i j : Int} (ha : XE X a Γ (rZ i)) (hb : XE X b Γ (rZ j)) (hc : j ≠ 0) : XE X (.BinOp a .Mod b pos) Γ (rZ (i.fmod j)) := x_op2 op_modN ha hb (iC hc rfl)
theorem x_lt {i j : Int} (ha : XE X a Γ (rZ i)) (hb : XE X b Γ (rZ j)) : XE X (.Compare a [.Lt] [b] pos) Γ (rB (decide (i < j))) := x_cmp2 op_lt ha hb (i0 rfl) (nobehind _ (by decide) (by decide))
theorem x_gt {i j : Int} (ha : XE X a Γ (rZ i)) (hb : XE X b Γ (rZ j)) : XE X (.Compare a [.Gt] [b] pos) Γ (rB (decide (j < i))) := x_cmp2 op_gt ha hb (i0 rfl) (nobehind _ (by decide) (by decide))
theorem t_lt {i j : Int} (ha : XE X a Γ (rZ i)) (hb : XE X b Γ (rZ j)) : XT X (.Compare a [.Lt] [b] pos) Γ (decide (i < j)) := t_cmp2 op_lt ha hb (i0 rfl) (nobehind _ (by decide) (by decide))
theorem t_le {i j : Int} (ha : XE X a Γ (rZ i)) (hb : XE X b Γ (rZ j)) : XT X (.Compare a [.LtE] [b] pos) Γ (decide (i ≤ j)) := t_cmp2 op_le ha hb (i0 rfl) (nobehind _ (by decide) (by decide))
theorem t_gt {i j : Int} (ha : XE X a Γ (rZ i)) (hb : XE X b Γ (rZ j)) : XT X (.Compare a [.Gt] [b] pos) Γ (decide (j < i)) := t_cmp2 op_gt ha hb (i0 rfl) (nobehind _ (by decide) (by decide))
theorem eqv {i j : Int} {w : V} (e : V.bl (decide (i = j)) = w) : ∀ v u G H Q, Ex G H → (rZ i).r v G → (rZ j).r u G → (∀ z G' H', Gr G H G' H' → (rV w).r z G' → Q z H') → rEq v u H Q :=
  fun v u G H Q x h1 h2 q => by
    have h1 : v = .int i := h1
    have h2 : u = .int j := h2
    subst h1 h2
    refine ⟨rfl, q _ G H (Gr.refl x) ?_⟩
    show V.bl (decide (V.int i = V.int j)) = w
    rw [← e]
    congr 1
    by_cases z : i = j
    · rw [decide_eq_true z, decide_eq_true (by rw [z])]
    · rw [decide_eq_false z, decide_eq_false fun h => z (V.int.inj h)]
theorem nev {i j : Int} {w : V} (e : V.bl (!decide (i = j)) = w) : ∀ v u G H Q, Ex G H → (rZ i).r v G → (rZ j).r u G → (∀ z G' H', Gr G H G' H' → (rV w).r z G' → Q z H') → rNe v u H Q :=
  fun v u G H Q x h1 h2 q => by
    have h1 : v = .int i := h1
    have h2 : u = .int j := h2
    subst h1 h2
    refine ⟨rfl, q _ G H (Gr.refl x) ?_⟩
    show V.bl (!decide (V.int i = V.int j)) = w
    rw [← e]
    congr 2
    by_cases z : i = j
    · rw [decide_eq_true z, decide_eq_true (by rw [z])]
    · rw [decide_eq_false z, decide_eq_false fun h => z (V.int.inj h)]
theorem x_eqI {i j : Int} (ha : XE X a Γ (rZ i)) (hb : XE X b Γ (rZ j)) : XE X (.Compare a [.Eq] [b] pos) Γ (rB (decide (i = j))) := x_cmp2 op_eq ha hb (eqv rfl) (nobehind _ (by decide) (by decide))
theorem t_eqI {i j : Int} (ha : XE X a Γ (rZ i)) (hb : XE X b Γ (rZ j)) : XT X (.Compare a [.Eq] [b] pos) Γ (decide (i = j)) := t_cmp2 op_eq ha hb (eqv rfl) (nobehind _ (by decide) (by decide))
theorem t_neI {i j : Int} (ha : XE X a Γ (rZ i)) (hb : XE X b Γ (rZ j)) : XT X (.Compare a [.NotEq] [b] pos) Γ (!decide (i = j)) := t_cmp2 op_ne ha hb (nev rfl) (nobehind _ (by decide) (by decide))
theorem x_neg {i : Int} (ha : XE X a Γ (rZ i)) : XE X (.UnaryOp .USub a pos) Γ (rZ (-i)) :=
  PE.of (pe_un un_neg ha) fun _ _ _ ⟨G, e, en, q⟩ => ⟨G, e, en, fun _ G1 H1 g1 r1 => ⟨i, r1, q _ G1 H1 g1 rfl⟩⟩
end
end
end OQ
/-! typed walks, further: tests, lists, tuples, calls, comprehensions, statements -/
namespace OQ
open PySem PySem.Spec PyProof.Rows L2
open Lrx1 (Fraction)
section
variable {X : Cx} {Γ Γ' : Ctx} {a b c e : Expr} {es : List Expr} {pos : Pos} {R Ra Rb : Rp} {O : Out}
/-! ### tests -/
theorem t_val {k : Bool} (h : XE X e Γ (rB k)) (he : ∀ whole, isTrue e X.env whole = (do let v ← whole; standAt e.pos; holding [v] (truthy v)) := by intro _; rfl) : XT X e Γ k :=
  PT.of (pt_val h he) fun _ _ _ ⟨G, e, en, q⟩ => ⟨G, e, en, fun v G' H' g r => ⟨k, r, q G' H' g⟩⟩
theorem t_imp {k k' : Bool} (h : XT X e Γ k) (w : k = k') : XT X e Γ k' := w ▸ h
theorem t_not {k : Bool} (h : XT X e Γ k) : XT X (.UnaryOp .Not e pos) Γ (!k) := PT.of (pt_not h) fun _ _ _ h => h
theorem w_or1 {k : Bool} (h : XT X a Γ k) : XW X (.BoolOp .Or [a] pos) Γ k := pw_or1 h
theorem w_and1 {k : Bool} (h : XT X a Γ k) : XW X (.BoolOp .And [a] pos) Γ k := pw_and1 h
theorem w_or {k l : Bool} (ha : XT X a Γ k) (hb : k = false → XW X (.BoolOp .Or (b :: es) pos) Γ l) : XW X (.BoolOp .Or (a :: b :: es) pos) Γ (k || l) := by
  cases k with
  | true => exact PW.of (pw_or (tB' := fun _ _ _ => False) ha ⟨fun _ _ _ _ _ _ _ h => h.elim⟩) fun _ _ _ ⟨G, e, en, q⟩ => ⟨G, e, en, fun G' H' g => q G' H' g⟩
  | false => exact PW.of (pw_or ha (hb rfl)) fun _ _ _ ⟨G, e, en, q⟩ => ⟨G, e, en, fun G1 H1 g => ⟨G1, g.sub, en.up g.old, fun G' H' g' => q G' H' (g.trans g')⟩⟩
theorem w_and {k l : Bool} (ha : XT X a Γ k) (hb : k = true → XW X (.BoolOp .And (b :: es) pos) Γ l) : XW X (.BoolOp .And (a :: b :: es) pos) Γ (k && l) := by
  cases k with
  | false => exact PW.of (pw_and (tB' := fun _ _ _ => False) ha ⟨fun _ _ _ _ _ _ _ h => h.elim⟩) fun _ _ _ ⟨G, e, en, q⟩ => ⟨G, e, en, fun G' H' g => q G' H' g⟩
  | true => exact PW.of (pw_and ha (hb rfl)) fun _ _ _ ⟨G, e, en, q⟩ => ⟨G, e, en, fun G1 H1 g => ⟨G1, g.sub, en.up g.old, fun G' H' g' => q G' H' (g.trans g')⟩⟩
/-- .. as values -/
theorem x_one {op} (h : XE X a Γ R) : XE X (.BoolOp op [a] pos) Γ R := pe_one h
theorem x_or {k l : Bool} (ha : XE X a Γ (rB k)) (hb : k = false → XE X (.BoolOp .Or (b :: es) pos) Γ (rB l)) : XE X (.BoolOp .Or (a :: b :: es) pos) Γ (rB (k || l)) := by
  cases k with
  | true => exact PE.of (pe_or (tb := fun _ _ _ => False) ha ⟨fun _ _ _ _ _ _ h => h.elim⟩) fun _ _ _ ⟨G, e, en, q⟩ => ⟨G, e, en, fun v G' H' g r => ⟨true, r, q _ G' H' g rfl⟩⟩
  | false => exact PE.of (pe_or ha (hb rfl)) fun _ _ _ ⟨G, e, en, q⟩ => ⟨G, e, en, fun v G1 H1 g r => ⟨false, r, ⟨G1, g.sub, en.up g.old, fun v' G' H' g' r' => q v' G' H' (g.trans g') r'⟩⟩⟩
theorem x_and {k l : Bool} (ha : XE X a Γ (rB k)) (hb : k = true → XE X (.BoolOp .And (b :: es) pos) Γ (rB l)) : XE X (.BoolOp .And (a :: b :: es) pos) Γ (rB (k && l)) := by
  cases k with
  | false => exact PE.of (pe_and (tb := fun _ _ _ => False) ha ⟨fun _ _ _ _ _ _ h => h.elim⟩) fun _ _ _ ⟨G, e, en, q⟩ => ⟨G, e, en, fun v G' H' g r => ⟨false, r, q _ G' H' g rfl⟩⟩
  | true => exact PE.of (pe_and ha (hb rfl)) fun _ _ _ ⟨G, e, en, q⟩ => ⟨G, e, en, fun v G1 H1 g r => ⟨true, r, ⟨G1, g.sub, en.up g.old, fun v' G' H' g' r' => q v' G' H' (g.trans g') r'⟩⟩⟩
theorem x_ifExp {k : Bool} (hc : XT X c Γ k) (ha : k = true → XE X a Γ R) (hb : k = false → XE X b Γ R) : XE X (.IfExp c a b pos) Γ R := by
  cases k with
  | true => exact PE.of (pe_ifExp (tb := fun _ _ _ => False) hc (ha rfl) ⟨fun _ _ _ _ _ _ h => h.elim⟩) fun _ _ _ ⟨G, e, en, q⟩ => ⟨G, e, en, fun G1 H1 g => ⟨G1, g.sub, en.up g.old, fun v' G' H' g' r' => q v' G' H' (g.trans g') r'⟩⟩
  | false => exact PE.of (pe_ifExp (ta := fun _ _ _ => False) hc ⟨fun _ _ _ _ _ _ h => h.elim⟩ (hb rfl)) fun _ _ _ ⟨G, e, en, q⟩ => ⟨G, e, en, fun G1 H1 g => ⟨G1, g.sub, en.up g.old, fun v' G' H' g' r' => q v' G' H' (g.trans g') r'⟩⟩
/-- a < b < c -/
theorem t_chain {op op' : CmpOp} {i j l : Int} {p p' : Int → Int → Bool} (ho : OpR X (compareOp op) (L2.rI0 fun i j => .bl (p i j))) (ho' : OpR X (compareOp op') (L2.rI0 fun i j => .bl (p' i j))) 
    (ha : XE X a Γ (rZ i)) (hb : XE X b Γ (rZ j)) (hc : p i j = true → XE X c Γ (rZ l)) (hm : lastMarks [op, op'] [b, c] = false := by with_unfolding_all rfl) : XT X (.Compare a [op, op'] [b, c] pos) Γ (p i j && p' j l) := by
  cases q0 : p i j with
  | true =>
    refine PT.of (pt_chain ho ho' ha hb (hc q0) hm) fun _ _ Q ⟨G, e, en, q⟩ => ⟨G, e, en, fun v G1 H1 g1 r1 => ⟨G1, g1.sub, en.up g1.old, fun w G2 H2 g2 r2 => ⟨i, j, r1, r2, true, congrArg V.bl q0, ?_⟩⟩⟩
    exact ⟨G2, g2.sub, (en.up g1.old).up g2.old, fun u G3 H3 g3 r3 => ⟨j, l, r2, r3, _, rfl, q G3 H3 ((g1.trans g2).trans g3)⟩⟩
  | false =>
    refine PT.of (pt_chain (tc := fun _ _ _ => False) ho ho' ha hb ⟨fun _ _ _ _ _ _ h => h.elim⟩ hm) fun _ _ Q ⟨G, e, en, q⟩ => ⟨G, e, en, fun v G1 H1 g1 r1 => ⟨G1, g1.sub, en.up g1.old, fun w G2 H2 g2 r2 => ⟨i, j, r1, r2, false, congrArg V.bl q0, ?_⟩⟩⟩
    exact ⟨false, rfl, q G2 H2 (g1.trans g2)⟩
theorem x_chain {op op' : CmpOp} {i j l : Int} {p p' : Int → Int → Bool} (ho : OpR X (compareOp op) (L2.rI0 fun i j => .bl (p i j))) (ho' : OpR X (compareOp op') (L2.rI0 fun i j => .bl (p' i j))) 
    (ha : XE X a Γ (rZ i)) (hb : XE X b Γ (rZ j)) (hc : p i j = true → XE X c Γ (rZ l)) (hm : lastMarks [op, op'] [b, c] = false := by with_unfolding_all rfl) : XE X (.Compare a [op, op'] [b, c] pos) Γ (rB (p i j && p' j l)) := by
  cases q0 : p i j with
  | true =>
    refine PE.of (pe_chain ho ho' ha hb (hc q0) hm) fun _ _ Q ⟨G, e, en, q⟩ => ⟨G, e, en, fun v G1 H1 g1 r1 => ⟨G1, g1.sub, en.up g1.old, fun w G2 H2 g2 r2 => ⟨i, j, r1, r2, true, congrArg V.bl q0, ?_⟩⟩⟩
    exact ⟨G2, g2.sub, (en.up g1.old).up g2.old, fun u G3 H3 g3 r3 => ⟨j, l, r2, r3, q _ G3 H3 ((g1.trans g2).trans g3) rfl⟩⟩
  | false =>
    refine PE.of (pe_chain (tc := fun _ _ _ => False) ho ho' ha hb ⟨fun _ _ _ _ _ _ h => h.elim⟩ hm) fun _ _ Q ⟨G, e, en, q⟩ => ⟨G, e, en, fun v G1 H1 g1 r1 => ⟨G1, g1.sub, en.up g1.old, fun w G2 H2 g2 r2 => ⟨i, j, r1, r2, false, congrArg V.bl q0, ?_⟩⟩⟩
    exact q _ G2 H2 (g1.trans g2) rfl
/-! ### arguments, lists, tuples -/
theorem a_nil : XA X [] Γ [] := PA.of pa_nil fun _ H _ ⟨G, e, _, q⟩ => q [] G H (Gr.refl e) trivial
theorem a_cons {rs : List Rp} (ha : XE X e Γ R) (hr : XA X es Γ rs) (hs : starEach (e :: es) X.env = (false, eval e X.env) :: starEach es X.env := by rfl) : XA X (e :: es) Γ (R :: rs) :=
  PA.of (pa_cons ha hr hs) fun _ _ _ ⟨G, e, en, q⟩ => ⟨G, e, en, fun v G1 H1 g1 r1 => ⟨G1, g1.sub, en.up g1.old, fun vs G2 H2 g2 r2 => q (v :: vs) G2 H2 (g1.trans g2) ⟨R.up g2.old r1, r2⟩⟩⟩
theorem x_lst {rs : List Rp} (h : XA X es Γ rs) (hl : rs.length ≤ 1000 := by exact Nat.le_of_ble_eq_true rfl) : XE X (.List es pos) Γ (rL rs) :=
  PE.of (pe_lst h) fun _ _ _ ⟨G, e, en, q⟩ => ⟨G, e, en, fun vs G1 H1 g1 r1 => ⟨by rw [r1.len]; exact Nat.le_trans hl (by decide), fun p hp => by
    refine q (.ref p) (upd G1 p (.lst vs)) _ (g1.trans (Gr.make g1.sub hp)) ⟨p, vs, rfl, upd_same, r1.up (Ex.new (g1.sub.free hp))⟩⟩⟩
/-- two ints in a tuple: a fraction -/
theorem x_frac {i : Int} {d : Nat} {k} (ha : XE X a Γ (rZ i)) (hb : XE X b Γ (rZ (d : Int))) (hs : starEach [a, b] X.env = (false, eval a X.env) :: starEach [b] X.env := by rfl) (hs2 : starEach [b] X.env = (false, eval b X.env) :: starEach [] X.env := by rfl) :
    XE X (.Tuple [a, b] k pos) Γ (rF X.K ⟨i, d⟩) :=
  PE.of (pe_tup (a_cons ha (a_cons hb a_nil hs2) hs)) fun _ _ _ ⟨G, e, en, q⟩ => ⟨G, e, en, fun vs G1 H1 g1 r1 => ⟨by rw [r1.len]; show 2 ≤ sizeLine; decide, fun p hp => by
    match vs, r1 with
    | [v, w], ⟨h1, h2, _⟩ =>
      have h1 : v = .int i := h1
      have h2 : w = .int (d : Int) := h2
      subst h1 h2
      exact q (.ref p) (upd G1 p (.tup [.int i, .int (d : Int)])) _ (g1.trans (Gr.make g1.sub hp)) ⟨p, rfl, SqT.of upd_same⟩⟩⟩
/-- q[0], q[1] -/
theorem x_num {q : Fraction} {j p2} (ha : XE X a Γ (rF X.K q)) : XE X (.Subscript a (.Constant (.int 0) j p2) pos) Γ (rZ q.num) :=
  PE.of (pe_ix ix_tup ha (pe_int (i := 0)) (fun _ _ => rfl)) fun _ _ _ ⟨G, e, en, k⟩ => ⟨G, e, en, fun v G1 H1 g1 ⟨p, h1, h2⟩ => ⟨p, _, 0, .int q.num, h1, rfl, g1.sub.t h2, rfl, k _ G1 H1 g1 rfl⟩⟩
theorem x_den {q : Fraction} {j p2} (ha : XE X a Γ (rF X.K q)) : XE X (.Subscript a (.Constant (.int 1) j p2) pos) Γ (rZ (q.den : Int)) :=
  PE.of (pe_ix ix_tup ha (pe_int (i := 1)) (fun _ _ => rfl)) fun _ _ _ ⟨G, e, en, k⟩ => ⟨G, e, en, fun v G1 H1 g1 ⟨p, h1, h2⟩ => ⟨p, _, 1, .int (q.den : Int), h1, rfl, g1.sub.t h2, rfl, k _ G1 H1 g1 rfl⟩⟩
/-- xs[i] -/
theorem x_ix {rs : List Rp} {i : Nat} (ha : XE X a Γ (rL rs)) (hb : XE X b Γ (rZ (i : Int))) (hr : rs[i]? = some R) (hs : PlainIx b := by exact fun _ _ => rfl) : XE X (.Subscript a b pos) Γ R :=
  PE.of (pe_ix ix_list ha hb hs) fun _ _ _ ⟨G, e, en, k⟩ => ⟨G, e, en, fun v G1 H1 g1 r1 => ⟨G1, g1.sub, en.up g1.old, fun w G2 H2 g2 r2 => by
    obtain ⟨p, vs, h1, h2, h3⟩ := r1
    obtain ⟨u, h4, h5⟩ := h3.get hr
    exact ⟨p, vs, i, u, h1, r2, SqL.of (g2.sub _ _ (g2.old _ _ h2)), atI_nat h4, k u G2 H2 (g1.trans g2) (R.up g2.old h5)⟩⟩⟩
/-- xs[-1] -/
theorem x_last {rs : List Rp} {j p2 p3} (ha : XE X a Γ (rL rs)) (hn : 0 < rs.length) (hr : rs[rs.length - 1]? = some R) : XE X (.Subscript a (.UnaryOp .USub (.Constant (.int 1) j p2) p3) pos) Γ R :=
  PE.of (pe_ix ix_list ha (x_neg (Γ := Γ) x_int) (fun _ _ => rfl)) fun _ _ _ ⟨G, e, en, k⟩ => ⟨G, e, en, fun v G1 H1 g1 r1 => ⟨G1, g1.sub, en.up g1.old, fun w G2 H2 g2 r2 => by
    obtain ⟨p, vs, h1, h2, h3⟩ := r1
    obtain ⟨u, h4, h5⟩ := h3.get hr
    refine ⟨p, vs, -1, u, h1, r2, SqL.of (g2.sub _ _ (g2.old _ _ h2)), ?_, k u G2 H2 (g1.trans g2) (R.up g2.old h5)⟩
    have l := h3.len
    unfold atI ixN
    rw [if_neg (by decide), if_pos (by omega)]
    show vs[(-1 + (vs.length : Int)).toNat]? = some u
    rw [show (-1 + (vs.length : Int)).toNat = rs.length - 1 by omega]
    exact h4⟩⟩
/-- xs + ys -/
theorem x_cat {rs qs : List Rp} (ha : XE X a Γ (rL rs)) (hb : XE X b Γ (rL qs)) (hl : rs.length + qs.length ≤ 1000) : XE X (.BinOp a .Add b pos) Γ (rL (rs ++ qs)) :=
  x_op2 op_cat ha hb fun v w G H Q x ⟨p, vs, h1, h2, h3⟩ ⟨p2, ws, k1, k2, k3⟩ q =>
    ⟨p, p2, vs, ws, h1, k1, x _ _ h2, x _ _ k2, by rw [h3.len, k3.len]; exact Nat.le_trans hl (by decide), fun u hu => q (.ref u) (upd G u (.lst (vs ++ ws))) _ (Gr.make x hu) ⟨u, vs ++ ws, rfl, upd_same, (h3.app k3).up (Ex.new (x.free hu))⟩⟩
/-- [x] * n -/
theorem all_rep {v : V} {G : Hp} (h : R.r v G) : ∀ n : Nat, All (List.replicate n R) (List.replicate n v) G
  | 0 => trivial
  | n + 1 => ⟨h, all_rep h n⟩
theorem flat_rep {u : V} : ∀ n : Nat, (List.replicate n [u]).flatten = List.replicate n u
  | 0 => rfl
  | n + 1 => by
    rw [List.replicate_succ, List.flatten_cons, flat_rep n]
    rfl
theorem x_rep {n : Nat} (ha : XE X a Γ (rL [R])) (hb : XE X b Γ (rZ (n : Int))) (hl : n ≤ 1000) : XE X (.BinOp a .Mult b pos) Γ (rL (List.replicate n R)) :=
  x_op2 op_rep ha hb fun v w G H Q x ⟨p, vs, h1, h2, h3⟩ k1 q => by
    match vs, h3 with
    | [u], ⟨hu, _⟩ =>
      refine ⟨p, n, [u], h1, k1, x _ _ h2, by omega, by omega, ?_, fun y hy => ?_⟩
      · show 1 * ((n : Int)).toNat ≤ sizeLine
        rw [Int.toNat_natCast, Nat.one_mul]
        exact Nat.le_trans hl (by decide)
      · rw [Int.toNat_natCast, flat_rep]
        exact q (.ref y) (upd G y (.lst (List.replicate n u))) _ (Gr.make x hy) ⟨y, _, rfl, upd_same, all_rep (R.up (Ex.new (x.free hy)) hu) n⟩
end
end OQ
/-! typed walks: built-ins, promises, calls, the network's fields -/
namespace OQ
open PySem PySem.Spec PyProof.Rows L2
open Lrx1 (Fraction zero)
section
variable {X : Cx} {Γ Γ' : Ctx} {a b c e : Expr} {es : List Expr} {pos p : Pos} {R Ra Rb : Rp} {O : Out}
/-! ### equal fractions -/
theorem eqv_frac (u v : Fraction) : PyData.eqv (.tuple [.int u.num, .int (u.den : Int)]) (.tuple [.int v.num, .int (v.den : Int)]) = decide (u = v) := by
  have e : PyData.eqv (.tuple [.int u.num, .int (u.den : Int)]) (.tuple [.int v.num, .int (v.den : Int)]) = ((u.num == v.num) && (((u.den : Int) == (v.den : Int)) && true)) := by
    simp only [PyData.eqv, PyData.eqvAll]
  rw [e]
  obtain ⟨un, ud⟩ := u
  obtain ⟨vn, vd⟩ := v
  by_cases h : (⟨un, ud⟩ : Fraction) = ⟨vn, vd⟩
  · injection h with h1 h2
    subst h1 h2
    simp
  · rw [decide_eq_false h]
    simp only [Bool.and_true]
    by_cases h1 : un = vn
    · subst h1
      have h2 : ud ≠ vd := fun q => h (by rw [q])
      have h3 : ((ud : Int) == (vd : Int)) = false := beq_eq_false_iff_ne.mpr (by omega)
      rw [h3, Bool.and_false]
    · have h3 : (un == vn) = false := beq_eq_false_iff_ne.mpr h1
      rw [h3, Bool.false_and]
theorem shaped_frac (u : Fraction) : SeqAt.shaped (.tuple [.int u.num, .int (u.den : Int)]) = true := by rfl
theorem eqF {u v : Fraction} {K : PySem.W.Frag} {k : Bool} (hk : decide (u = v) = k) : ∀ x y G H Q, Ex G H → (rF K u).r x G → (rF K v).r y G → (∀ z G' H', Gr G H G' H' → (rB k).r z G' → Q z H') → rEqD K x y H Q := fun x y G H Q ex ⟨a1, h1, h2⟩ ⟨b1, k1, k2⟩ q => by
  subst h1 k1
  refine ⟨_, _, Dp.tup (ex.t h2) (.cons (.int _) (.cons (.int _) .nil)), Dp.tup (ex.t k2) (.cons (.int _) (.cons (.int _) .nil)), shaped_frac u, shaped_frac v, ?_⟩
  rw [eqv_frac]
  exact q _ G H (Gr.refl ex) (congrArg V.bl hk)
theorem t_eqF {u v : Fraction} {j : Nat} {A0 : Around} (hr : Room j A0) (ha : XE X a Γ (rF X.K u)) (hb : XE X b Γ (rF X.K v)) (hA : X.A = A0 := by rfl) : XT X (.Compare a [.Eq] [b] pos) Γ (decide (u = v)) :=
  t_cmp2 (op_eqD (hA ▸ hr).units) ha hb (eqF rfl) (nobehind _ (by decide) (by decide))
/-! ### None -/
theorem t_isN {x : V} {j p2} (ha : XE X a Γ (rV x)) : XT X (.Compare a [.Is] [.Constant .none j p2] pos) Γ (decide (x = .non)) :=
  t_cmp2 op_isN ha (x_non (Γ := Γ)) (fun v w G H Q ex h1 h2 q => ⟨h2, q _ G H (Gr.refl ex) (by have h1 : v = x := h1; rw [h1]; rfl)⟩) (nobehind _ (by decide) (by decide))
theorem t_isNP {k : Bool} {j p2} (ha : XE X a Γ R) (hr : ∀ v G, R.r v G → decide (v = V.non) = k) : XT X (.Compare a [.Is] [.Constant .none j p2] pos) Γ k :=
  t_cmp2 op_isN ha (x_non (Γ := Γ)) (fun v w G H Q ex h1 h2 q => ⟨h2, q _ G H (Gr.refl ex) (by rw [hr v G h1]; rfl)⟩) (nobehind _ (by decide) (by decide))
theorem x_notNP {k : Bool} {j p2} (ha : XE X a Γ R) (hr : ∀ v G, R.r v G → (!decide (v = V.non)) = k) : XE X (.Compare a [.IsNot] [.Constant .none j p2] pos) Γ (rB k) :=
  x_cmp2 op_notN ha (x_non (Γ := Γ)) (fun v w G H Q ex h1 h2 q => ⟨h2, q _ G H (Gr.refl ex) (by rw [hr v G h1]; rfl)⟩) (nobehind _ (by decide) (by decide))
/-! ### built-ins -/
theorem x_cb {id : String} {x : Str} {r : List V → Hp → VK → Prop} (hc : CallR X (.builtin id) r) (hm : X.mg x = none) (hv : bootBuiltins x = some (.builtin id)) (ha : XE X e Γ Ra)
    (hr : ∀ v G H Q, Ex G H → Ra.r v G → (∀ z G' H', Gr G H G' H' → R.r z G' → Q z H') → r [v] H Q) (hg : Gl X x := by rfl) (hn : x ≠ "__name__" := by decide) (hdb : (x == ("__debug__" : Str)) = false := by decide)
    (hs : starEach [e] X.env = (false, eval e X.env) :: starEach [] X.env := by rfl) (hpl : (backTo pos (starEach ([] : List Expr) X.env)).any (·.1) = false := by rfl) : XE X (.Call (.Name x p) [e] [] pos) Γ R :=
  PE.of (pe_callB hc hg hm hv (pa_cons ha pa_nil hs) hn hdb hs hpl) fun _ _ Q ⟨G, ex, en, q⟩ => ⟨G, ex, en, fun v G1 H1 g1 r1 => hr v G1 H1 Q g1.sub r1 fun z G' H' g r2 => q z G' H' (g1.trans g) r2⟩
theorem x_len {rs : List Rp} (hm : X.mg "len" = none) (ha : XE X e Γ (rL rs)) (hg : Gl X "len" := by rfl) (hs : starEach [e] X.env = (false, eval e X.env) :: starEach [] X.env := by rfl) : XE X (.Call (.Name "len" p) [e] [] pos) Γ (rZ (rs.length : Int)) :=
  x_cb call_len_seq hm PySem.boot_len ha (fun v G H Q ex ⟨l, vs, h1, h2, h3⟩ q => ⟨l, vs, by rw [h1], .inl (SqL.of (ex _ _ h2)), q _ G H (Gr.refl ex) (by rw [h3.len]; rfl)⟩) hg (hs := hs)
theorem x_sum {ns : List Int} (hm : X.mg "sum" = none) (ha : XE X e Γ (rLZ ns)) (hc : X.calm = true := by rfl) (hg : Gl X "sum" := by rfl) (hs : starEach [e] X.env = (false, eval e X.env) :: starEach [] X.env := by rfl) : XE X (.Call (.Name "sum" p) [e] [] pos) Γ (rZ ns.sum) :=
  x_cb (cr_sum hc) hm (by decide +kernel) ha (fun v G H Q ex ⟨l, vs, h1, h2, h3⟩ q => by
    have e := all_vals (f := V.int) h3
    subst e
    exact ⟨l, ns, by rw [h1], SqL.of (ex _ _ h2), q _ G H (Gr.refl ex) rfl⟩) hg (hs := hs)
theorem x_any {bs : List Bool} (hm : X.mg "any" = none) (ha : XE X e Γ (rLB bs)) (hc : X.calm = true := by rfl) (hg : Gl X "any" := by rfl) (hs : starEach [e] X.env = (false, eval e X.env) :: starEach [] X.env := by rfl) : XE X (.Call (.Name "any" p) [e] [] pos) Γ (rB (bs.any id)) :=
  x_cb (cr_any hc) hm (by decide +kernel) ha (fun v G H Q ex ⟨l, vs, h1, h2, h3⟩ q => by
    have e := all_vals (f := V.bl) h3
    subst e
    exact ⟨l, bs, by rw [h1], SqL.of (ex _ _ h2), q _ G H (Gr.refl ex) rfl⟩) hg (hs := hs)
theorem x_all {bs : List Bool} (hm : X.mg "all" = none) (ha : XE X e Γ (rLB bs)) (hc : X.calm = true := by rfl) (hg : Gl X "all" := by rfl) (hs : starEach [e] X.env = (false, eval e X.env) :: starEach [] X.env := by rfl) : XE X (.Call (.Name "all" p) [e] [] pos) Γ (rB (bs.all id)) :=
  x_cb (cr_all hc) hm (by decide +kernel) ha (fun v G H Q ex ⟨l, vs, h1, h2, h3⟩ q => by
    have e := all_vals (f := V.bl) h3
    subst e
    exact ⟨l, bs, by rw [h1], SqL.of (ex _ _ h2), q _ G H (Gr.refl ex) rfl⟩) hg (hs := hs)
theorem x_abs {i : Int} (hm : X.mg "abs" = none) (ha : XE X e Γ (rZ i)) (hg : Gl X "abs" := by rfl) (hs : starEach [e] X.env = (false, eval e X.env) :: starEach [] X.env := by rfl) : XE X (.Call (.Name "abs" p) [e] [] pos) Γ (rZ (i.natAbs : Int)) :=
  x_cb call_abs hm PyProof.Rows.boot_abs ha (fun v G H Q ex h q => by
    have h : v = .int i := h
    subst h
    refine ⟨i, rfl, q _ G H (Gr.refl ex) ?_⟩
    show V.int (if i < 0 then -i else i) = V.int (i.natAbs : Int)
    congr 1
    split <;> omega) hg (hs := hs)
theorem x_intB {k : Bool} (hm : X.mg "int" = none) (ha : XE X e Γ (rB k)) (hg : Gl X "int" := by rfl) (hs : starEach [e] X.env = (false, eval e X.env) :: starEach [] X.env := by rfl) (hpl : (backTo pos (starEach ([] : List Expr) X.env)).any (·.1) = false := by rfl) : XE X (.Call (.Name "int" p) [e] [] pos) Γ (rZ (if k then 1 else 0)) :=
  PE.of (pe_callTy call_int1 hg hm PyProof.Rows.boot_int (pa_cons ha pa_nil hs) (by decide) (by decide) hs hpl) fun _ _ Q ⟨G, ex, en, q⟩ => ⟨G, ex, en, fun v G1 H1 g1 r1 => .inr ⟨k, by have r1 : v = .bl k := r1; rw [r1], q _ G1 H1 g1 rfl⟩⟩
/-- x in xs, ints -/
theorem t_inI {i : Int} {ns : List Int} (ha : XE X a Γ (rZ i)) (hb : XE X b Γ (rLZ ns)) (hm : behindInMarks .In b = false := by rfl) : XT X (.Compare a [.In] [b] pos) Γ (ns.contains i) :=
  t_cmp2 op_in_seq ha hb (fun v w G H Q ex h1 ⟨l, vs, k1, k2, k3⟩ q => by
    have h1 : v = .int i := h1
    have e := all_vals (f := V.int) k3
    subst h1 e
    refine ⟨l, _, k1, .inl (SqL.of (ex _ _ k2)), rfl, ?_, q _ G H (Gr.refl ex) ?_⟩
    · rw [List.all_map]
      exact List.all_eq_true.mpr fun n _ => rfl
    · show V.bl (inV (V.int i) (ns.map V.int)) = V.bl (ns.contains i)
      congr 1
      unfold inV
      rw [List.any_map]
      have e2 : ((fun y => eqV y (V.int i)) ∘ V.int) = fun n => n == i := by
        funext n
        rfl
      rw [e2, List.contains_eq_any_beq]
      congr 1
      funext n
      rw [Bool.eq_iff_iff, beq_iff_eq, beq_iff_eq]
      exact eq_comm) hm
end
/-! ### promises -/
def spG {α : Type} (Rs : α → List Rp) (C : α → Prop) (R : α → Rp) : Sp := fun vs H Q _ => ∃ x G, Ex G H ∧ All (Rs x) vs G ∧ C x ∧ ∀ v G' H', Gr G H G' H' → (R x).r v G' → Q v H'
structure FnG (P : Program) (w : World) (K : PySem.W.Frag) (mg : Str → Option Value) (base : Heap) (x : Str) (k : Nat) {α : Type} (Rs : α → List Rp) (C : α → Prop) (R : α → Rp) : Prop where
  ex : ∃ f fd ps, FnOk P w K mg base CX0 k f fd ps (spG Rs C R) ∧ mg x = some (.ref f) ∧ PySem.W.keepIn K (.ref f) = true ∧ Binds K fd ps []
structure FnM (P : Program) (w : World) (K : PySem.W.Frag) (mg : Str → Option Value) (base : Heap) (C : Addr) (m : Str) (k : Nat) {α : Type} (Rs : α → List Rp) (Cn : α → Prop) (R : α → Rp) : Prop where
  ex : ∃ f fd ps, FnOk P w K mg base CX0 k f fd ps (spG Rs Cn R) ∧ Meth K C m f ∧ Binds K fd ps []
section
variable {X : Cx} {Γ : Ctx} {e o : Expr} {es : List Expr} {pos p apos : Pos} {α : Type} {Rs : α → List Rp} {C : α → Prop} {R : α → Rp} {x m : Str} {k j : Nat} {A0 : Around}
theorem x_call (F : FnG X.prog X.w X.K X.mg X.base x k Rs C R) (hr : Room j A0) (hk : k ≤ j) (x0 : α) {rs : List Rp} (ha : XA X (e :: es) Γ rs) (hrs : rs = Rs x0) (hc : C x0) (hA : X.A = A0 := by rfl) (hg : Gl X x := by rfl) (hdb : (x == ("__debug__" : Str)) = false := by decide)
    (he : starEach (e :: es) X.env = (false, eval e X.env) :: starEach es X.env := by rfl) (hpl : (backTo pos (starEach es X.env)).any (·.1) = false := by rfl) : XE X (.Call (.Name x p) (e :: es) [] pos) Γ (R x0) := by
  obtain ⟨f, fd, ps, F1, hm, kp, hb⟩ := F.ex
  subst hrs
  subst hA
  exact PE.of (pe_call F1 (hr.mono hk) hg hm kp hb .nil pass0 ha hdb he hpl) fun _ _ Q ⟨G, ex, en, q⟩ => ⟨G, ex, en, fun vs G1 H1 g1 r1 => by
    show spG Rs C R (vs ++ []) H1 Q E0
    rw [List.append_nil]
    exact ⟨x0, G1, g1.sub, r1, hc, fun v G' H' g r => q v G' H' (g1.trans g) r⟩⟩
/-! ### the network -/
structure Foot where
  dx : Addr
  k : Addr
  s : Addr
  m : Addr
  r : Addr
  l : Addr
  w : Addr
  rows : List Addr
def nF (net : Lrx4.Network) (F : Foot) : List (Str × V) := [("stations", .int (Lrx4.stationCount net : Int)), ("groups", .int (net.classCount : Int)), ("kinds", .ref F.k), ("servers", .ref F.s), ("services", .ref F.m), ("arrivals", .ref F.r), ("leaving", .ref F.l), ("weights", .ref F.w)]
def zl (l : List Nat) : List V := l.map fun (n : Nat) => V.int (n : Int)
structure NetAt (C : Addr) (H : Hp) (a : Addr) (net : Lrx4.Network) (F : Foot) : Prop where
  obj : H a = some (.ins C F.dx (nF net F))
  k : H F.k = some (.lst (zl (net.stations.map (·.kind))))
  s : H F.s = some (.lst (zl (net.stations.map (·.servers))))
  m : H F.m = some (.lst (zl net.services))
  r : H F.r = some (.lst (zl net.arrivals))
  l : H F.l = some (.lst (zl net.leaving))
  w : H F.w = some (.lst (F.rows.map V.ref))
  rl : F.rows.length = net.routes.length
  rw : ∀ i q, F.rows[i]? = some q → H q = some (.lst (zl (net.routes.getD i [])))
  nd : ([F.k, F.s, F.m, F.r, F.l, F.w] ++ F.rows).Nodup
theorem NetAt.up {C : Addr} {H H' : Hp} {a : Addr} {net : Lrx4.Network} {F : Foot} (e : Ex H H') (h : NetAt C H a net F) : NetAt C H' a net F :=
  ⟨e _ _ h.obj, e _ _ h.k, e _ _ h.s, e _ _ h.m, e _ _ h.r, e _ _ h.l, e _ _ h.w, h.rl, fun i q z => e _ _ (h.rw i q z), h.nd⟩
def rNet (C : Addr) (net : Lrx4.Network) : Rp := ⟨fun v H => ∃ a F, v = .ref a ∧ NetAt C H a net F, fun e ⟨a, F, h1, h2⟩ => ⟨a, F, h1, h2.up e⟩⟩
abbrev rLN (l : List Nat) : Rp := rL (l.map fun (n : Nat) => rV (.int (n : Int)))
theorem zl_all (l : List Nat) (H : Hp) : All (l.map fun (n : Nat) => rV (.int (n : Int))) (zl l) H := vals_all (f := fun (n : Nat) => V.int (n : Int))
theorem zl_of {l : List Nat} {vs : List V} {H : Hp} (h : All (l.map fun (n : Nat) => rV (.int (n : Int))) vs H) : vs = zl l := all_vals (f := fun (n : Nat) => V.int (n : Int)) h
theorem lk_here {k : Str} {v : V} {r : List (Str × V)} : List.lookup k ((k, v) :: r) = some v := by
  have e : (k == k) = true := beq_self_eq_true k
  simp only [List.lookup, e]
theorem lk_past {k g : Str} {v : V} {r : List (Str × V)} (h : (k == g) = false) : List.lookup k ((g, v) :: r) = List.lookup k r := by
  simp only [List.lookup, h]
section
variable (net : Lrx4.Network) (F : Foot)
theorem lk_stations : (nF net F).lookup ("stations" : Str) = some (.int (Lrx4.stationCount net : Int)) := lk_here
theorem lk_groups : (nF net F).lookup ("groups" : Str) = some (.int (net.classCount : Int)) := (lk_past (by decide +kernel)).trans lk_here
theorem lk_kinds : (nF net F).lookup ("kinds" : Str) = some (.ref F.k) := (lk_past (by decide +kernel)).trans ((lk_past (by decide +kernel)).trans lk_here)
theorem lk_servers : (nF net F).lookup ("servers" : Str) = some (.ref F.s) := (lk_past (by decide +kernel)).trans ((lk_past (by decide +kernel)).trans ((lk_past (by decide +kernel)).trans lk_here))
theorem lk_services : (nF net F).lookup ("services" : Str) = some (.ref F.m) := (lk_past (by decide +kernel)).trans ((lk_past (by decide +kernel)).trans ((lk_past (by decide +kernel)).trans ((lk_past (by decide +kernel)).trans lk_here)))
theorem lk_arrivals : (nF net F).lookup ("arrivals" : Str) = some (.ref F.r) := (lk_past (by decide +kernel)).trans ((lk_past (by decide +kernel)).trans ((lk_past (by decide +kernel)).trans ((lk_past (by decide +kernel)).trans ((lk_past (by decide +kernel)).trans lk_here))))
theorem lk_leaving : (nF net F).lookup ("leaving" : Str) = some (.ref F.l) := (lk_past (by decide +kernel)).trans ((lk_past (by decide +kernel)).trans ((lk_past (by decide +kernel)).trans ((lk_past (by decide +kernel)).trans ((lk_past (by decide +kernel)).trans ((lk_past (by decide +kernel)).trans lk_here)))))
theorem lk_weights : (nF net F).lookup ("weights" : Str) = some (.ref F.w) := (lk_past (by decide +kernel)).trans ((lk_past (by decide +kernel)).trans ((lk_past (by decide +kernel)).trans ((lk_past (by decide +kernel)).trans ((lk_past (by decide +kernel)).trans ((lk_past (by decide +kernel)).trans ((lk_past (by decide +kernel)).trans lk_here))))))
theorem lk_none {x : Str} (h : (["stations", "groups", "kinds", "servers", "services", "arrivals", "leaving", "weights"] : List Str).all (fun g => !(x == g)) = true) : (nF net F).lookup x = none := by
  simp only [List.all_cons, List.all_nil, Bool.and_true, Bool.and_eq_true, Bool.not_eq_true'] at h
  obtain ⟨h1, h2, h3, h4, h5, h6, h7, h8⟩ := h
  exact (lk_past h1).trans ((lk_past h2).trans ((lk_past h3).trans ((lk_past h4).trans ((lk_past h5).trans ((lk_past h6).trans ((lk_past h7).trans ((lk_past h8).trans rfl)))))))
end
variable {CC : Addr} {net : Lrx4.Network} {Rf : Rp} {f : Str}
theorem x_fldG (c : Cls X.K CC) (hn : NoAttr X.K CC f) (h : XE X e Γ (rNet CC net)) (hR : ∀ a F G, NetAt CC G a net F → ∃ v, (nF net F).lookup f = some v ∧ Rf.r v G) (hb : attributeBase e f X.env (eval e X.env) = eval e X.env := by rfl) : XE X (.Attribute e f pos) Γ Rf :=
  PE.of (pe_fld h hb) fun _ _ _ ⟨G, ex, en, q⟩ => ⟨G, ex, en, fun v G1 H1 g1 ⟨a, F, h1, h2⟩ => by
    obtain ⟨u, h3, h4⟩ := hR a F G1 h2
    exact ⟨a, CC, F.dx, _, u, h1, g1.sub _ _ h2.obj, c, hn, h3, q u G1 H1 g1 h4⟩⟩
/-- a method's call -/
theorem x_meth {pl : Sem Bool} {Cn : α → Prop} (F : FnM X.prog X.w X.K X.mg X.base CC m k Rs Cn R) (c : Cls X.K CC) (hr : Room j A0) (hk : k ≤ j) (ho : XE X o Γ (rNet CC net)) (x0 : α) {rs : List Rp} (ha : XA X (e :: es) Γ rs) (hrs : rNet CC net :: rs = Rs x0) (hc : Cn x0) (hA : X.A = A0 := by rfl)
    (hl : (["stations", "groups", "kinds", "servers", "services", "arrivals", "leaving", "weights"] : List Str).all (fun g => !(m == g)) = true := by decide +kernel)
    (hst : starEach (e :: es) X.env = (false, eval e X.env) :: starEach es X.env := by rfl) (hpl : (backTo pos (starEach es X.env)).any (·.1) = false := by rfl)
    (ht : eval (.Call (.Attribute o m apos) (e :: es) [] pos) X.env = (do
      let ov ← eval o X.env
      standAt apos.atName
      let (f, first) ← holding [ov] (getMethod ov m pl)
      callWith pos f first (backTo pos (starEach (e :: es) X.env)) (backToKw pos (keywordEach [] X.env))) := by rfl) : XE X (.Call (.Attribute o m apos) (e :: es) [] pos) Γ (R x0) := by
  obtain ⟨f, fd, ps, F1, hm, hb⟩ := F.ex
  subst hA
  refine PE.of (pe_meth (pl := pl) ho c hm F1 (hr.mono hk) hb .nil pass0 ha hst hpl ht) fun _ _ Q ⟨G, ex, en, q⟩ => ⟨G, ex, en, fun v G1 H1 g1 r1 => ?_⟩
  have r1' := r1
  obtain ⟨a, Ft, h1, h2⟩ := r1
  refine ⟨a, Ft.dx, _, h1, g1.sub _ _ h2.obj, lk_none net Ft hl, G1, g1.sub, en.up g1.old, fun vs G2 H2 g2 r2 => ?_⟩
  show spG Rs Cn R (v :: (vs ++ [])) H2 Q E0
  rw [List.append_nil]
  refine ⟨x0, G2, g2.sub, ?_, hc, fun v G' H' g r => q v G' H' ((g1.trans g2).trans g) r⟩
  rw [← hrs]
  exact ⟨(rNet CC net).up g2.old r1', r2⟩
theorem x_meth0 {pl : Sem Bool} {Cn : α → Prop} (F : FnM X.prog X.w X.K X.mg X.base CC m k Rs Cn R) (c : Cls X.K CC) (hr : Room j A0) (hk : k ≤ j) (ho : XE X o Γ (rNet CC net)) (x0 : α) (hrs : [rNet CC net] = Rs x0) (hc : Cn x0) (hA : X.A = A0 := by rfl)
    (hl : (["stations", "groups", "kinds", "servers", "services", "arrivals", "leaving", "weights"] : List Str).all (fun g => !(m == g)) = true := by decide +kernel)
    (ht : eval (.Call (.Attribute o m apos) [] [] pos) X.env = (do
      let ov ← eval o X.env
      standAt apos.atName
      let (f, first) ← holding [ov] (getMethod ov m pl)
      callWith pos f first (backTo pos (starEach [] X.env)) (backToKw pos (keywordEach [] X.env))) := by rfl) : XE X (.Call (.Attribute o m apos) [] [] pos) Γ (R x0) := by
  obtain ⟨f, fd, ps, F1, hm, hb⟩ := F.ex
  subst hA
  refine PE.of (pe_meth0 (pl := pl) ho c hm F1 (hr.mono hk) hb .nil pass0 ht) fun _ _ Q ⟨G, ex, en, q⟩ => ⟨G, ex, en, fun v G1 H1 g1 r1 => ?_⟩
  have r1' := r1
  obtain ⟨a, Ft, h1, h2⟩ := r1
  refine ⟨a, Ft.dx, _, h1, g1.sub _ _ h2.obj, lk_none net Ft hl, ?_⟩
  refine ⟨x0, G1, g1.sub, ?_, hc, fun v G' H' g r => q v G' H' (g1.trans g) r⟩
  rw [← hrs]
  exact ⟨r1', trivial⟩
end
end OQ
/-! typed walks: what a loop walks, comprehensions, statements, defs -/
namespace OQ
open PySem PySem.Spec PyProof.Rows L2
open Lrx1 (Fraction zero)
/-- at each turn an item, told by B; its own tuples are none of what is spoken of -/
inductive Itm where
  | one (B : Rp) | two (B1 B2 : Rp)
def Itm.r (G : Hp) : Itm → Hp → V → Hp → Prop
  | .one B, H, x, H' => H' = H ∧ B.r x G
  | .two B1 B2, H, x, H' => ∃ T y z, x = .ref T ∧ H T = none ∧ H' = upd H T (.tup [y, z]) ∧ B1.r y G ∧ B2.r z G
/-- what is walked, from slots: n turns, the i-th item -/
def tXI (Γ : Ctx) (n : Nat) (B : Nat → Itm) : TI := fun σ H R => ∃ G, Ex G H ∧ En Γ σ G ∧ ∀ J G' H', Gr G H G' H' → Walk J n (fun Hc => Ex G' Hc) (fun i Hc x Hc' => (B i).r G' Hc x Hc') → R J H'
abbrev XI (X : Cx) (tg iter : Expr) (Γ : Ctx) (n : Nat) (B : Nat → Itm) : Prop := PI X tg iter (tXI Γ n B)
theorem PI.of {X : Cx} {tg iter : Expr} {t t' : TI} (h : PI X tg iter t) (w : ∀ σ H R, t' σ H R → t σ H R) : PI X tg iter t' := ⟨fun pins s σ H R I q => h.run pins s σ H R I (w σ H R q)⟩
section
variable {X : Cx} {Γ : Ctx} {e e2 a b : Expr} {pos p : Pos} {tg : Expr}
theorem i_range1 {n : Nat} (hm : X.mg "range" = none) (ha : XE X a Γ (rZ (n : Int))) (hn : n ≤ 1000000 := by omega) (hg : Gl X "range" := by rfl) (hs : starEach [a] X.env = [(false, eval a X.env)] := by rfl) :
    XI X tg (.Call (.Name "range" p) [a] [] pos) Γ n (fun i => .one (rZ (i : Int))) :=
  PI.of (pi_range1 hg hm (a_cons ha a_nil hs) hs) fun _ _ R ⟨G, ex, en, q⟩ => ⟨G, ex, en, fun vs G1 H1 g1 r1 => by
    match vs, r1 with
    | [v], ⟨h1, _⟩ =>
      have h1 : v = .int (n : Int) := h1
      subst h1
      refine ⟨(n : Int), rfl, by omega, by omega, q _ G1 H1 g1 ?_⟩
      rw [Int.toNat_natCast]
      exact walk_range.mono (fun _ _ => trivial) fun i Hc x Hc' _ _ y => ⟨y.1, by rw [y.2]; show V.int (0 + (i : Int)) = V.int (i : Int); rw [Int.zero_add]⟩⟩
theorem i_range2 {lo : Nat} {n : Nat} (hm : X.mg "range" = none) (ha : XE X a Γ (rZ (lo : Int))) (hb : XE X b Γ (rZ ((lo + n : Nat) : Int))) (hn : lo + n ≤ 1000000 := by omega) (hg : Gl X "range" := by rfl) (hs : starEach [a, b] X.env = [(false, eval a X.env), (false, eval b X.env)] := by rfl)
    (hs2 : starEach [b] X.env = [(false, eval b X.env)] := by rfl) :
    XI X tg (.Call (.Name "range" p) [a, b] [] pos) Γ n (fun i => .one (rZ ((lo + i : Nat) : Int))) :=
  PI.of (pi_range2 hg hm (a_cons ha (a_cons hb a_nil hs2) (hs.trans (congrArg _ hs2.symm))) hs hs2) fun _ _ R ⟨G, ex, en, q⟩ => ⟨G, ex, en, fun vs G1 H1 g1 r1 => by
    match vs, r1 with
    | [v, w], ⟨h1, h2, _⟩ =>
      have h1 : v = .int (lo : Int) := h1
      have h2 : w = .int ((lo + n : Nat) : Int) := h2
      subst h1 h2
      refine ⟨(lo : Int), ((lo + n : Nat) : Int), rfl, by omega, q _ G1 H1 g1 ?_⟩
      rw [show (((lo + n : Nat) : Int) - (lo : Int)).toNat = n by omega]
      exact walk_range.mono (fun _ _ => trivial) fun i Hc x Hc' _ _ y => ⟨y.1, by rw [y.2]; show V.int ((lo : Int) + (i : Int)) = V.int ((lo + i : Nat) : Int); congr 1⟩⟩
theorem getElem?_lt {α : Type} {l : List α} {i : Nat} (h : i < l.length) : l[i]? = some l[i] := List.getElem?_eq_getElem h
def rAny : Rp := ⟨fun _ _ => True, fun _ h => h⟩
theorem all_at {rs : List Rp} {vs : List V} {G : Hp} {i : Nat} {x : V} (h : All rs vs G) (e : vs[i]? = some x) : (rs.getD i rAny).r x G := by
  have hi : i < vs.length := (List.getElem?_eq_some_iff.mp e).1
  have hr : rs[i]? = some (rs.getD i rAny) := by
    rw [h.len] at hi
    rw [List.getD_eq_getElem?_getD, List.getElem?_eq_getElem hi]
    rfl
  obtain ⟨v, h1, h2⟩ := h.get hr
  rw [e] at h1
  rw [Option.some.inj h1]
  exact h2
theorem i_list {rs : List Rp} (ha : XE X a Γ (rL rs)) : XI X tg a Γ rs.length (fun i => .one (rs.getD i rAny)) :=
  PI.of (pi_list ha) fun _ _ R ⟨G, ex, en, q⟩ => ⟨G, ex, en, fun v G1 H1 g1 ⟨l, vs, h1, h2, h3⟩ => ⟨l, h1, ⟨vs, SqL.of (g1.sub _ _ h2)⟩, q _ G1 H1 g1 (by
    rw [← h3.len]
    exact walk_list.mono (fun Hc ec => SqL.of (ec _ _ h2)) fun i Hc x Hc' _ _ y => ⟨y.1, all_at h3 y.2⟩)⟩⟩
theorem i_zip {rs qs : List Rp} {elts : List Expr} {kk : Nat} {tpos : Pos} (hm : X.mg "zip" = none) (ha : XE X e Γ (rL rs)) (hb : XE X e2 Γ (rL qs)) (hl : rs.length = qs.length) (hg : Gl X "zip" := by rfl)
    (hs : starEach [e, e2] X.env = (false, eval e X.env) :: starEach [e2] X.env := by rfl) (hs2 : starEach [e2] X.env = (false, eval e2 X.env) :: starEach [] X.env := by rfl) (hpl : (backTo pos (starEach [e2] X.env)).any (·.1) = false := by rfl) :
    XI X (.Tuple elts kk tpos) (.Call (.Name "zip" p) [e, e2] [] pos) Γ rs.length (fun i => .two (rs.getD i rAny) (qs.getD i rAny)) :=
  PI.of (pi_zip hg hm (a_cons ha (a_cons hb a_nil hs2) hs) hs hpl) fun _ _ R ⟨G, ex, en, q⟩ => ⟨G, ex, en, fun vs G1 H1 g1 r1 => by
    match vs, r1 with
    | [v, w], ⟨⟨l, us, h1, h2, h3⟩, ⟨l2, ws, k1, k2, k3⟩, _⟩ =>
      subst h1 k1
      refine ⟨l, l2, us, ws, rfl, SqL.of (g1.sub _ _ h2), SqL.of (g1.sub _ _ k2), q _ G1 H1 g1 ?_⟩
      refine (walk_zip (xs := us) (ys := ws) (by rw [h3.len, k3.len, ← hl, Nat.min_self])).mono (fun Hc ec => ⟨SqL.of (ec _ _ h2), SqL.of (ec _ _ k2)⟩) fun i Hc x Hc' _ _ y => ?_
      obtain ⟨T, y1, y2, z1, z2, z3, z4, z5⟩ := y
      exact ⟨T, y1, y2, z1, z2, z3, all_at h3 z4, all_at k3 z5⟩⟩
theorem i_enum {rs : List Rp} {elts : List Expr} {kk : Nat} {tpos : Pos} (hm : X.mg "enumerate" = none) (ha : XE X e Γ (rL rs)) (hg : Gl X "enumerate" := by rfl) (hs : starEach [e] X.env = [(false, eval e X.env)] := by rfl) :
    XI X (.Tuple elts kk tpos) (.Call (.Name "enumerate" p) [e] [] pos) Γ rs.length (fun i => .two (rZ (i : Int)) (rs.getD i rAny)) :=
  PI.of (pi_enum hg hm (a_cons ha a_nil hs) hs) fun _ _ R ⟨G, ex, en, q⟩ => ⟨G, ex, en, fun vs G1 H1 g1 r1 => by
    match vs, r1 with
    | [v], ⟨⟨l, us, h1, h2, h3⟩, _⟩ =>
      subst h1
      refine ⟨l, us, rfl, SqL.of (g1.sub _ _ h2), q _ G1 H1 g1 ?_⟩
      rw [← h3.len]
      refine walk_enum.mono (fun Hc ec => SqL.of (ec _ _ h2)) fun i Hc x Hc' _ _ y => ?_
      obtain ⟨T, y1, y2, z1, z2, z3, z4, z5⟩ := y
      exact ⟨T, y1, y2, z1, z2, z3, (Option.some.inj z4).symm, all_at h3 z5⟩⟩
/-! ### targets -/
/-- the slots behind the target's store -/
def Itm.into : Itm → List Nat → Ctx → Option Ctx
  | .one B, [i], Γ => some (Γ.set i (some B))
  | .two B1 B2, [i, j], Γ => some ((Γ.set i (some B1)).set j (some B2))
  | _, _, _ => none
def Itm.put : Itm → List Nat → Ctx → Ctx
  | .one B, [i], Γ => Γ.set i (some B)
  | .two B1 B2, [i, j], Γ => (Γ.set i (some B1)).set j (some B2)
  | _, _, Γ => Γ
def Itm.fits : Itm → List Nat → Bool
  | .one _, [_] => true
  | .two _ _, [_, _] => true
  | _, _ => false
theorem into_put {I : Itm} {is : List Nat} {Γ : Ctx} (h : I.fits is = true) : I.into is Γ = some (I.put is Γ) := by
  cases I with
  | one B =>
    match is, h with
    | [_], _ => rfl
  | two B1 B2 =>
    match is, h with
    | [_, _], _ => rfl
/-- a target's word, by its slots -/
inductive TgSh (K : PySem.W.Frag) : List Nat → TG → Prop where
  | one {i : Nat} : TgSh K [i] (gName i)
  | two {i j : Nat} : TgSh K [i, j] (gTup K 2 (gCons (gName i) (gCons (gName j) gNil)))
theorem g_one {x : Str} {i : Nat} (hN : X.N.Nodup) (hi : X.N[i]? = some x := by rfl) (hx : Loc X.env.scope x := by exact Or.inl rfl) (hf : X.fn x = true ∨ X.env.scope.names.lookup x = some .local := by first | exact .inl rfl | exact .inr rfl) : PG X (.Name x p) (gName i) :=
  pg_name hN hi hx hf
theorem g_two {x y : Str} {i j k : Nat} {p1 p2 : Pos} (hN : X.N.Nodup) (hi : X.N[i]? = some x := by rfl) (hj : X.N[j]? = some y := by rfl) (hx : Loc X.env.scope x := by exact Or.inl rfl) (hy : Loc X.env.scope y := by exact Or.inl rfl)
    (hf : X.fn x = true ∨ X.env.scope.names.lookup x = some .local := by first | exact .inl rfl | exact .inr rfl) (hf2 : X.fn y = true ∨ X.env.scope.names.lookup y = some .local := by first | exact .inl rfl | exact .inr rfl)
    (hc : X.calm = true := by rfl) (h1 : (assignEach [.Name x p1, .Name y p2] X.env).map (·.2) = assign (.Name x p1) X.env :: (assignEach [.Name y p2] X.env).map (·.2) := by rfl) (h2 : (assignEach [.Name y p2] X.env).map (·.2) = assign (.Name y p2) X.env :: (assignEach [] X.env).map (·.2) := by rfl)
    (hn : (assignEach [.Name x p1, .Name y p2] X.env).length = 2 := by rfl) (hst : (assignEach [.Name x p1, .Name y p2] X.env).findIdx? (·.1) = none := by rfl) : PG X (.Tuple [.Name x p1, .Name y p2] k p) (gTup X.K 2 (gCons (gName i) (gCons (gName j) gNil))) :=
  pg_tup hc (pgs_cons (pg_name hN hi hx hf) (pgs_cons (pg_name hN hj hy hf2) pgs_nil h2) h1) hn hst
/-- the store of an item -/
theorem TgSh.store {K : PySem.W.Frag} {is : List Nat} {g : TG} (h : TgSh K is g) {I : Itm} {Γ Γ1 : Ctx} (hi : I.into is Γ = some Γ1) {G H H' : Hp} {x : V} {σ : St} {Q : St → Hp → Prop} (hr : I.r G H x H') (ex : Ex G H) (en : En Γ σ G)
    (q : ∀ σ', En Γ1 σ' G → (∀ σ0, σ = L2.wipe σ0 is → L2.wipe σ' is = L2.wipe σ0 is) → Ex H H' → Q σ' H') : g x σ H' Q := by
  cases h with
  | one =>
    cases I with
    | one B =>
      have e := Option.some.inj hi
      subst e
      obtain ⟨h1, h2⟩ := hr
      subst h1
      refine q _ (en.set h2) (fun σ0 e => ?_) (Ex.refl _)
      subst e
      show List.set (List.set (List.set σ0 _ none) _ _) _ none = List.set σ0 _ none
      rw [List.set_set, List.set_set]
    | two B1 B2 => cases hi
  | @two i j =>
    cases I with
    | one B => cases hi
    | two B1 B2 =>
      have e := Option.some.inj hi
      subst e
      obtain ⟨T, y, z, h1, h2, h3, h4, h5⟩ := hr
      subst h1 h3
      refine ⟨T, [y, z], rfl, SqT.of upd_same, rfl, y, [z], rfl, z, [], rfl, rfl, ?_⟩
      refine q _ ((en.set h4).set h5) (fun σ0 e => ?_) (Ex.new h2)
      subst e
      show List.set (List.set (List.set (List.set (List.set (List.set σ0 j none) i none) i (some y)) j (some z)) j none) i none = List.set (List.set σ0 j none) i none
      rw [List.set_set, List.set_set]
      by_cases c : i = j
      · subst c
        rw [List.set_set, List.set_set]
      · rw [List.set_comm (some y) none c, List.set_set, List.set_set]
end
/-! ### comprehensions -/
/-- the reading of a comprehension -/
theorem lc_read {K : PySem.W.Frag} {Γ : Ctx} {own : List (Str × Nat)} {n : Nat} {B : Nat → Itm} {is : List Nat} {g : TG} {Γi : Nat → Ctx} (xs : Nat → Rp) (hsh : TgSh K is g) (hΓ : ∀ i, i < n → (B i).into is (wipeG Γ is) = some (Γi i)) (hn : n ≤ 1000) (hio : is = own.map (·.2))
    {σ : St} {H : Hp} {Q : VK} (h : tX Γ (rL ((List.range n).map xs)) σ H Q) : tLc (tXI Γ n B) g tYes (fun σ H Q => ∃ i, i < n ∧ tX (Γi i) (xs i) σ H Q) (own.map (·.2)) σ H Q := by
    obtain ⟨G, ex, en, q⟩ := h
    refine ⟨G, ex, en, fun J G1 H1 g1 wk D hD => ?_⟩
    -- the new list at D is none of what is spoken of
    refine lc_it (g := g) (tt := tYes) (te := fun σ H Q => ∃ i, i < n ∧ tX (Γi i) (xs i) σ H Q) (vs := own.map (·.2)) (σ := σ) (Qd := fun Hc => Q (.ref D) Hc) wk (fun i Hc => ∃ Gc vs, Ex G1 Gc ∧ Ex Gc Hc ∧ Gc D = none ∧ (∀ b o, Gc b = some o → G1 b = some o ∨ H1 b = none) ∧ Ex H1 Hc ∧ Hc D = some (.lst vs) ∧ All ((List.range i).map xs) vs Gc)
      ⟨G1, [], Ex.refl _, g1.sub.trans (Ex.new hD), g1.sub.free hD, fun b o h => .inl h, Ex.new hD, upd_same, trivial⟩
      (fun i Hc _ ⟨Gc, vs, h1, h2, _⟩ => h1.trans h2) ?_ ?_
    · rintro i x Hc Hc' hlt ⟨Gc, vs, h1, h2, h3, h4, h5, h6, h7⟩ yi
      have en2 : En (wipeG Γ is) (L2.wipe σ (own.map (·.2))) G1 := by
        rw [← hio]
        exact (en.up g1.old).wipe is
      refine hsh.store (hΓ i hlt) yi (h1.trans h2) en2 fun σ' en3 wp e2 => ?_
      refine ⟨?_, ?_⟩
      · rw [← hio]
        exact wp σ (by rw [hio])
      · show ∃ i, i < n ∧ tX (Γi i) (xs i) σ' Hc' _
        refine ⟨i, hlt, Gc, h2.trans e2, en3.up h1, fun v G2 H2 g2 r2 => ⟨vs, ?_, ?_, ?_⟩⟩
        · exact g2.kept _ _ (e2 _ _ h6)
        · rw [h7.len, List.length_map, List.length_range]
          exact Nat.lt_of_lt_of_le hlt (Nat.le_trans hn (by decide))
        · have hD2 : G2 D = none := by
            cases z : G2 D with
            | none => rfl
            | some o =>
              rcases g2.new D o z with y | y
              · rw [h3] at y; cases y
              · rw [e2 _ _ h6] at y; cases y
          refine ⟨G2, vs ++ [v], h1.trans g2.old, ?_, hD2, fun b o hb => ?_, ?_, upd_same, ?_⟩
          · intro b o hb
            rw [upd_ne (ne_of_none hb hD2)]
            exact g2.sub _ _ hb
          · rcases g2.new b o hb with y | y
            · exact h4 b o y
            · exact .inr (h5.free (e2.free y))
          · intro b o hb
            rw [upd_ne (ne_of_none hb hD)]
            exact g2.kept _ _ (e2 _ _ (h5 _ _ hb))
          · rw [List.range_succ, List.map_append]
            exact (h7.up g2.old).snoc r2
    · rintro Hc ⟨Gc, vs, h1, h2, h3, h4, h5, h6, h7⟩
      refine q (.ref D) (upd Gc D (.lst vs)) Hc (g1.trans ⟨?_, h1.trans (Ex.new h3), h5, fun b o hb => ?_⟩) ⟨D, vs, rfl, upd_same, h7.up (Ex.new h3)⟩
      · intro b o hb
        by_cases z : b = D
        · subst z
          rw [upd_same] at hb
          rw [h6]
          exact hb
        · rw [upd_ne z] at hb
          exact h2 _ _ hb
      · by_cases z : b = D
        · subst z
          exact .inr hD
        · rw [upd_ne z] at hb
          exact h4 b o hb
theorem x_lc {X : Cx} {Γ : Ctx} {tg iter elt : Expr} {scope : Scope} {own : List (Str × Nat)} {pos : Pos} {n : Nat} {B : Nat → Itm} {is : List Nat} {g : TG} (xs : Nat → Rp) (hN : X.N.Nodup) (hi : XI X tg iter Γ n B) (ok : BlkOk X.N X.env.scope scope own) (hio : is = own.map (·.2))
    (hsh : TgSh X.K is g) (hg : ∀ (s : Shared) (H : Hp) (C : Addr) (cl : List (Str × Addr)) (fp : List Addr), PG (X.blk s H scope (compEnvC scope cl C X.env) fp) tg g)
    (he : ∀ (s : Shared) (H : Hp) (C : Addr) (cl : List (Str × Addr)) (fp : List Addr) (i : Nat), i < n → XE (X.blk s H scope (compEnvC scope cl C X.env) fp) elt ((B i).put is (wipeG Γ is)) (xs i)) (hn : n ≤ 1000 := by omega) (hf : ∀ i, (B i).fits is = true := by intro _; rfl)
    (hc : X.calm = true := by rfl) (hs : ∀ x, foldedSetIterable iter X.env x = pure x := by intro _; rfl) : XE X (.ListComp elt [⟨tg, iter, [], 0⟩] scope pos) Γ (rL ((List.range n).map xs)) := by
  let te : TE := fun σ H Q => ∃ i, i < n ∧ tX ((B i).put is (wipeG Γ is)) (xs i) σ H Q
  refine PE.of (pe_lc (te := te) hc hN hi ok hg (fun _ _ _ _ _ => pts_nil) (fun s H C cl fp => ⟨fun pins s' σ H' Q I h => ?_⟩) hs) fun σ H Q h => lc_read (Γi := fun i => (B i).put is (wipeG Γ is)) xs hsh (fun i _ => into_put (hf i)) hn hio h
  obtain ⟨i, hi', h⟩ := h
  exact (he s H C cl fp i hi').run pins s' σ H' Q I h
end OQ
/-! typed walks: statements, defs -/
namespace OQ
open PySem PySem.Spec PyProof.Rows L2
open Lrx1 (Fraction zero)
/-- less is told -/
def Le (Γ Γ' : Ctx) : Prop := ∀ σ G, En Γ σ G → En Γ' σ G
theorem Le.refl (Γ : Ctx) : Le Γ Γ := fun _ _ h => h
theorem le_nil : Le [] [] := Le.refl _
theorem le_same {r : Option Rp} {Γ Γ' : Ctx} (h : Le Γ Γ') : Le (r :: Γ) (r :: Γ') := fun σ G q => by
  cases r with
  | none => match σ, q with
    | _ :: s, q => exact h s G q
  | some r => match σ, q with
    | _ :: s, q => exact ⟨q.1, h s G q.2⟩
theorem le_drop {r : Rp} {Γ Γ' : Ctx} (h : Le Γ Γ') : Le (some r :: Γ) (none :: Γ') := fun σ G q => by
  match σ, q with
  | _ :: s, q => exact h s G q.2
theorem le_eq {Γ Γ' : Ctx} (h : Γ = Γ') : Le Γ Γ' := h ▸ Le.refl _
theorem le_imp {r r' : Rp} {Γ Γ' : Ctx} (w : ∀ v G, r.r v G → r'.r v G) (h : Le Γ Γ') : Le (some r :: Γ) (some r' :: Γ') := fun σ G q => by
  match σ, q with
  | _ :: s, q =>
    obtain ⟨⟨x, h1, h2⟩, h3⟩ := q
    exact ⟨⟨x, h1, w x G h2⟩, h s G h3⟩
section
variable {X : Cx} {Γ Γ1 Γ2 : Ctx} {e c : Expr} {st : Stmt} {rest body a b : List Stmt} {pos p : Pos} {R : Rp} {O : Out} {x : Str} {i : Nat}
theorem s_set (hN : X.N.Nodup) (he : XE X e Γ R) (hi : X.N[i]? = some x := by rfl) (hx : Loc X.env.scope x := by first | exact Or.inl rfl | exact Or.inr rfl) (hs : swapsWith e (some (.Name x p)) pos.line X.env = pure false := by rfl)
    (hf : X.fn x = true ∨ X.env.scope.names.lookup x = some .local := by first | exact .inl rfl | exact .inr rfl) : XS X (.Assign [.Name x p] e pos) Γ (.nxt (Γ.set i (some R))) :=
  PS.of (ps_set hN hi hx he hs hf) fun D σ H ⟨G, ex, en, q⟩ => ⟨G, ex, en, fun v G1 H1 g1 r1 => q _ G1 H1 g1 ((en.up g1.old).set r1)⟩
/-- y = [..] on one line -/
theorem s_setLc {tg iter elt : Expr} {scope : Scope} {own : List (Str × Nat)} {n : Nat} {B : Nat → Itm} {is : List Nat} {g : TG} {lpos : Pos} (xs : Nat → Rp) (hN : X.N.Nodup) (hi : XI X tg iter Γ n B) (ok : BlkOk X.N X.env.scope scope own) (hio : is = own.map (·.2))
    (hsh : TgSh X.K is g) (hg : ∀ (s : Shared) (H : Hp) (C : Addr) (cl : List (Str × Addr)) (fp : List Addr), PG (X.blk s H scope (compEnvC scope cl C X.env) fp) tg g)
    (he : ∀ (s : Shared) (H : Hp) (C : Addr) (cl : List (Str × Addr)) (fp : List Addr) (i : Nat), i < n → XE (X.blk s H scope (compEnvC scope cl C X.env) fp) elt ((B i).put is (wipeG Γ is)) (xs i)) (hn : n ≤ 1000 := by omega) (hf : ∀ i, (B i).fits is = true := by intro _; rfl)
    (hy : X.N[i]? = some x := by rfl) (hyl : X.env.scope.names.lookup x = some .local := by rfl) (hsw : swapsWith (.ListComp elt [⟨tg, iter, [], 0⟩] scope lpos) (some (.Name x p)) pos.line X.env = pure true := by exact sw_true rfl rfl rfl (by decide +kernel))
    (hc : X.calm = true := by rfl) (hs : ∀ x, foldedSetIterable iter X.env x = pure x := by intro _; rfl) : XS X (.Assign [.Name x p] (.ListComp elt [⟨tg, iter, [], 0⟩] scope lpos) pos) Γ (.nxt (Γ.set i (some (rL ((List.range n).map xs))))) := by
  have h1 : XE X (.ListComp elt [⟨tg, iter, [], 0⟩] scope lpos) Γ (rL ((List.range n).map xs)) := x_lc xs hN hi ok hio hsh hg he hn hf hc hs
  let te : TE := fun σ H Q => ∃ i, i < n ∧ tX ((B i).put is (wipeG Γ is)) (xs i) σ H Q
  refine PS.of (ps_setLc (te := te) hc hN hy hyl hsw hi ok hg (fun _ _ _ _ _ => pts_nil) (fun s H C cl fp => ⟨fun pins s' σ H' Q I h => ?_⟩) hs) fun D σ H h => ?_
  · obtain ⟨i, hi', h⟩ := h
    exact (he s H C cl fp i hi').run pins s' σ H' Q I h
  · obtain ⟨G, ex, en, q⟩ := h
    exact lc_read (Γi := fun i => (B i).put is (wipeG Γ is)) xs hsh (fun i _ => into_put (hf i)) hn hio ⟨G, ex, en, fun v G1 H1 g1 r1 => q _ G1 H1 g1 ((en.up g1.old).set r1)⟩
theorem s_ret (he : XE X e Γ R) : XS X (.Return (some e) pos) Γ (.ret R) := PS.of (ps_ret he) fun D σ H ⟨G, ex, en, q⟩ => ⟨G, ex, en, fun v G1 H1 g1 r1 => q v G1 H1 g1 r1⟩
theorem s_expr (he : XE X e Γ R) (hs : swapsWith e none pos.line X.env = pure false := by rfl) : XS X (.Expr e pos) Γ (.nxt Γ) := PS.of (ps_expr he hs) fun D σ H ⟨G, ex, en, q⟩ => ⟨G, ex, en, fun v G1 H1 g1 _ => q σ G1 H1 g1 (en.up g1.old)⟩
theorem ss_nil : XSs X [] Γ (.nxt Γ) := PSs.of pss_nil fun D σ H ⟨G, ex, en, q⟩ => q σ G H (Gr.refl ex) en
theorem ss_cons (h1 : XS X st Γ (.nxt Γ1)) (h2 : XSs X rest Γ1 O) : XSs X (st :: rest) Γ O :=
  PSs.of (pss_cons h1 h2) fun D σ H ⟨G, ex, en, q⟩ => ⟨G, ex, en, fun σ' G1 H1 g1 en1 => ⟨G1, g1.sub, en1, Out.later g1 q⟩⟩
theorem ss_one (h1 : XS X st Γ O) : XSs X [st] Γ O := pss_one h1
theorem ss_ret (h1 : XS X st Γ (.ret R)) : XSs X (st :: rest) Γ (.ret R) :=
  PSs.of (pss_cons h1 pss_never) fun D σ H ⟨G, ex, en, q⟩ => ⟨G, ex, en, fun v G1 H1 g1 r => q v G1 H1 g1 r⟩
theorem ss_le (h : Le Γ Γ1) (h1 : XSs X rest Γ1 O) : XSs X rest Γ O := PSs.of h1 fun D σ H ⟨G, ex, en, q⟩ => ⟨G, ex, h _ _ en, Out.later (Gr.refl ex) q⟩
theorem ss_out (h1 : XSs X rest Γ (.nxt Γ1)) (h : Le Γ1 Γ2) : XSs X rest Γ (.nxt Γ2) := PSs.of h1 fun D σ H ⟨G, ex, en, q⟩ => ⟨G, ex, en, fun σ' G1 H1 g1 e1 => q σ' G1 H1 g1 (h _ _ e1)⟩
theorem s_if {k : Bool} (hc : XT X c Γ k) (ha : k = true → XSs X a Γ O) (hb : k = false → XSs X b Γ O) : XS X (.If c a b pos) Γ O := by
  cases k with
  | true => exact PS.of (ps_if hc (ha rfl) pss_never) fun D σ H ⟨G, ex, en, q⟩ => ⟨G, ex, en, fun G1 H1 g1 => ⟨G1, g1.sub, en.up g1.old, Out.later g1 q⟩⟩
  | false => exact PS.of (ps_if hc pss_never (hb rfl)) fun D σ H ⟨G, ex, en, q⟩ => ⟨G, ex, en, fun G1 H1 g1 => ⟨G1, g1.sub, en.up g1.old, Out.later g1 q⟩⟩
/-- if c: .. return; the rest -/
theorem ss_if {k : Bool} (hc : XT X c Γ k) (ha : k = true → XSs X a Γ (.ret R)) (hb : k = false → XSs X rest Γ (.ret R)) : XSs X (.If c a [] pos :: rest) Γ (.ret R) := by
  cases k with
  | true => exact ss_ret (s_if hc ha fun h => by cases h)
  | false => exact ss_cons (s_if (O := .nxt Γ) hc (fun h => by cases h) fun _ => ss_nil) (hb rfl)
/-- for .. in ..: Γf i ahead of the i-th turn -/
theorem s_for {tg iter : Expr} {n : Nat} {B : Nat → Itm} {is : List Nat} {g : TG} (Γf : Nat → Ctx) (hi : XI X tg iter Γ n B) (hsh : TgSh X.K is g) (hg : PG X tg g) (h0 : Le Γ (Γf 0)) (hb : ∀ i, i < n → XSs X body ((B i).put is (Γf i)) (.nxt (Γf (i + 1)))) (hf : ∀ i, (B i).fits is = true := by intro _; rfl)
    (hp : PassesOwn (model X.prog X.w) X.A X.env X.xe := by exact PassesOwn.never) (hc : X.calm = true := by rfl) (hs : ∀ x, foldedSetIterable iter X.env x = pure x := by intro _; rfl) : XS X (.For tg iter body [] pos) Γ (.nxt (Γf n)) := by
  let tb : TS := fun D σ H => ∃ i, i < n ∧ ∃ Γi, (B i).into is (Γf i) = some Γi ∧ XSs X body Γi (.nxt (Γf (i + 1))) ∧ tXS Γi (.nxt (Γf (i + 1))) D σ H
  refine PS.of (ps_for hp hc hi hg (tb := tb) ⟨fun pins s σ H D I h => ?_⟩ hs) fun D σ H h => ?_
  · obtain ⟨i, _, Γi, _, hb', h⟩ := h
    exact hb'.run pins s σ H D I h
  · obtain ⟨G, ex, en, q⟩ := h
    refine ⟨G, ex, en, fun J G1 H1 g1 wk => ?_⟩
    refine for_it wk (fun i σ Hc => ∃ Gc, Gr G1 H1 Gc Hc ∧ En (Γf i) σ Gc) ⟨G1, Gr.refl g1.sub, h0 _ _ (en.up g1.old)⟩ (fun i σ Hc _ ⟨Gc, h1, _⟩ => h1.old.trans h1.sub) ?_ ?_
    · rintro i x σ2 Hc Hc' hlt ⟨Gc, h1, h2⟩ yi
      have e1 := into_put (Γ := Γf i) (hf i)
      have e2 := hb i hlt
      have yi' : (B i).r Gc Hc x Hc' := by
        cases hB : B i with
        | one B1 =>
          rw [hB] at yi
          exact ⟨yi.1, B1.up h1.old yi.2⟩
        | two B1 B2 =>
          rw [hB] at yi
          obtain ⟨T, y, z, k1, k2, k3, k4, k5⟩ := yi
          exact ⟨T, y, z, k1, k2, k3, B1.up h1.old k4, B2.up h1.old k5⟩
      refine hsh.store e1 yi' h1.sub h2 fun σ' en3 _ ex2 => ?_
      refine ⟨i, hlt, _, e1, e2, Gc, h1.sub.trans ex2, en3, fun σ3 G3 H3 g3 en4 => ⟨G3, ⟨g3.sub, h1.old.trans g3.old, h1.kept.trans (ex2.trans g3.kept), fun b o hb => ?_⟩, en4⟩⟩
      rcases g3.new b o hb with y | y
      · exact h1.new b o y
      · exact .inr (h1.kept.free (ex2.free y))
    · rintro σ2 Hc ⟨Gc, h1, h2⟩
      exact q σ2 Gc Hc (g1.trans h1) h2
end
/-! ### defs -/
section
variable {P : Program} {w : World} {K : PySem.W.Frag} {mg : Str → Option Value} {base : Heap} {α : Type} {Rs : α → List Rp} {C : α → Prop} {R : α → Rp}
abbrev cx (P : Program) (w : World) (K : PySem.W.Frag) (mg : Str → Option Value) (base : Heap) (N : List Str) (qual : Str) (st : Stmt) (f : Addr) (cdv : Value) (A : Around) (outer : List Env) (s : Shared) (H : Hp) (E : XK) : Cx := (cxOf CX0 P w K mg base N qual (defScope st) f cdv A outer s H E).nox
theorem ok_mk {x qual : Str} {st : Stmt} {f : Addr} {fd : FuncData} {N ps : List Str} {k : Nat} (F : Fun K x qual st f fd) (S : FnScope N ps (defScope st)) (hl : ∀ x0, (Rs x0).length = ps.length) (hN : ps.length ≤ N.length)
    (body : ∀ (cdv : Value) (A : Around) (outer : List Env) (s : Shared) (H : Hp) (E : XK) (x0 : α), C x0 → Room k (cx P w K mg base N qual st f cdv A outer s H E).A → XSs (cx P w K mg base N qual st f cdv A outer s H E) (defBody st) ((Rs x0).map some ++ List.replicate (N.length - ps.length) none) (.ret (R x0))) :
    FnOk P w K mg base CX0 (k + 1) f fd ps (spG Rs C R) := by
  refine F.ok S (fun vs H Q E ⟨x0, G, _, h, _⟩ => by rw [h.len, hl]) fun cdv A outer s H vs Q E hr ⟨x0, G, ex, h, hc, q⟩ => ⟨_, body cdv A outer s H E x0 hc hr, G, ex, ?_, q⟩
  have e : L2.start N vs = vs.map some ++ List.replicate (N.length - ps.length) none := by
    unfold L2.start
    rw [h.len, hl]
  rw [e]
  exact en_start _ h
theorem fn_mk {x : Str} {st : Stmt} {f : Addr} {fd : FuncData} {N ps : List Str} {k : Nat} (F : Fun K x x st f fd) (S : FnScope N ps (defScope st)) (hm : mg x = some (.ref f)) (hb : Binds K fd ps []) (hl : ∀ x0, (Rs x0).length = ps.length) (hN : ps.length ≤ N.length)
    (body : ∀ (cdv : Value) (A : Around) (outer : List Env) (s : Shared) (H : Hp) (E : XK) (x0 : α), C x0 → Room k (cx P w K mg base N x st f cdv A outer s H E).A → XSs (cx P w K mg base N x st f cdv A outer s H E) (defBody st) ((Rs x0).map some ++ List.replicate (N.length - ps.length) none) (.ret (R x0))) :
    FnG P w K mg base x (k + 1) Rs C R := ⟨f, fd, ps, ok_mk F S hl hN body, hm, F.kp, hb⟩
theorem fm_mk {x qual : Str} {st : Stmt} {f CC : Addr} {fd : FuncData} {N ps : List Str} {k : Nat} (F : Fun K x qual st f fd) (S : FnScope N ps (defScope st)) (hm : Meth K CC x f) (hb : Binds K fd ps []) (hl : ∀ x0, (Rs x0).length = ps.length) (hN : ps.length ≤ N.length)
    (body : ∀ (cdv : Value) (A : Around) (outer : List Env) (s : Shared) (H : Hp) (E : XK) (x0 : α), C x0 → Room k (cx P w K mg base N qual st f cdv A outer s H E).A → XSs (cx P w K mg base N qual st f cdv A outer s H E) (defBody st) ((Rs x0).map some ++ List.replicate (N.length - ps.length) none) (.ret (R x0))) :
    FnM P w K mg base CC x (k + 1) Rs C R := ⟨f, fd, ps, ok_mk F S hl hN body, hm, hb⟩
end
end OQ
/-! the top's facts -/
namespace OQ
open PySem PySem.Spec PyProof.Rows L2
theorem main_es {K : PySem.W.Frag} (h : mainX K = mainL) : ∃ c d es n sl, K.lookup mainGlobals = some ⟨c, d, .dict es n, sl⟩ ∧ es.toList.map (fun e => (ks e.key, sv e.val)) = mainL := by
  unfold mainX at h
  split at h
  · rename_i c d es n sl e
    exact ⟨c, d, es, n, sl, e, h⟩
  · exact absurd h (by decide +kernel)
theorem key_ks (v : Value) (x : Str) : v.isStr x = (ks v == some x) := by
  cases v <;> first | rfl | skip
theorem refKey_ks {e : DictEntry} {x : Str} (h : ks e.key = some x) : e.refKey = false := by
  obtain ⟨hh, k, v⟩ := e
  cases k <;> first | rfl | cases h
def svO : Option (Option Value) → Option Sv → Prop
  | some (some v), some s => sv v = s
  | some none, none => True
  | _, _ => False
theorem ns_find {K : PySem.W.Frag} (h : mainX K = mainL) {x : Str} {r : Option Sv} (hx : (mainL.find? (fun p => p.1 == some x)).map (·.2) = r) : svO (PySem.W.nsIn K mainGlobals x) r := by
  obtain ⟨c, d, es, n, sl, e, hm⟩ := main_es h
  have f : (es.toList.find? (fun e => e.key.isStr x)).map (fun e => sv e.val) = r := by
    rw [← hx, ← hm, List.find?_map, Option.map_map]
    congr 2
    funext e
    exact key_ks _ _
  unfold PySem.W.nsIn
  rw [e]
  dsimp only
  cases q : es.toList.find? (fun e => e.key.isStr x) with
  | none =>
    rw [q] at f
    subst f
    show svO (if es.toList.any (fun e => e.refKey) = true then none else some none) none
    rw [if_neg]
    · trivial
    intro z
    obtain ⟨e1, h1, h2⟩ := List.any_eq_true.mp z
    have m : (ks e1.key, sv e1.val) ∈ mainL := by
      rw [← hm]
      exact List.mem_map_of_mem (f := fun e => (ks e.key, sv e.val)) h1
    have all : ∀ p ∈ mainL, p.1.isSome = true := by
      have : (mainL.all fun p => p.1.isSome) = true := by decide +kernel
      exact List.all_eq_true.mp this
    have s := all _ m
    cases k : ks e1.key with
    | none =>
      rw [k] at s
      cases s
    | some y =>
      rw [refKey_ks k] at h2
      cases h2
  | some e1 =>
    rw [q] at f
    have f : some (sv e1.val) = r := f
    subst f
    rfl
theorem ns_ref {K : PySem.W.Frag} (h : mainX K = mainL) {x : Str} {a : Addr} (hx : (mainL.find? (fun p => p.1 == some x)).map (·.2) = some (.ref a)) : PySem.W.nsIn K mainGlobals x = some (some (.ref a)) := by
  have q := ns_find h hx
  cases e : PySem.W.nsIn K mainGlobals x with
  | none => rw [e] at q; cases q
  | some o =>
    rw [e] at q
    cases o with
    | none => cases q
    | some v =>
      have q : sv v = .ref a := q
      cases v <;> first | cases q; rfl | cases q
theorem ns_int {K : PySem.W.Frag} (h : mainX K = mainL) {x : Str} {i : Int} (hx : (mainL.find? (fun p => p.1 == some x)).map (·.2) = some (.int i)) : ∃ t, PySem.W.nsIn K mainGlobals x = some (some (.int i t)) := by
  have q := ns_find h hx
  cases e : PySem.W.nsIn K mainGlobals x with
  | none => rw [e] at q; cases q
  | some o =>
    rw [e] at q
    cases o with
    | none => cases q
    | some v =>
      have q : sv v = .int i := q
      cases v <;> first | (cases q; exact ⟨_, rfl⟩) | cases q
theorem ns_none {K : PySem.W.Frag} (h : mainX K = mainL) {x : Str} (hx : (mainL.find? (fun p => p.1 == some x)).map (·.2) = none) : PySem.W.nsIn K mainGlobals x = some none := by
  have q := ns_find h hx
  cases e : PySem.W.nsIn K mainGlobals x with
  | none => rw [e] at q; cases q
  | some o =>
    rw [e] at q
    cases o with
    | none => rfl
    | some v => cases q
theorem fnX_ok {K : PySem.W.Frag} {d : DefX} (e : fnX K d.f = d.val) : ∃ fd, Fun K d.name d.qual d.st d.f fd := by
  unfold fnX at e
  split at e
  · rename_i c0 d0 fd sl e0
    split at e
    · rename_i c ec
      split at e
      · rename_i ed
        split at e
        · rename_i c1 d1 vs sl1 e1
          split at e
          · rename_i a n t r ev
            obtain ⟨n1, n2, n3, n4, n5, n6, n7, n8, n9, n10, n11, n12, n13, n14, n15⟩ := fd
            have e2 : (some (n1, n2, n3, n4, n5, n6, n7, n15, n) : FnV) = some (d.name, d.qual, defArgs d.st, .stmts (defBody d.st), defScope d.st, mainGlobals, [], builtinsNs, d.qual) := e
            simp only [Option.some.injEq, Prod.mk.injEq] at e2
            obtain ⟨h1, h2, h3, h4, h5, h6, h7, h8, h9⟩ := e2
            subst h1 h2 h3 h4 h5 h6 h7 h8
            have ed : n8 = .none := ed
            have ec : n13 = .ref c := ec
            subst ed ec
            refine ⟨_, ⟨c0, d0, n9, n10, n11, n12, .ref c, n14, sl, rfl, e0, ?_⟩, ?_⟩
            · unfold PySem.W.codeIn
              dsimp only
              rw [e1]
              dsimp only
              rw [ev]
              exact beq_iff_eq.mpr h9
            · unfold PySem.W.keepIn
              dsimp only
              rw [e0]
          · cases e
        · cases e
      · cases e
    · cases e
  · cases e
theorem tup_sv : ∀ {l : List Value} {ss : List Sv} {vs : List V}, l.map sv = ss → (∀ (i : Nat) (s : Sv), ss[i]? = some s → ∃ v, vs[i]? = some v ∧ ∀ u : Value, sv u = s → RelV v u) → ss.length = vs.length → Vals vs l
  | [], _, [], _, _, _ => .nil
  | [], ss, _ :: _, h, _, l => by subst h; cases l
  | u :: l, _, [], h, _, hl => by subst h; cases hl
  | u :: l, _, v :: vs, h, r, hl => by
    subst h
    refine .cons ?_ (tup_sv (l := l) rfl (fun i s e => r (i + 1) s e) (by simpa using hl))
    obtain ⟨v', h1, h2⟩ := r 0 (sv u) rfl
    have e : v = v' := Option.some.inj h1
    rw [e]
    exact h2 u rfl
def svV : Sv → V
  | .ref a => .ref a
  | .int i => .int i
  | .other => .non
theorem tupX_ok {K : PySem.W.Frag} {a : Addr} {ss : List Sv} (h : tupX K a = some (true, ss)) (hn : ∀ s ∈ ss, s ≠ .other) (H : Hp) : SqT K H a (ss.map svV) := by
  unfold tupX at h
  split at h
  · rename_i c d its n sl e
    have h1 : (decide (c = "tuple") && decide (its.size ≤ 1000)) = true := congrArg Prod.fst (Option.some.inj h)
    have h2 : its.toList.map sv = ss := congrArg Prod.snd (Option.some.inj h)
    rw [Bool.and_eq_true] at h1
    have h3 := of_decide_eq_true h1.1
    have h4 := of_decide_eq_true h1.2
    refine .inr ⟨_, its, n, e, by rw [h3], rfl, Nat.le_trans h4 (by decide), tup_sv h2 (fun i s hs => ⟨svV s, by rw [List.getElem?_map, hs]; rfl, fun u hu => ?_⟩) (by rw [List.length_map])⟩
    have ne := hn s (List.mem_of_getElem? hs)
    subst hu
    cases u <;> first | exact absurd rfl ne | rfl | exact ⟨_, rfl⟩
  · cases h
/-- what the walk takes from the top -/
structure Tx (K : PySem.W.Frag) (mg : Str → Option Value) : Prop where
  fn : ∀ d ∈ fnx, ∃ fd, Fun K d.name d.qual d.st d.f fd
  refs : ∀ x a, (mainL.find? (fun p => p.1 == some x)).map (·.2) = some (.ref a) → mg x = some (.ref a)
  zs : ∀ x i, (mainL.find? (fun p => p.1 == some x)).map (·.2) = some (.int i) → ∃ t, mg x = some (.int i t)
  frees : ∀ x, (mainL.find? (fun p => p.1 == some x)).map (·.2) = Option.none → mg x = Option.none
  tNOTHING : ∀ H, SqT K H a_NOTHING [.int 0, .int 1]
  tONE : ∀ H, SqT K H a_ONE [.int 1, .int 1]
  tASKS : ∀ H, SqT K H a_ASKS (tASKS.map svV)
  tCHANGES : ∀ H, SqT K H a_CHANGES (tCHANGES.map svV)
  tSIZES : ∀ H, SqT K H a_SIZES (sizes.map V.int)
  cl : Cls K a_Net
  maker : Mk K a_Net a_Net_init
  ms : ∀ p ∈ meths, Meth K a_Net p.1 p.2
  no : ∀ x ∈ flds, NoAttr K a_Net x
theorem tx_of {K : PySem.W.Frag} {h : Heap} {mg : Str → Option Value} (X : K.In h) (G : h.Ns mainGlobals mg) (c : obx K = vax) : Tx K mg := by
  have c1 : mainX K = mainL := congrArg (fun z : Obx => z.1) c
  have c2 : fnx.map (fun d => fnX K d.f) = fnx.map DefX.val := congrArg (fun z : Obx => z.2.1) c
  have c3 : [a_NOTHING, a_ONE, a_ASKS, a_CHANGES, a_SIZES].map (tupX K) = [tNOTHING, tONE, OQ.tASKS, OQ.tCHANGES, OQ.tSIZES].map fun l => some (true, l) := congrArg (fun z : Obx => z.2.2.1) c
  have c5 : (netB K && seeB K) = true := congrArg (fun z : Obx => z.2.2.2) c
  have c4 : netB K = true := (He.ba c5).1
  simp only [List.map_cons, List.map_nil, List.cons.injEq, and_true] at c3
  obtain ⟨t1, t2, t3, t4, t5⟩ := c3
  unfold netB at c4
  obtain ⟨n1, n2⟩ := He.ba c4
  obtain ⟨n2, n3⟩ := He.ba n2
  unfold clsB at n1
  obtain ⟨k1, n1⟩ := He.ba n1
  obtain ⟨k2, n1⟩ := He.ba n1
  obtain ⟨k3, n1⟩ := He.ba n1
  obtain ⟨k4, n1⟩ := He.ba n1
  obtain ⟨k5, k6⟩ := He.ba n1
  have ms : ∀ p ∈ meths, Meth K a_Net p.1 p.2 := fun p hp => by
    have q := List.all_eq_true.mp n2 p hp
    unfold methB at q
    obtain ⟨q1, q2⟩ := He.ba q
    have kp : PySem.W.keepIn K (.ref p.2) = true := by
      have : ∃ d ∈ fnx, d.f = p.2 := by
        have all : (meths.all fun p => fnx.any fun d => d.f == p.2) = true := by decide +kernel
        obtain ⟨d, h1, h2⟩ := List.any_eq_true.mp (List.all_eq_true.mp all p hp)
        exact ⟨d, h1, beq_iff_eq.mp h2⟩
      obtain ⟨d, h1, h2⟩ := this
      obtain ⟨i, hi, e⟩ := List.mem_iff_getElem.mp h1
      have e2 : (fnx.map fun d => fnX K d.f)[i]? = (fnx.map DefX.val)[i]? := by rw [c2]
      rw [List.getElem?_map, List.getElem?_map, List.getElem?_eq_getElem hi, e] at e2
      obtain ⟨fd, F⟩ := fnX_ok (Option.some.inj e2)
      rw [← h2]
      exact F.kp
    exact ⟨He.eqO_ok q1, q2, kp⟩
  refine ⟨fun d hd => ?_, fun x a hx => ?_, fun x i hx => ?_, fun x hx => ?_, fun H => ?_, fun H => ?_, fun H => ?_, fun H => ?_, fun H => ?_, ⟨k1, k2, k3, He.eqO_ok k4⟩, ?_, ms, fun x hx => ?_⟩
  · obtain ⟨i, hi, e⟩ := List.mem_iff_getElem.mp hd
    have e2 : (fnx.map fun d => fnX K d.f)[i]? = (fnx.map DefX.val)[i]? := by rw [c2]
    rw [List.getElem?_map, List.getElem?_map, List.getElem?_eq_getElem hi, e] at e2
    exact fnX_ok (Option.some.inj e2)
  · exact PySem.W.mg_of X G (ns_ref c1 hx)
  · obtain ⟨t, e⟩ := ns_int c1 hx
    exact ⟨t, PySem.W.mg_of X G e⟩
  · exact PySem.W.mg_none_of X G (ns_none c1 hx)
  · exact tupX_ok t1 (by decide +kernel) H
  · exact tupX_ok t2 (by decide +kernel) H
  · exact tupX_ok t3 (by decide +kernel) H
  · exact tupX_ok t4 (by decide +kernel) H
  · have := tupX_ok t5 (by decide +kernel) H
    have e : OQ.tSIZES.map svV = sizes.map V.int := by rfl
    rw [e] at this
    exact this
  · have m := ms ("__init__", a_Net_init) List.mem_cons_self
    exact ⟨k5, m.at_, m.fn, k6⟩
  · exact He.eqO_ok (List.all_eq_true.mp n3 x hx)
theorem ns_same {a : Addr} {h h' : Heap} {m : Str → Option Value} (e : h'.get? a = h.get? a) (n : h.Ns a m) : h'.Ns a m := by
  obtain ⟨o, es, ep, h1, h2⟩ := n
  exact ⟨o, es, ep, e.trans h1, h2⟩
theorem get_same {K : PySem.W.Frag} {a : Addr} {h h' : Heap} (k : (K.lookup a).isSome = true) (i : K.In h) (i' : K.In h') : h'.get? a = h.get? a := by
  obtain ⟨o, ho⟩ := Option.isSome_iff_exists.mp k
  rw [i a o ho, i' a o ho]
theorem seer_of {K : PySem.W.Frag} {h base : Heap} {mg : Str → Option Value} (c : obx K = vax) (i : K.In h) (i' : K.In base) (N : h.NoSeer) (G : h.Ns mainGlobals mg) (G' : base.Ns mainGlobals mg) : base.NoSeer := by
  have c5 : (netB K && seeB K) = true := congrArg (fun z : Obx => z.2.2.2) c
  have s := (He.ba c5).2
  unfold seeB at s
  obtain ⟨s1, s⟩ := He.ba s
  obtain ⟨s2, s⟩ := He.ba s
  obtain ⟨s3, s4⟩ := He.ba s
  have T := tx_of i G c
  have b4 : mg "__builtins__" = some (.ref 4) := T.refs "__builtins__" 4 (by decide +kernel)
  refine ⟨?_, ?_, ?_, ?_⟩
  · obtain ⟨mc, h1, h2⟩ := N.statics
    exact ⟨mc, ns_same (get_same s1 i i') h1, h2⟩
  · obtain ⟨mm, h1, h2⟩ := N.mods
    exact ⟨mm, ns_same (get_same s2 i i') h1, h2⟩
  · obtain ⟨mb, h1, h2⟩ := N.imp
    exact ⟨mb, ns_same (get_same s3 i i') h1, h2⟩
  · obtain ⟨mg2, bm, ob, h1, h2, h3, h4, h5⟩ := N.main
    have e : mg2 "__builtins__" = mg "__builtins__" := by
      obtain ⟨o1, es1, ep1, a1, a2, a3, a4⟩ := h1
      obtain ⟨o2, es2, ep2, d1, d2, d3, d4⟩ := G
      rw [a1] at d1
      cases d1
      rw [a2] at d2
      cases d2
      rw [← a4, ← d4]
    rw [e, b4] at h2
    cases h2
    exact ⟨mg, 4, ob, G', b4, (get_same s4 i i').trans h3, h4, h5⟩
end OQ
namespace OQ
open PySem PySem.Spec PyProof.Rows L2
section
variable {P : Program} {w : World} {K : PySem.W.Frag} {mg : Str → Option Value} {base : Heap} {α : Type} {Rs : α → List Rp} {C : α → Prop} {R : α → Rp}
abbrev N_divisor : List Str := ["one", "other"]
abbrev p_divisor : List Str := ["one", "other"]
theorem sc_divisor : FnScope N_divisor p_divisor (defScope s_divisor) := ⟨rfl, rfl, rfl, by decide +kernel, rfl, by decide +kernel, by decide +kernel⟩
theorem mk_divisor (T : Tx K mg) (k : Nat) (hl : ∀ x0, (Rs x0).length = 2) (body : ∀ (cdv : Value) (A : Around) (outer : List Env) (s : Shared) (H : Hp) (E : XK) (x0 : α), C x0 → Room k (cx P w K mg base N_divisor "divisor" s_divisor a_divisor cdv A outer s H E).A → XSs (cx P w K mg base N_divisor "divisor" s_divisor a_divisor cdv A outer s H E) (defBody s_divisor) ((Rs x0).map some ++ List.replicate 0 none) (.ret (R x0))) : FnG P w K mg base "divisor" (k + 1) Rs C R := by
  obtain ⟨fd, F⟩ := T.fn ⟨a_divisor, "divisor", "divisor", s_divisor⟩ (List.mem_of_getElem? (i := 0) rfl)
  exact fn_mk F sc_divisor (T.refs "divisor" a_divisor (by decide +kernel)) (F.binds (ps := p_divisor) fun _ _ _ _ _ _ us hl => match us, hl with | [_, _], _ => rfl) hl (by decide) body
abbrev N_ratio : List Str := ["top", "bottom", "common"]
abbrev p_ratio : List Str := ["top", "bottom"]
theorem sc_ratio : FnScope N_ratio p_ratio (defScope s_ratio) := ⟨rfl, rfl, rfl, by decide +kernel, rfl, by decide +kernel, by decide +kernel⟩
theorem mk_ratio (T : Tx K mg) (k : Nat) (hl : ∀ x0, (Rs x0).length = 2) (body : ∀ (cdv : Value) (A : Around) (outer : List Env) (s : Shared) (H : Hp) (E : XK) (x0 : α), C x0 → Room k (cx P w K mg base N_ratio "ratio" s_ratio a_ratio cdv A outer s H E).A → XSs (cx P w K mg base N_ratio "ratio" s_ratio a_ratio cdv A outer s H E) (defBody s_ratio) ((Rs x0).map some ++ List.replicate 1 none) (.ret (R x0))) : FnG P w K mg base "ratio" (k + 1) Rs C R := by
  obtain ⟨fd, F⟩ := T.fn ⟨a_ratio, "ratio", "ratio", s_ratio⟩ (List.mem_of_getElem? (i := 1) rfl)
  exact fn_mk F sc_ratio (T.refs "ratio" a_ratio (by decide +kernel)) (F.binds (ps := p_ratio) fun _ _ _ _ _ _ us hl => match us, hl with | [_, _], _ => rfl) hl (by decide) body
abbrev N_whole : List Str := ["number"]
abbrev p_whole : List Str := ["number"]
theorem sc_whole : FnScope N_whole p_whole (defScope s_whole) := ⟨rfl, rfl, rfl, by decide +kernel, rfl, by decide +kernel, by decide +kernel⟩
theorem mk_whole (T : Tx K mg) (k : Nat) (hl : ∀ x0, (Rs x0).length = 1) (body : ∀ (cdv : Value) (A : Around) (outer : List Env) (s : Shared) (H : Hp) (E : XK) (x0 : α), C x0 → Room k (cx P w K mg base N_whole "whole" s_whole a_whole cdv A outer s H E).A → XSs (cx P w K mg base N_whole "whole" s_whole a_whole cdv A outer s H E) (defBody s_whole) ((Rs x0).map some ++ List.replicate 0 none) (.ret (R x0))) : FnG P w K mg base "whole" (k + 1) Rs C R := by
  obtain ⟨fd, F⟩ := T.fn ⟨a_whole, "whole", "whole", s_whole⟩ (List.mem_of_getElem? (i := 2) rfl)
  exact fn_mk F sc_whole (T.refs "whole" a_whole (by decide +kernel)) (F.binds (ps := p_whole) fun _ _ _ _ _ _ us hl => match us, hl with | [_], _ => rfl) hl (by decide) body
abbrev N_plus : List Str := ["one", "other"]
abbrev p_plus : List Str := ["one", "other"]
theorem sc_plus : FnScope N_plus p_plus (defScope s_plus) := ⟨rfl, rfl, rfl, by decide +kernel, rfl, by decide +kernel, by decide +kernel⟩
theorem mk_plus (T : Tx K mg) (k : Nat) (hl : ∀ x0, (Rs x0).length = 2) (body : ∀ (cdv : Value) (A : Around) (outer : List Env) (s : Shared) (H : Hp) (E : XK) (x0 : α), C x0 → Room k (cx P w K mg base N_plus "plus" s_plus a_plus cdv A outer s H E).A → XSs (cx P w K mg base N_plus "plus" s_plus a_plus cdv A outer s H E) (defBody s_plus) ((Rs x0).map some ++ List.replicate 0 none) (.ret (R x0))) : FnG P w K mg base "plus" (k + 1) Rs C R := by
  obtain ⟨fd, F⟩ := T.fn ⟨a_plus, "plus", "plus", s_plus⟩ (List.mem_of_getElem? (i := 3) rfl)
  exact fn_mk F sc_plus (T.refs "plus" a_plus (by decide +kernel)) (F.binds (ps := p_plus) fun _ _ _ _ _ _ us hl => match us, hl with | [_, _], _ => rfl) hl (by decide) body
abbrev N_minus : List Str := ["one", "other"]
abbrev p_minus : List Str := ["one", "other"]
theorem sc_minus : FnScope N_minus p_minus (defScope s_minus) := ⟨rfl, rfl, rfl, by decide +kernel, rfl, by decide +kernel, by decide +kernel⟩
theorem mk_minus (T : Tx K mg) (k : Nat) (hl : ∀ x0, (Rs x0).length = 2) (body : ∀ (cdv : Value) (A : Around) (outer : List Env) (s : Shared) (H : Hp) (E : XK) (x0 : α), C x0 → Room k (cx P w K mg base N_minus "minus" s_minus a_minus cdv A outer s H E).A → XSs (cx P w K mg base N_minus "minus" s_minus a_minus cdv A outer s H E) (defBody s_minus) ((Rs x0).map some ++ List.replicate 0 none) (.ret (R x0))) : FnG P w K mg base "minus" (k + 1) Rs C R := by
  obtain ⟨fd, F⟩ := T.fn ⟨a_minus, "minus", "minus", s_minus⟩ (List.mem_of_getElem? (i := 4) rfl)
  exact fn_mk F sc_minus (T.refs "minus" a_minus (by decide +kernel)) (F.binds (ps := p_minus) fun _ _ _ _ _ _ us hl => match us, hl with | [_, _], _ => rfl) hl (by decide) body
abbrev N_times : List Str := ["one", "other"]
abbrev p_times : List Str := ["one", "other"]
theorem sc_times : FnScope N_times p_times (defScope s_times) := ⟨rfl, rfl, rfl, by decide +kernel, rfl, by decide +kernel, by decide +kernel⟩
theorem mk_times (T : Tx K mg) (k : Nat) (hl : ∀ x0, (Rs x0).length = 2) (body : ∀ (cdv : Value) (A : Around) (outer : List Env) (s : Shared) (H : Hp) (E : XK) (x0 : α), C x0 → Room k (cx P w K mg base N_times "times" s_times a_times cdv A outer s H E).A → XSs (cx P w K mg base N_times "times" s_times a_times cdv A outer s H E) (defBody s_times) ((Rs x0).map some ++ List.replicate 0 none) (.ret (R x0))) : FnG P w K mg base "times" (k + 1) Rs C R := by
  obtain ⟨fd, F⟩ := T.fn ⟨a_times, "times", "times", s_times⟩ (List.mem_of_getElem? (i := 5) rfl)
  exact fn_mk F sc_times (T.refs "times" a_times (by decide +kernel)) (F.binds (ps := p_times) fun _ _ _ _ _ _ us hl => match us, hl with | [_, _], _ => rfl) hl (by decide) body
abbrev N_over : List Str := ["one", "other"]
abbrev p_over : List Str := ["one", "other"]
theorem sc_over : FnScope N_over p_over (defScope s_over) := ⟨rfl, rfl, rfl, by decide +kernel, rfl, by decide +kernel, by decide +kernel⟩
theorem mk_over (T : Tx K mg) (k : Nat) (hl : ∀ x0, (Rs x0).length = 2) (body : ∀ (cdv : Value) (A : Around) (outer : List Env) (s : Shared) (H : Hp) (E : XK) (x0 : α), C x0 → Room k (cx P w K mg base N_over "over" s_over a_over cdv A outer s H E).A → XSs (cx P w K mg base N_over "over" s_over a_over cdv A outer s H E) (defBody s_over) ((Rs x0).map some ++ List.replicate 0 none) (.ret (R x0))) : FnG P w K mg base "over" (k + 1) Rs C R := by
  obtain ⟨fd, F⟩ := T.fn ⟨a_over, "over", "over", s_over⟩ (List.mem_of_getElem? (i := 6) rfl)
  exact fn_mk F sc_over (T.refs "over" a_over (by decide +kernel)) (F.binds (ps := p_over) fun _ _ _ _ _ _ us hl => match us, hl with | [_, _], _ => rfl) hl (by decide) body
abbrev N_is_less : List Str := ["one", "other"]
abbrev p_is_less : List Str := ["one", "other"]
theorem sc_is_less : FnScope N_is_less p_is_less (defScope s_is_less) := ⟨rfl, rfl, rfl, by decide +kernel, rfl, by decide +kernel, by decide +kernel⟩
theorem mk_is_less (T : Tx K mg) (k : Nat) (hl : ∀ x0, (Rs x0).length = 2) (body : ∀ (cdv : Value) (A : Around) (outer : List Env) (s : Shared) (H : Hp) (E : XK) (x0 : α), C x0 → Room k (cx P w K mg base N_is_less "is_less" s_is_less a_is_less cdv A outer s H E).A → XSs (cx P w K mg base N_is_less "is_less" s_is_less a_is_less cdv A outer s H E) (defBody s_is_less) ((Rs x0).map some ++ List.replicate 0 none) (.ret (R x0))) : FnG P w K mg base "is_less" (k + 1) Rs C R := by
  obtain ⟨fd, F⟩ := T.fn ⟨a_is_less, "is_less", "is_less", s_is_less⟩ (List.mem_of_getElem? (i := 7) rfl)
  exact fn_mk F sc_is_less (T.refs "is_less" a_is_less (by decide +kernel)) (F.binds (ps := p_is_less) fun _ _ _ _ _ _ us hl => match us, hl with | [_, _], _ => rfl) hl (by decide) body
abbrev N_total : List Str := ["ones", "found", "one"]
abbrev p_total : List Str := ["ones"]
theorem sc_total : FnScope N_total p_total (defScope s_total) := ⟨rfl, rfl, rfl, by decide +kernel, rfl, by decide +kernel, by decide +kernel⟩
theorem mk_total (T : Tx K mg) (k : Nat) (hl : ∀ x0, (Rs x0).length = 1) (body : ∀ (cdv : Value) (A : Around) (outer : List Env) (s : Shared) (H : Hp) (E : XK) (x0 : α), C x0 → Room k (cx P w K mg base N_total "total" s_total a_total cdv A outer s H E).A → XSs (cx P w K mg base N_total "total" s_total a_total cdv A outer s H E) (defBody s_total) ((Rs x0).map some ++ List.replicate 2 none) (.ret (R x0))) : FnG P w K mg base "total" (k + 1) Rs C R := by
  obtain ⟨fd, F⟩ := T.fn ⟨a_total, "total", "total", s_total⟩ (List.mem_of_getElem? (i := 8) rfl)
  exact fn_mk F sc_total (T.refs "total" a_total (by decide +kernel)) (F.binds (ps := p_total) fun _ _ _ _ _ _ us hl => match us, hl with | [_], _ => rfl) hl (by decide) body
abbrev N_product : List Str := ["ones", "found", "one"]
abbrev p_product : List Str := ["ones"]
theorem sc_product : FnScope N_product p_product (defScope s_product) := ⟨rfl, rfl, rfl, by decide +kernel, rfl, by decide +kernel, by decide +kernel⟩
theorem mk_product (T : Tx K mg) (k : Nat) (hl : ∀ x0, (Rs x0).length = 1) (body : ∀ (cdv : Value) (A : Around) (outer : List Env) (s : Shared) (H : Hp) (E : XK) (x0 : α), C x0 → Room k (cx P w K mg base N_product "product" s_product a_product cdv A outer s H E).A → XSs (cx P w K mg base N_product "product" s_product a_product cdv A outer s H E) (defBody s_product) ((Rs x0).map some ++ List.replicate 2 none) (.ret (R x0))) : FnG P w K mg base "product" (k + 1) Rs C R := by
  obtain ⟨fd, F⟩ := T.fn ⟨a_product, "product", "product", s_product⟩ (List.mem_of_getElem? (i := 9) rfl)
  exact fn_mk F sc_product (T.refs "product" a_product (by decide +kernel)) (F.binds (ps := p_product) fun _ _ _ _ _ _ us hl => match us, hl with | [_], _ => rfl) hl (by decide) body
abbrev N_power : List Str := ["one", "many", "top", "bottom", "turn"]
abbrev p_power : List Str := ["one", "many"]
theorem sc_power : FnScope N_power p_power (defScope s_power) := ⟨rfl, rfl, rfl, by decide +kernel, rfl, by decide +kernel, by decide +kernel⟩
theorem mk_power (T : Tx K mg) (k : Nat) (hl : ∀ x0, (Rs x0).length = 2) (body : ∀ (cdv : Value) (A : Around) (outer : List Env) (s : Shared) (H : Hp) (E : XK) (x0 : α), C x0 → Room k (cx P w K mg base N_power "power" s_power a_power cdv A outer s H E).A → XSs (cx P w K mg base N_power "power" s_power a_power cdv A outer s H E) (defBody s_power) ((Rs x0).map some ++ List.replicate 3 none) (.ret (R x0))) : FnG P w K mg base "power" (k + 1) Rs C R := by
  obtain ⟨fd, F⟩ := T.fn ⟨a_power, "power", "power", s_power⟩ (List.mem_of_getElem? (i := 10) rfl)
  exact fn_mk F sc_power (T.refs "power" a_power (by decide +kernel)) (F.binds (ps := p_power) fun _ _ _ _ _ _ us hl => match us, hl with | [_, _], _ => rfl) hl (by decide) body
abbrev N_scaled : List Str := ["row", "pivot", "one"]
abbrev p_scaled : List Str := ["row", "pivot"]
theorem sc_scaled : FnScope N_scaled p_scaled (defScope s_scaled) := ⟨rfl, rfl, rfl, by decide +kernel, rfl, by decide +kernel, by decide +kernel⟩
theorem mk_scaled (T : Tx K mg) (k : Nat) (hl : ∀ x0, (Rs x0).length = 2) (body : ∀ (cdv : Value) (A : Around) (outer : List Env) (s : Shared) (H : Hp) (E : XK) (x0 : α), C x0 → Room k (cx P w K mg base N_scaled "scaled" s_scaled a_scaled cdv A outer s H E).A → XSs (cx P w K mg base N_scaled "scaled" s_scaled a_scaled cdv A outer s H E) (defBody s_scaled) ((Rs x0).map some ++ List.replicate 1 none) (.ret (R x0))) : FnG P w K mg base "scaled" (k + 1) Rs C R := by
  obtain ⟨fd, F⟩ := T.fn ⟨a_scaled, "scaled", "scaled", s_scaled⟩ (List.mem_of_getElem? (i := 11) rfl)
  exact fn_mk F sc_scaled (T.refs "scaled" a_scaled (by decide +kernel)) (F.binds (ps := p_scaled) fun _ _ _ _ _ _ us hl => match us, hl with | [_, _], _ => rfl) hl (by decide) body
abbrev N_taken : List Str := ["row", "lead", "factor", "one", "other"]
abbrev p_taken : List Str := ["row", "lead", "factor"]
theorem sc_taken : FnScope N_taken p_taken (defScope s_taken) := ⟨rfl, rfl, rfl, by decide +kernel, rfl, by decide +kernel, by decide +kernel⟩
theorem mk_taken (T : Tx K mg) (k : Nat) (hl : ∀ x0, (Rs x0).length = 3) (body : ∀ (cdv : Value) (A : Around) (outer : List Env) (s : Shared) (H : Hp) (E : XK) (x0 : α), C x0 → Room k (cx P w K mg base N_taken "taken" s_taken a_taken cdv A outer s H E).A → XSs (cx P w K mg base N_taken "taken" s_taken a_taken cdv A outer s H E) (defBody s_taken) ((Rs x0).map some ++ List.replicate 2 none) (.ret (R x0))) : FnG P w K mg base "taken" (k + 1) Rs C R := by
  obtain ⟨fd, F⟩ := T.fn ⟨a_taken, "taken", "taken", s_taken⟩ (List.mem_of_getElem? (i := 12) rfl)
  exact fn_mk F sc_taken (T.refs "taken" a_taken (by decide +kernel)) (F.binds (ps := p_taken) fun _ _ _ _ _ _ us hl => match us, hl with | [_, _, _], _ => rfl) hl (by decide) body
abbrev N_cleared : List Str := ["rows", "at", "lead", "k"]
abbrev p_cleared : List Str := ["rows", "at"]
theorem sc_cleared : FnScope N_cleared p_cleared (defScope s_cleared) := ⟨rfl, rfl, rfl, by decide +kernel, rfl, by decide +kernel, by decide +kernel⟩
theorem mk_cleared (T : Tx K mg) (k : Nat) (hl : ∀ x0, (Rs x0).length = 2) (body : ∀ (cdv : Value) (A : Around) (outer : List Env) (s : Shared) (H : Hp) (E : XK) (x0 : α), C x0 → Room k (cx P w K mg base N_cleared "cleared" s_cleared a_cleared cdv A outer s H E).A → XSs (cx P w K mg base N_cleared "cleared" s_cleared a_cleared cdv A outer s H E) (defBody s_cleared) ((Rs x0).map some ++ List.replicate 2 none) (.ret (R x0))) : FnG P w K mg base "cleared" (k + 1) Rs C R := by
  obtain ⟨fd, F⟩ := T.fn ⟨a_cleared, "cleared", "cleared", s_cleared⟩ (List.mem_of_getElem? (i := 13) rfl)
  exact fn_mk F sc_cleared (T.refs "cleared" a_cleared (by decide +kernel)) (F.binds (ps := p_cleared) fun _ _ _ _ _ _ us hl => match us, hl with | [_, _], _ => rfl) hl (by decide) body
abbrev N_solved : List Str := ["rows", "sides", "wide", "at", "row", "side"]
abbrev p_solved : List Str := ["rows", "sides"]
theorem sc_solved : FnScope N_solved p_solved (defScope s_solved) := ⟨rfl, rfl, rfl, by decide +kernel, rfl, by decide +kernel, by decide +kernel⟩
theorem mk_solved (T : Tx K mg) (k : Nat) (hl : ∀ x0, (Rs x0).length = 2) (body : ∀ (cdv : Value) (A : Around) (outer : List Env) (s : Shared) (H : Hp) (E : XK) (x0 : α), C x0 → Room k (cx P w K mg base N_solved "solved" s_solved a_solved cdv A outer s H E).A → XSs (cx P w K mg base N_solved "solved" s_solved a_solved cdv A outer s H E) (defBody s_solved) ((Rs x0).map some ++ List.replicate 4 none) (.ret (R x0))) : FnG P w K mg base "solved" (k + 1) Rs C R := by
  obtain ⟨fd, F⟩ := T.fn ⟨a_solved, "solved", "solved", s_solved⟩ (List.mem_of_getElem? (i := 14) rfl)
  exact fn_mk F sc_solved (T.refs "solved" a_solved (by decide +kernel)) (F.binds (ps := p_solved) fun _ _ _ _ _ _ us hl => match us, hl with | [_, _], _ => rfl) hl (by decide) body
abbrev N_Net_init : List Str := ["self", "stations", "groups", "places", "place"]
abbrev p_Net_init : List Str := ["self", "stations", "groups"]
theorem sc_Net_init : FnScope N_Net_init p_Net_init (defScope s_Net_init) := ⟨rfl, rfl, rfl, by decide +kernel, rfl, by decide +kernel, by decide +kernel⟩
theorem mk_Net_init (T : Tx K mg) (k : Nat) (hl : ∀ x0, (Rs x0).length = 3) (body : ∀ (cdv : Value) (A : Around) (outer : List Env) (s : Shared) (H : Hp) (E : XK) (x0 : α), C x0 → Room k (cx P w K mg base N_Net_init "Net.__init__" s_Net_init a_Net_init cdv A outer s H E).A → XSs (cx P w K mg base N_Net_init "Net.__init__" s_Net_init a_Net_init cdv A outer s H E) (defBody s_Net_init) ((Rs x0).map some ++ List.replicate 2 none) (.ret (R x0))) : FnM P w K mg base a_Net "__init__" (k + 1) Rs C R := by
  obtain ⟨fd, F⟩ := T.fn ⟨a_Net_init, "__init__", "Net.__init__", s_Net_init⟩ (List.mem_of_getElem? (i := 15) rfl)
  exact fm_mk F sc_Net_init (T.ms ("__init__", a_Net_init) (by decide +kernel)) (F.binds (ps := p_Net_init) fun _ _ _ _ _ _ us hl => match us, hl with | [_, _, _], _ => rfl) hl (by decide) body
abbrev N_Net_has_station : List Str := ["self", "station"]
abbrev p_Net_has_station : List Str := ["self", "station"]
theorem sc_Net_has_station : FnScope N_Net_has_station p_Net_has_station (defScope s_Net_has_station) := ⟨rfl, rfl, rfl, by decide +kernel, rfl, by decide +kernel, by decide +kernel⟩
theorem mk_Net_has_station (T : Tx K mg) (k : Nat) (hl : ∀ x0, (Rs x0).length = 2) (body : ∀ (cdv : Value) (A : Around) (outer : List Env) (s : Shared) (H : Hp) (E : XK) (x0 : α), C x0 → Room k (cx P w K mg base N_Net_has_station "Net.has_station" s_Net_has_station a_Net_has_station cdv A outer s H E).A → XSs (cx P w K mg base N_Net_has_station "Net.has_station" s_Net_has_station a_Net_has_station cdv A outer s H E) (defBody s_Net_has_station) ((Rs x0).map some ++ List.replicate 0 none) (.ret (R x0))) : FnM P w K mg base a_Net "has_station" (k + 1) Rs C R := by
  obtain ⟨fd, F⟩ := T.fn ⟨a_Net_has_station, "has_station", "Net.has_station", s_Net_has_station⟩ (List.mem_of_getElem? (i := 16) rfl)
  exact fm_mk F sc_Net_has_station (T.ms ("has_station", a_Net_has_station) (by decide +kernel)) (F.binds (ps := p_Net_has_station) fun _ _ _ _ _ _ us hl => match us, hl with | [_, _], _ => rfl) hl (by decide) body
abbrev N_Net_has_place : List Str := ["self", "station", "group"]
abbrev p_Net_has_place : List Str := ["self", "station", "group"]
theorem sc_Net_has_place : FnScope N_Net_has_place p_Net_has_place (defScope s_Net_has_place) := ⟨rfl, rfl, rfl, by decide +kernel, rfl, by decide +kernel, by decide +kernel⟩
theorem mk_Net_has_place (T : Tx K mg) (k : Nat) (hl : ∀ x0, (Rs x0).length = 3) (body : ∀ (cdv : Value) (A : Around) (outer : List Env) (s : Shared) (H : Hp) (E : XK) (x0 : α), C x0 → Room k (cx P w K mg base N_Net_has_place "Net.has_place" s_Net_has_place a_Net_has_place cdv A outer s H E).A → XSs (cx P w K mg base N_Net_has_place "Net.has_place" s_Net_has_place a_Net_has_place cdv A outer s H E) (defBody s_Net_has_place) ((Rs x0).map some ++ List.replicate 0 none) (.ret (R x0))) : FnM P w K mg base a_Net "has_place" (k + 1) Rs C R := by
  obtain ⟨fd, F⟩ := T.fn ⟨a_Net_has_place, "has_place", "Net.has_place", s_Net_has_place⟩ (List.mem_of_getElem? (i := 17) rfl)
  exact fm_mk F sc_Net_has_place (T.ms ("has_place", a_Net_has_place) (by decide +kernel)) (F.binds (ps := p_Net_has_place) fun _ _ _ _ _ _ us hl => match us, hl with | [_, _, _], _ => rfl) hl (by decide) body
abbrev N_Net_place_at : List Str := ["self", "station", "group"]
abbrev p_Net_place_at : List Str := ["self", "station", "group"]
theorem sc_Net_place_at : FnScope N_Net_place_at p_Net_place_at (defScope s_Net_place_at) := ⟨rfl, rfl, rfl, by decide +kernel, rfl, by decide +kernel, by decide +kernel⟩
theorem mk_Net_place_at (T : Tx K mg) (k : Nat) (hl : ∀ x0, (Rs x0).length = 3) (body : ∀ (cdv : Value) (A : Around) (outer : List Env) (s : Shared) (H : Hp) (E : XK) (x0 : α), C x0 → Room k (cx P w K mg base N_Net_place_at "Net.place_at" s_Net_place_at a_Net_place_at cdv A outer s H E).A → XSs (cx P w K mg base N_Net_place_at "Net.place_at" s_Net_place_at a_Net_place_at cdv A outer s H E) (defBody s_Net_place_at) ((Rs x0).map some ++ List.replicate 0 none) (.ret (R x0))) : FnM P w K mg base a_Net "place_at" (k + 1) Rs C R := by
  obtain ⟨fd, F⟩ := T.fn ⟨a_Net_place_at, "place_at", "Net.place_at", s_Net_place_at⟩ (List.mem_of_getElem? (i := 18) rfl)
  exact fm_mk F sc_Net_place_at (T.ms ("place_at", a_Net_place_at) (by decide +kernel)) (F.binds (ps := p_Net_place_at) fun _ _ _ _ _ _ us hl => match us, hl with | [_, _, _], _ => rfl) hl (by decide) body
abbrev N_Net_station_of : List Str := ["self", "place"]
abbrev p_Net_station_of : List Str := ["self", "place"]
theorem sc_Net_station_of : FnScope N_Net_station_of p_Net_station_of (defScope s_Net_station_of) := ⟨rfl, rfl, rfl, by decide +kernel, rfl, by decide +kernel, by decide +kernel⟩
theorem mk_Net_station_of (T : Tx K mg) (k : Nat) (hl : ∀ x0, (Rs x0).length = 2) (body : ∀ (cdv : Value) (A : Around) (outer : List Env) (s : Shared) (H : Hp) (E : XK) (x0 : α), C x0 → Room k (cx P w K mg base N_Net_station_of "Net.station_of" s_Net_station_of a_Net_station_of cdv A outer s H E).A → XSs (cx P w K mg base N_Net_station_of "Net.station_of" s_Net_station_of a_Net_station_of cdv A outer s H E) (defBody s_Net_station_of) ((Rs x0).map some ++ List.replicate 0 none) (.ret (R x0))) : FnM P w K mg base a_Net "station_of" (k + 1) Rs C R := by
  obtain ⟨fd, F⟩ := T.fn ⟨a_Net_station_of, "station_of", "Net.station_of", s_Net_station_of⟩ (List.mem_of_getElem? (i := 19) rfl)
  exact fm_mk F sc_Net_station_of (T.ms ("station_of", a_Net_station_of) (by decide +kernel)) (F.binds (ps := p_Net_station_of) fun _ _ _ _ _ _ us hl => match us, hl with | [_, _], _ => rfl) hl (by decide) body
abbrev N_Net_places_of : List Str := ["self", "station", "group"]
abbrev p_Net_places_of : List Str := ["self", "station"]
theorem sc_Net_places_of : FnScope N_Net_places_of p_Net_places_of (defScope s_Net_places_of) := ⟨rfl, rfl, rfl, by decide +kernel, rfl, by decide +kernel, by decide +kernel⟩
theorem mk_Net_places_of (T : Tx K mg) (k : Nat) (hl : ∀ x0, (Rs x0).length = 2) (body : ∀ (cdv : Value) (A : Around) (outer : List Env) (s : Shared) (H : Hp) (E : XK) (x0 : α), C x0 → Room k (cx P w K mg base N_Net_places_of "Net.places_of" s_Net_places_of a_Net_places_of cdv A outer s H E).A → XSs (cx P w K mg base N_Net_places_of "Net.places_of" s_Net_places_of a_Net_places_of cdv A outer s H E) (defBody s_Net_places_of) ((Rs x0).map some ++ List.replicate 1 none) (.ret (R x0))) : FnM P w K mg base a_Net "places_of" (k + 1) Rs C R := by
  obtain ⟨fd, F⟩ := T.fn ⟨a_Net_places_of, "places_of", "Net.places_of", s_Net_places_of⟩ (List.mem_of_getElem? (i := 20) rfl)
  exact fm_mk F sc_Net_places_of (T.ms ("places_of", a_Net_places_of) (by decide +kernel)) (F.binds (ps := p_Net_places_of) fun _ _ _ _ _ _ us hl => match us, hl with | [_, _], _ => rfl) hl (by decide) body
abbrev N_Net_place_count : List Str := ["self"]
abbrev p_Net_place_count : List Str := ["self"]
theorem sc_Net_place_count : FnScope N_Net_place_count p_Net_place_count (defScope s_Net_place_count) := ⟨rfl, rfl, rfl, by decide +kernel, rfl, by decide +kernel, by decide +kernel⟩
theorem mk_Net_place_count (T : Tx K mg) (k : Nat) (hl : ∀ x0, (Rs x0).length = 1) (body : ∀ (cdv : Value) (A : Around) (outer : List Env) (s : Shared) (H : Hp) (E : XK) (x0 : α), C x0 → Room k (cx P w K mg base N_Net_place_count "Net.place_count" s_Net_place_count a_Net_place_count cdv A outer s H E).A → XSs (cx P w K mg base N_Net_place_count "Net.place_count" s_Net_place_count a_Net_place_count cdv A outer s H E) (defBody s_Net_place_count) ((Rs x0).map some ++ List.replicate 0 none) (.ret (R x0))) : FnM P w K mg base a_Net "place_count" (k + 1) Rs C R := by
  obtain ⟨fd, F⟩ := T.fn ⟨a_Net_place_count, "place_count", "Net.place_count", s_Net_place_count⟩ (List.mem_of_getElem? (i := 21) rfl)
  exact fm_mk F sc_Net_place_count (T.ms ("place_count", a_Net_place_count) (by decide +kernel)) (F.binds (ps := p_Net_place_count) fun _ _ _ _ _ _ us hl => match us, hl with | [_], _ => rfl) hl (by decide) body
abbrev N_Net_set_kind : List Str := ["self", "station", "kind", "servers"]
abbrev p_Net_set_kind : List Str := ["self", "station", "kind", "servers"]
theorem sc_Net_set_kind : FnScope N_Net_set_kind p_Net_set_kind (defScope s_Net_set_kind) := ⟨rfl, rfl, rfl, by decide +kernel, rfl, by decide +kernel, by decide +kernel⟩
theorem mk_Net_set_kind (T : Tx K mg) (k : Nat) (hl : ∀ x0, (Rs x0).length = 4) (body : ∀ (cdv : Value) (A : Around) (outer : List Env) (s : Shared) (H : Hp) (E : XK) (x0 : α), C x0 → Room k (cx P w K mg base N_Net_set_kind "Net.set_kind" s_Net_set_kind a_Net_set_kind cdv A outer s H E).A → XSs (cx P w K mg base N_Net_set_kind "Net.set_kind" s_Net_set_kind a_Net_set_kind cdv A outer s H E) (defBody s_Net_set_kind) ((Rs x0).map some ++ List.replicate 0 none) (.ret (R x0))) : FnM P w K mg base a_Net "set_kind" (k + 1) Rs C R := by
  obtain ⟨fd, F⟩ := T.fn ⟨a_Net_set_kind, "set_kind", "Net.set_kind", s_Net_set_kind⟩ (List.mem_of_getElem? (i := 22) rfl)
  exact fm_mk F sc_Net_set_kind (T.ms ("set_kind", a_Net_set_kind) (by decide +kernel)) (F.binds (ps := p_Net_set_kind) fun _ _ _ _ _ _ us hl => match us, hl with | [_, _, _, _], _ => rfl) hl (by decide) body
abbrev N_Net_set_services : List Str := ["self", "station", "service", "place"]
abbrev p_Net_set_services : List Str := ["self", "station", "service"]
theorem sc_Net_set_services : FnScope N_Net_set_services p_Net_set_services (defScope s_Net_set_services) := ⟨rfl, rfl, rfl, by decide +kernel, rfl, by decide +kernel, by decide +kernel⟩
theorem mk_Net_set_services (T : Tx K mg) (k : Nat) (hl : ∀ x0, (Rs x0).length = 3) (body : ∀ (cdv : Value) (A : Around) (outer : List Env) (s : Shared) (H : Hp) (E : XK) (x0 : α), C x0 → Room k (cx P w K mg base N_Net_set_services "Net.set_services" s_Net_set_services a_Net_set_services cdv A outer s H E).A → XSs (cx P w K mg base N_Net_set_services "Net.set_services" s_Net_set_services a_Net_set_services cdv A outer s H E) (defBody s_Net_set_services) ((Rs x0).map some ++ List.replicate 1 none) (.ret (R x0))) : FnM P w K mg base a_Net "set_services" (k + 1) Rs C R := by
  obtain ⟨fd, F⟩ := T.fn ⟨a_Net_set_services, "set_services", "Net.set_services", s_Net_set_services⟩ (List.mem_of_getElem? (i := 23) rfl)
  exact fm_mk F sc_Net_set_services (T.ms ("set_services", a_Net_set_services) (by decide +kernel)) (F.binds (ps := p_Net_set_services) fun _ _ _ _ _ _ us hl => match us, hl with | [_, _, _], _ => rfl) hl (by decide) body
abbrev N_Net_set_service : List Str := ["self", "station", "group", "service"]
abbrev p_Net_set_service : List Str := ["self", "station", "group", "service"]
theorem sc_Net_set_service : FnScope N_Net_set_service p_Net_set_service (defScope s_Net_set_service) := ⟨rfl, rfl, rfl, by decide +kernel, rfl, by decide +kernel, by decide +kernel⟩
theorem mk_Net_set_service (T : Tx K mg) (k : Nat) (hl : ∀ x0, (Rs x0).length = 4) (body : ∀ (cdv : Value) (A : Around) (outer : List Env) (s : Shared) (H : Hp) (E : XK) (x0 : α), C x0 → Room k (cx P w K mg base N_Net_set_service "Net.set_service" s_Net_set_service a_Net_set_service cdv A outer s H E).A → XSs (cx P w K mg base N_Net_set_service "Net.set_service" s_Net_set_service a_Net_set_service cdv A outer s H E) (defBody s_Net_set_service) ((Rs x0).map some ++ List.replicate 0 none) (.ret (R x0))) : FnM P w K mg base a_Net "set_service" (k + 1) Rs C R := by
  obtain ⟨fd, F⟩ := T.fn ⟨a_Net_set_service, "set_service", "Net.set_service", s_Net_set_service⟩ (List.mem_of_getElem? (i := 24) rfl)
  exact fm_mk F sc_Net_set_service (T.ms ("set_service", a_Net_set_service) (by decide +kernel)) (F.binds (ps := p_Net_set_service) fun _ _ _ _ _ _ us hl => match us, hl with | [_, _, _, _], _ => rfl) hl (by decide) body
abbrev N_Net_clear : List Str := ["self", "place"]
abbrev p_Net_clear : List Str := ["self", "place"]
theorem sc_Net_clear : FnScope N_Net_clear p_Net_clear (defScope s_Net_clear) := ⟨rfl, rfl, rfl, by decide +kernel, rfl, by decide +kernel, by decide +kernel⟩
theorem mk_Net_clear (T : Tx K mg) (k : Nat) (hl : ∀ x0, (Rs x0).length = 2) (body : ∀ (cdv : Value) (A : Around) (outer : List Env) (s : Shared) (H : Hp) (E : XK) (x0 : α), C x0 → Room k (cx P w K mg base N_Net_clear "Net.clear" s_Net_clear a_Net_clear cdv A outer s H E).A → XSs (cx P w K mg base N_Net_clear "Net.clear" s_Net_clear a_Net_clear cdv A outer s H E) (defBody s_Net_clear) ((Rs x0).map some ++ List.replicate 0 none) (.ret (R x0))) : FnM P w K mg base a_Net "clear" (k + 1) Rs C R := by
  obtain ⟨fd, F⟩ := T.fn ⟨a_Net_clear, "clear", "Net.clear", s_Net_clear⟩ (List.mem_of_getElem? (i := 25) rfl)
  exact fm_mk F sc_Net_clear (T.ms ("clear", a_Net_clear) (by decide +kernel)) (F.binds (ps := p_Net_clear) fun _ _ _ _ _ _ us hl => match us, hl with | [_, _], _ => rfl) hl (by decide) body
abbrev N_weight_sum : List Str := ["net", "place"]
abbrev p_weight_sum : List Str := ["net", "place"]
theorem sc_weight_sum : FnScope N_weight_sum p_weight_sum (defScope s_weight_sum) := ⟨rfl, rfl, rfl, by decide +kernel, rfl, by decide +kernel, by decide +kernel⟩
theorem mk_weight_sum (T : Tx K mg) (k : Nat) (hl : ∀ x0, (Rs x0).length = 2) (body : ∀ (cdv : Value) (A : Around) (outer : List Env) (s : Shared) (H : Hp) (E : XK) (x0 : α), C x0 → Room k (cx P w K mg base N_weight_sum "weight_sum" s_weight_sum a_weight_sum cdv A outer s H E).A → XSs (cx P w K mg base N_weight_sum "weight_sum" s_weight_sum a_weight_sum cdv A outer s H E) (defBody s_weight_sum) ((Rs x0).map some ++ List.replicate 0 none) (.ret (R x0))) : FnG P w K mg base "weight_sum" (k + 1) Rs C R := by
  obtain ⟨fd, F⟩ := T.fn ⟨a_weight_sum, "weight_sum", "weight_sum", s_weight_sum⟩ (List.mem_of_getElem? (i := 26) rfl)
  exact fn_mk F sc_weight_sum (T.refs "weight_sum" a_weight_sum (by decide +kernel)) (F.binds (ps := p_weight_sum) fun _ _ _ _ _ _ us hl => match us, hl with | [_, _], _ => rfl) hl (by decide) body
abbrev N_move_chance : List Str := ["net", "place", "other", "weights"]
abbrev p_move_chance : List Str := ["net", "place", "other"]
theorem sc_move_chance : FnScope N_move_chance p_move_chance (defScope s_move_chance) := ⟨rfl, rfl, rfl, by decide +kernel, rfl, by decide +kernel, by decide +kernel⟩
theorem mk_move_chance (T : Tx K mg) (k : Nat) (hl : ∀ x0, (Rs x0).length = 3) (body : ∀ (cdv : Value) (A : Around) (outer : List Env) (s : Shared) (H : Hp) (E : XK) (x0 : α), C x0 → Room k (cx P w K mg base N_move_chance "move_chance" s_move_chance a_move_chance cdv A outer s H E).A → XSs (cx P w K mg base N_move_chance "move_chance" s_move_chance a_move_chance cdv A outer s H E) (defBody s_move_chance) ((Rs x0).map some ++ List.replicate 1 none) (.ret (R x0))) : FnG P w K mg base "move_chance" (k + 1) Rs C R := by
  obtain ⟨fd, F⟩ := T.fn ⟨a_move_chance, "move_chance", "move_chance", s_move_chance⟩ (List.mem_of_getElem? (i := 27) rfl)
  exact fn_mk F sc_move_chance (T.refs "move_chance" a_move_chance (by decide +kernel)) (F.binds (ps := p_move_chance) fun _ _ _ _ _ _ us hl => match us, hl with | [_, _, _], _ => rfl) hl (by decide) body
abbrev N_leave_chance : List Str := ["net", "place", "weights"]
abbrev p_leave_chance : List Str := ["net", "place"]
theorem sc_leave_chance : FnScope N_leave_chance p_leave_chance (defScope s_leave_chance) := ⟨rfl, rfl, rfl, by decide +kernel, rfl, by decide +kernel, by decide +kernel⟩
theorem mk_leave_chance (T : Tx K mg) (k : Nat) (hl : ∀ x0, (Rs x0).length = 2) (body : ∀ (cdv : Value) (A : Around) (outer : List Env) (s : Shared) (H : Hp) (E : XK) (x0 : α), C x0 → Room k (cx P w K mg base N_leave_chance "leave_chance" s_leave_chance a_leave_chance cdv A outer s H E).A → XSs (cx P w K mg base N_leave_chance "leave_chance" s_leave_chance a_leave_chance cdv A outer s H E) (defBody s_leave_chance) ((Rs x0).map some ++ List.replicate 1 none) (.ret (R x0))) : FnG P w K mg base "leave_chance" (k + 1) Rs C R := by
  obtain ⟨fd, F⟩ := T.fn ⟨a_leave_chance, "leave_chance", "leave_chance", s_leave_chance⟩ (List.mem_of_getElem? (i := 28) rfl)
  exact fn_mk F sc_leave_chance (T.refs "leave_chance" a_leave_chance (by decide +kernel)) (F.binds (ps := p_leave_chance) fun _ _ _ _ _ _ us hl => match us, hl with | [_, _], _ => rfl) hl (by decide) body
abbrev N_leaves : List Str := ["net", "place"]
abbrev p_leaves : List Str := ["net", "place"]
theorem sc_leaves : FnScope N_leaves p_leaves (defScope s_leaves) := ⟨rfl, rfl, rfl, by decide +kernel, rfl, by decide +kernel, by decide +kernel⟩
theorem mk_leaves (T : Tx K mg) (k : Nat) (hl : ∀ x0, (Rs x0).length = 2) (body : ∀ (cdv : Value) (A : Around) (outer : List Env) (s : Shared) (H : Hp) (E : XK) (x0 : α), C x0 → Room k (cx P w K mg base N_leaves "leaves" s_leaves a_leaves cdv A outer s H E).A → XSs (cx P w K mg base N_leaves "leaves" s_leaves a_leaves cdv A outer s H E) (defBody s_leaves) ((Rs x0).map some ++ List.replicate 0 none) (.ret (R x0))) : FnG P w K mg base "leaves" (k + 1) Rs C R := by
  obtain ⟨fd, F⟩ := T.fn ⟨a_leaves, "leaves", "leaves", s_leaves⟩ (List.mem_of_getElem? (i := 29) rfl)
  exact fn_mk F sc_leaves (T.refs "leaves" a_leaves (by decide +kernel)) (F.binds (ps := p_leaves) fun _ _ _ _ _ _ us hl => match us, hl with | [_, _], _ => rfl) hl (by decide) body
abbrev N_goes_on : List Str := ["net", "place", "goods", "other"]
abbrev p_goes_on : List Str := ["net", "place", "goods"]
theorem sc_goes_on : FnScope N_goes_on p_goes_on (defScope s_goes_on) := ⟨rfl, rfl, rfl, by decide +kernel, rfl, by decide +kernel, by decide +kernel⟩
theorem mk_goes_on (T : Tx K mg) (k : Nat) (hl : ∀ x0, (Rs x0).length = 3) (body : ∀ (cdv : Value) (A : Around) (outer : List Env) (s : Shared) (H : Hp) (E : XK) (x0 : α), C x0 → Room k (cx P w K mg base N_goes_on "goes_on" s_goes_on a_goes_on cdv A outer s H E).A → XSs (cx P w K mg base N_goes_on "goes_on" s_goes_on a_goes_on cdv A outer s H E) (defBody s_goes_on) ((Rs x0).map some ++ List.replicate 1 none) (.ret (R x0))) : FnG P w K mg base "goes_on" (k + 1) Rs C R := by
  obtain ⟨fd, F⟩ := T.fn ⟨a_goes_on, "goes_on", "goes_on", s_goes_on⟩ (List.mem_of_getElem? (i := 30) rfl)
  exact fn_mk F sc_goes_on (T.refs "goes_on" a_goes_on (by decide +kernel)) (F.binds (ps := p_goes_on) fun _ _ _ _ _ _ us hl => match us, hl with | [_, _, _], _ => rfl) hl (by decide) body
abbrev N_further : List Str := ["net", "goods", "place"]
abbrev p_further : List Str := ["net", "goods"]
theorem sc_further : FnScope N_further p_further (defScope s_further) := ⟨rfl, rfl, rfl, by decide +kernel, rfl, by decide +kernel, by decide +kernel⟩
theorem mk_further (T : Tx K mg) (k : Nat) (hl : ∀ x0, (Rs x0).length = 2) (body : ∀ (cdv : Value) (A : Around) (outer : List Env) (s : Shared) (H : Hp) (E : XK) (x0 : α), C x0 → Room k (cx P w K mg base N_further "further" s_further a_further cdv A outer s H E).A → XSs (cx P w K mg base N_further "further" s_further a_further cdv A outer s H E) (defBody s_further) ((Rs x0).map some ++ List.replicate 1 none) (.ret (R x0))) : FnG P w K mg base "further" (k + 1) Rs C R := by
  obtain ⟨fd, F⟩ := T.fn ⟨a_further, "further", "further", s_further⟩ (List.mem_of_getElem? (i := 31) rfl)
  exact fn_mk F sc_further (T.refs "further" a_further (by decide +kernel)) (F.binds (ps := p_further) fun _ _ _ _ _ _ us hl => match us, hl with | [_, _], _ => rfl) hl (by decide) body
abbrev N_is_open : List Str := ["net", "many", "goods", "turn", "place"]
abbrev p_is_open : List Str := ["net"]
theorem sc_is_open : FnScope N_is_open p_is_open (defScope s_is_open) := ⟨rfl, rfl, rfl, by decide +kernel, rfl, by decide +kernel, by decide +kernel⟩
theorem mk_is_open (T : Tx K mg) (k : Nat) (hl : ∀ x0, (Rs x0).length = 1) (body : ∀ (cdv : Value) (A : Around) (outer : List Env) (s : Shared) (H : Hp) (E : XK) (x0 : α), C x0 → Room k (cx P w K mg base N_is_open "is_open" s_is_open a_is_open cdv A outer s H E).A → XSs (cx P w K mg base N_is_open "is_open" s_is_open a_is_open cdv A outer s H E) (defBody s_is_open) ((Rs x0).map some ++ List.replicate 4 none) (.ret (R x0))) : FnG P w K mg base "is_open" (k + 1) Rs C R := by
  obtain ⟨fd, F⟩ := T.fn ⟨a_is_open, "is_open", "is_open", s_is_open⟩ (List.mem_of_getElem? (i := 32) rfl)
  exact fn_mk F sc_is_open (T.refs "is_open" a_is_open (by decide +kernel)) (F.binds (ps := p_is_open) fun _ _ _ _ _ _ us hl => match us, hl with | [_], _ => rfl) hl (by decide) body
abbrev N_part_of : List Str := ["net", "other", "place", "own"]
abbrev p_part_of : List Str := ["net", "other", "place"]
theorem sc_part_of : FnScope N_part_of p_part_of (defScope s_part_of) := ⟨rfl, rfl, rfl, by decide +kernel, rfl, by decide +kernel, by decide +kernel⟩
theorem mk_part_of (T : Tx K mg) (k : Nat) (hl : ∀ x0, (Rs x0).length = 3) (body : ∀ (cdv : Value) (A : Around) (outer : List Env) (s : Shared) (H : Hp) (E : XK) (x0 : α), C x0 → Room k (cx P w K mg base N_part_of "part_of" s_part_of a_part_of cdv A outer s H E).A → XSs (cx P w K mg base N_part_of "part_of" s_part_of a_part_of cdv A outer s H E) (defBody s_part_of) ((Rs x0).map some ++ List.replicate 1 none) (.ret (R x0))) : FnG P w K mg base "part_of" (k + 1) Rs C R := by
  obtain ⟨fd, F⟩ := T.fn ⟨a_part_of, "part_of", "part_of", s_part_of⟩ (List.mem_of_getElem? (i := 33) rfl)
  exact fn_mk F sc_part_of (T.refs "part_of" a_part_of (by decide +kernel)) (F.binds (ps := p_part_of) fun _ _ _ _ _ _ us hl => match us, hl with | [_, _, _], _ => rfl) hl (by decide) body
abbrev N_equations : List Str := ["net", "many", "place", "other"]
abbrev p_equations : List Str := ["net"]
theorem sc_equations : FnScope N_equations p_equations (defScope s_equations) := ⟨rfl, rfl, rfl, by decide +kernel, rfl, by decide +kernel, by decide +kernel⟩
theorem mk_equations (T : Tx K mg) (k : Nat) (hl : ∀ x0, (Rs x0).length = 1) (body : ∀ (cdv : Value) (A : Around) (outer : List Env) (s : Shared) (H : Hp) (E : XK) (x0 : α), C x0 → Room k (cx P w K mg base N_equations "equations" s_equations a_equations cdv A outer s H E).A → XSs (cx P w K mg base N_equations "equations" s_equations a_equations cdv A outer s H E) (defBody s_equations) ((Rs x0).map some ++ List.replicate 3 none) (.ret (R x0))) : FnG P w K mg base "equations" (k + 1) Rs C R := by
  obtain ⟨fd, F⟩ := T.fn ⟨a_equations, "equations", "equations", s_equations⟩ (List.mem_of_getElem? (i := 34) rfl)
  exact fn_mk F sc_equations (T.refs "equations" a_equations (by decide +kernel)) (F.binds (ps := p_equations) fun _ _ _ _ _ _ us hl => match us, hl with | [_], _ => rfl) hl (by decide) body
abbrev N_flow : List Str := ["net", "fed"]
abbrev p_flow : List Str := ["net", "fed"]
theorem sc_flow : FnScope N_flow p_flow (defScope s_flow) := ⟨rfl, rfl, rfl, by decide +kernel, rfl, by decide +kernel, by decide +kernel⟩
theorem mk_flow (T : Tx K mg) (k : Nat) (hl : ∀ x0, (Rs x0).length = 2) (body : ∀ (cdv : Value) (A : Around) (outer : List Env) (s : Shared) (H : Hp) (E : XK) (x0 : α), C x0 → Room k (cx P w K mg base N_flow "flow" s_flow a_flow cdv A outer s H E).A → XSs (cx P w K mg base N_flow "flow" s_flow a_flow cdv A outer s H E) (defBody s_flow) ((Rs x0).map some ++ List.replicate 0 none) (.ret (R x0))) : FnG P w K mg base "flow" (k + 1) Rs C R := by
  obtain ⟨fd, F⟩ := T.fn ⟨a_flow, "flow", "flow", s_flow⟩ (List.mem_of_getElem? (i := 35) rfl)
  exact fn_mk F sc_flow (T.refs "flow" a_flow (by decide +kernel)) (F.binds (ps := p_flow) fun _ _ _ _ _ _ us hl => match us, hl with | [_, _], _ => rfl) hl (by decide) body
abbrev N_traffic : List Str := ["net", "arrival"]
abbrev p_traffic : List Str := ["net"]
theorem sc_traffic : FnScope N_traffic p_traffic (defScope s_traffic) := ⟨rfl, rfl, rfl, by decide +kernel, rfl, by decide +kernel, by decide +kernel⟩
theorem mk_traffic (T : Tx K mg) (k : Nat) (hl : ∀ x0, (Rs x0).length = 1) (body : ∀ (cdv : Value) (A : Around) (outer : List Env) (s : Shared) (H : Hp) (E : XK) (x0 : α), C x0 → Room k (cx P w K mg base N_traffic "traffic" s_traffic a_traffic cdv A outer s H E).A → XSs (cx P w K mg base N_traffic "traffic" s_traffic a_traffic cdv A outer s H E) (defBody s_traffic) ((Rs x0).map some ++ List.replicate 1 none) (.ret (R x0))) : FnG P w K mg base "traffic" (k + 1) Rs C R := by
  obtain ⟨fd, F⟩ := T.fn ⟨a_traffic, "traffic", "traffic", s_traffic⟩ (List.mem_of_getElem? (i := 36) rfl)
  exact fn_mk F sc_traffic (T.refs "traffic" a_traffic (by decide +kernel)) (F.binds (ps := p_traffic) fun _ _ _ _ _ _ us hl => match us, hl with | [_], _ => rfl) hl (by decide) body
abbrev N_visits_from : List Str := ["net", "start", "place"]
abbrev p_visits_from : List Str := ["net", "start"]
theorem sc_visits_from : FnScope N_visits_from p_visits_from (defScope s_visits_from) := ⟨rfl, rfl, rfl, by decide +kernel, rfl, by decide +kernel, by decide +kernel⟩
theorem mk_visits_from (T : Tx K mg) (k : Nat) (hl : ∀ x0, (Rs x0).length = 2) (body : ∀ (cdv : Value) (A : Around) (outer : List Env) (s : Shared) (H : Hp) (E : XK) (x0 : α), C x0 → Room k (cx P w K mg base N_visits_from "visits_from" s_visits_from a_visits_from cdv A outer s H E).A → XSs (cx P w K mg base N_visits_from "visits_from" s_visits_from a_visits_from cdv A outer s H E) (defBody s_visits_from) ((Rs x0).map some ++ List.replicate 1 none) (.ret (R x0))) : FnG P w K mg base "visits_from" (k + 1) Rs C R := by
  obtain ⟨fd, F⟩ := T.fn ⟨a_visits_from, "visits_from", "visits_from", s_visits_from⟩ (List.mem_of_getElem? (i := 37) rfl)
  exact fn_mk F sc_visits_from (T.refs "visits_from" a_visits_from (by decide +kernel)) (F.binds (ps := p_visits_from) fun _ _ _ _ _ _ us hl => match us, hl with | [_, _], _ => rfl) hl (by decide) body
abbrev N_place_load : List Str := ["net", "rates", "place"]
abbrev p_place_load : List Str := ["net", "rates", "place"]
theorem sc_place_load : FnScope N_place_load p_place_load (defScope s_place_load) := ⟨rfl, rfl, rfl, by decide +kernel, rfl, by decide +kernel, by decide +kernel⟩
theorem mk_place_load (T : Tx K mg) (k : Nat) (hl : ∀ x0, (Rs x0).length = 3) (body : ∀ (cdv : Value) (A : Around) (outer : List Env) (s : Shared) (H : Hp) (E : XK) (x0 : α), C x0 → Room k (cx P w K mg base N_place_load "place_load" s_place_load a_place_load cdv A outer s H E).A → XSs (cx P w K mg base N_place_load "place_load" s_place_load a_place_load cdv A outer s H E) (defBody s_place_load) ((Rs x0).map some ++ List.replicate 0 none) (.ret (R x0))) : FnG P w K mg base "place_load" (k + 1) Rs C R := by
  obtain ⟨fd, F⟩ := T.fn ⟨a_place_load, "place_load", "place_load", s_place_load⟩ (List.mem_of_getElem? (i := 38) rfl)
  exact fn_mk F sc_place_load (T.refs "place_load" a_place_load (by decide +kernel)) (F.binds (ps := p_place_load) fun _ _ _ _ _ _ us hl => match us, hl with | [_, _, _], _ => rfl) hl (by decide) body
abbrev N_station_load : List Str := ["net", "rates", "station", "place"]
abbrev p_station_load : List Str := ["net", "rates", "station"]
theorem sc_station_load : FnScope N_station_load p_station_load (defScope s_station_load) := ⟨rfl, rfl, rfl, by decide +kernel, rfl, by decide +kernel, by decide +kernel⟩
theorem mk_station_load (T : Tx K mg) (k : Nat) (hl : ∀ x0, (Rs x0).length = 3) (body : ∀ (cdv : Value) (A : Around) (outer : List Env) (s : Shared) (H : Hp) (E : XK) (x0 : α), C x0 → Room k (cx P w K mg base N_station_load "station_load" s_station_load a_station_load cdv A outer s H E).A → XSs (cx P w K mg base N_station_load "station_load" s_station_load a_station_load cdv A outer s H E) (defBody s_station_load) ((Rs x0).map some ++ List.replicate 1 none) (.ret (R x0))) : FnG P w K mg base "station_load" (k + 1) Rs C R := by
  obtain ⟨fd, F⟩ := T.fn ⟨a_station_load, "station_load", "station_load", s_station_load⟩ (List.mem_of_getElem? (i := 39) rfl)
  exact fn_mk F sc_station_load (T.refs "station_load" a_station_load (by decide +kernel)) (F.binds (ps := p_station_load) fun _ _ _ _ _ _ us hl => match us, hl with | [_, _, _], _ => rfl) hl (by decide) body
abbrev N_station_rate : List Str := ["net", "rates", "station", "place"]
abbrev p_station_rate : List Str := ["net", "rates", "station"]
theorem sc_station_rate : FnScope N_station_rate p_station_rate (defScope s_station_rate) := ⟨rfl, rfl, rfl, by decide +kernel, rfl, by decide +kernel, by decide +kernel⟩
theorem mk_station_rate (T : Tx K mg) (k : Nat) (hl : ∀ x0, (Rs x0).length = 3) (body : ∀ (cdv : Value) (A : Around) (outer : List Env) (s : Shared) (H : Hp) (E : XK) (x0 : α), C x0 → Room k (cx P w K mg base N_station_rate "station_rate" s_station_rate a_station_rate cdv A outer s H E).A → XSs (cx P w K mg base N_station_rate "station_rate" s_station_rate a_station_rate cdv A outer s H E) (defBody s_station_rate) ((Rs x0).map some ++ List.replicate 1 none) (.ret (R x0))) : FnG P w K mg base "station_rate" (k + 1) Rs C R := by
  obtain ⟨fd, F⟩ := T.fn ⟨a_station_rate, "station_rate", "station_rate", s_station_rate⟩ (List.mem_of_getElem? (i := 40) rfl)
  exact fn_mk F sc_station_rate (T.refs "station_rate" a_station_rate (by decide +kernel)) (F.binds (ps := p_station_rate) fun _ _ _ _ _ _ us hl => match us, hl with | [_, _, _], _ => rfl) hl (by decide) body
abbrev N_utilization : List Str := ["net", "rates", "station"]
abbrev p_utilization : List Str := ["net", "rates", "station"]
theorem sc_utilization : FnScope N_utilization p_utilization (defScope s_utilization) := ⟨rfl, rfl, rfl, by decide +kernel, rfl, by decide +kernel, by decide +kernel⟩
theorem mk_utilization (T : Tx K mg) (k : Nat) (hl : ∀ x0, (Rs x0).length = 3) (body : ∀ (cdv : Value) (A : Around) (outer : List Env) (s : Shared) (H : Hp) (E : XK) (x0 : α), C x0 → Room k (cx P w K mg base N_utilization "utilization" s_utilization a_utilization cdv A outer s H E).A → XSs (cx P w K mg base N_utilization "utilization" s_utilization a_utilization cdv A outer s H E) (defBody s_utilization) ((Rs x0).map some ++ List.replicate 0 none) (.ret (R x0))) : FnG P w K mg base "utilization" (k + 1) Rs C R := by
  obtain ⟨fd, F⟩ := T.fn ⟨a_utilization, "utilization", "utilization", s_utilization⟩ (List.mem_of_getElem? (i := 41) rfl)
  exact fn_mk F sc_utilization (T.refs "utilization" a_utilization (by decide +kernel)) (F.binds (ps := p_utilization) fun _ _ _ _ _ _ us hl => match us, hl with | [_, _, _], _ => rfl) hl (by decide) body
abbrev N_utilizations : List Str := ["net", "rates", "station"]
abbrev p_utilizations : List Str := ["net", "rates"]
theorem sc_utilizations : FnScope N_utilizations p_utilizations (defScope s_utilizations) := ⟨rfl, rfl, rfl, by decide +kernel, rfl, by decide +kernel, by decide +kernel⟩
theorem mk_utilizations (T : Tx K mg) (k : Nat) (hl : ∀ x0, (Rs x0).length = 2) (body : ∀ (cdv : Value) (A : Around) (outer : List Env) (s : Shared) (H : Hp) (E : XK) (x0 : α), C x0 → Room k (cx P w K mg base N_utilizations "utilizations" s_utilizations a_utilizations cdv A outer s H E).A → XSs (cx P w K mg base N_utilizations "utilizations" s_utilizations a_utilizations cdv A outer s H E) (defBody s_utilizations) ((Rs x0).map some ++ List.replicate 1 none) (.ret (R x0))) : FnG P w K mg base "utilizations" (k + 1) Rs C R := by
  obtain ⟨fd, F⟩ := T.fn ⟨a_utilizations, "utilizations", "utilizations", s_utilizations⟩ (List.mem_of_getElem? (i := 42) rfl)
  exact fn_mk F sc_utilizations (T.refs "utilizations" a_utilizations (by decide +kernel)) (F.binds (ps := p_utilizations) fun _ _ _ _ _ _ us hl => match us, hl with | [_, _], _ => rfl) hl (by decide) body
abbrev N_busiest : List Str := ["ones", "best", "at"]
abbrev p_busiest : List Str := ["ones"]
theorem sc_busiest : FnScope N_busiest p_busiest (defScope s_busiest) := ⟨rfl, rfl, rfl, by decide +kernel, rfl, by decide +kernel, by decide +kernel⟩
theorem mk_busiest (T : Tx K mg) (k : Nat) (hl : ∀ x0, (Rs x0).length = 1) (body : ∀ (cdv : Value) (A : Around) (outer : List Env) (s : Shared) (H : Hp) (E : XK) (x0 : α), C x0 → Room k (cx P w K mg base N_busiest "busiest" s_busiest a_busiest cdv A outer s H E).A → XSs (cx P w K mg base N_busiest "busiest" s_busiest a_busiest cdv A outer s H E) (defBody s_busiest) ((Rs x0).map some ++ List.replicate 2 none) (.ret (R x0))) : FnG P w K mg base "busiest" (k + 1) Rs C R := by
  obtain ⟨fd, F⟩ := T.fn ⟨a_busiest, "busiest", "busiest", s_busiest⟩ (List.mem_of_getElem? (i := 43) rfl)
  exact fn_mk F sc_busiest (T.refs "busiest" a_busiest (by decide +kernel)) (F.binds (ps := p_busiest) fun _ _ _ _ _ _ us hl => match us, hl with | [_], _ => rfl) hl (by decide) body
abbrev N_stable_rates : List Str := ["net", "rates", "one"]
abbrev p_stable_rates : List Str := ["net"]
theorem sc_stable_rates : FnScope N_stable_rates p_stable_rates (defScope s_stable_rates) := ⟨rfl, rfl, rfl, by decide +kernel, rfl, by decide +kernel, by decide +kernel⟩
theorem mk_stable_rates (T : Tx K mg) (k : Nat) (hl : ∀ x0, (Rs x0).length = 1) (body : ∀ (cdv : Value) (A : Around) (outer : List Env) (s : Shared) (H : Hp) (E : XK) (x0 : α), C x0 → Room k (cx P w K mg base N_stable_rates "stable_rates" s_stable_rates a_stable_rates cdv A outer s H E).A → XSs (cx P w K mg base N_stable_rates "stable_rates" s_stable_rates a_stable_rates cdv A outer s H E) (defBody s_stable_rates) ((Rs x0).map some ++ List.replicate 2 none) (.ret (R x0))) : FnG P w K mg base "stable_rates" (k + 1) Rs C R := by
  obtain ⟨fd, F⟩ := T.fn ⟨a_stable_rates, "stable_rates", "stable_rates", s_stable_rates⟩ (List.mem_of_getElem? (i := 44) rfl)
  exact fn_mk F sc_stable_rates (T.refs "stable_rates" a_stable_rates (by decide +kernel)) (F.binds (ps := p_stable_rates) fun _ _ _ _ _ _ us hl => match us, hl with | [_], _ => rfl) hl (by decide) body
abbrev N_departures : List Str := ["net", "rates", "place"]
abbrev p_departures : List Str := ["net", "rates"]
theorem sc_departures : FnScope N_departures p_departures (defScope s_departures) := ⟨rfl, rfl, rfl, by decide +kernel, rfl, by decide +kernel, by decide +kernel⟩
theorem mk_departures (T : Tx K mg) (k : Nat) (hl : ∀ x0, (Rs x0).length = 2) (body : ∀ (cdv : Value) (A : Around) (outer : List Env) (s : Shared) (H : Hp) (E : XK) (x0 : α), C x0 → Room k (cx P w K mg base N_departures "departures" s_departures a_departures cdv A outer s H E).A → XSs (cx P w K mg base N_departures "departures" s_departures a_departures cdv A outer s H E) (defBody s_departures) ((Rs x0).map some ++ List.replicate 1 none) (.ret (R x0))) : FnG P w K mg base "departures" (k + 1) Rs C R := by
  obtain ⟨fd, F⟩ := T.fn ⟨a_departures, "departures", "departures", s_departures⟩ (List.mem_of_getElem? (i := 45) rfl)
  exact fn_mk F sc_departures (T.refs "departures" a_departures (by decide +kernel)) (F.binds (ps := p_departures) fun _ _ _ _ _ _ us hl => match us, hl with | [_, _], _ => rfl) hl (by decide) body
abbrev N_blocked : List Str := ["load", "servers", "found", "server", "offered"]
abbrev p_blocked : List Str := ["load", "servers"]
theorem sc_blocked : FnScope N_blocked p_blocked (defScope s_blocked) := ⟨rfl, rfl, rfl, by decide +kernel, rfl, by decide +kernel, by decide +kernel⟩
theorem mk_blocked (T : Tx K mg) (k : Nat) (hl : ∀ x0, (Rs x0).length = 2) (body : ∀ (cdv : Value) (A : Around) (outer : List Env) (s : Shared) (H : Hp) (E : XK) (x0 : α), C x0 → Room k (cx P w K mg base N_blocked "blocked" s_blocked a_blocked cdv A outer s H E).A → XSs (cx P w K mg base N_blocked "blocked" s_blocked a_blocked cdv A outer s H E) (defBody s_blocked) ((Rs x0).map some ++ List.replicate 3 none) (.ret (R x0))) : FnG P w K mg base "blocked" (k + 1) Rs C R := by
  obtain ⟨fd, F⟩ := T.fn ⟨a_blocked, "blocked", "blocked", s_blocked⟩ (List.mem_of_getElem? (i := 46) rfl)
  exact fn_mk F sc_blocked (T.refs "blocked" a_blocked (by decide +kernel)) (F.binds (ps := p_blocked) fun _ _ _ _ _ _ us hl => match us, hl with | [_, _], _ => rfl) hl (by decide) body
abbrev N_waiting_chance : List Str := ["load", "servers", "use", "block"]
abbrev p_waiting_chance : List Str := ["load", "servers"]
theorem sc_waiting_chance : FnScope N_waiting_chance p_waiting_chance (defScope s_waiting_chance) := ⟨rfl, rfl, rfl, by decide +kernel, rfl, by decide +kernel, by decide +kernel⟩
theorem mk_waiting_chance (T : Tx K mg) (k : Nat) (hl : ∀ x0, (Rs x0).length = 2) (body : ∀ (cdv : Value) (A : Around) (outer : List Env) (s : Shared) (H : Hp) (E : XK) (x0 : α), C x0 → Room k (cx P w K mg base N_waiting_chance "waiting_chance" s_waiting_chance a_waiting_chance cdv A outer s H E).A → XSs (cx P w K mg base N_waiting_chance "waiting_chance" s_waiting_chance a_waiting_chance cdv A outer s H E) (defBody s_waiting_chance) ((Rs x0).map some ++ List.replicate 2 none) (.ret (R x0))) : FnG P w K mg base "waiting_chance" (k + 1) Rs C R := by
  obtain ⟨fd, F⟩ := T.fn ⟨a_waiting_chance, "waiting_chance", "waiting_chance", s_waiting_chance⟩ (List.mem_of_getElem? (i := 47) rfl)
  exact fn_mk F sc_waiting_chance (T.refs "waiting_chance" a_waiting_chance (by decide +kernel)) (F.binds (ps := p_waiting_chance) fun _ _ _ _ _ _ us hl => match us, hl with | [_, _], _ => rfl) hl (by decide) body
abbrev N_queue : List Str := ["load", "servers", "use"]
abbrev p_queue : List Str := ["load", "servers"]
theorem sc_queue : FnScope N_queue p_queue (defScope s_queue) := ⟨rfl, rfl, rfl, by decide +kernel, rfl, by decide +kernel, by decide +kernel⟩
theorem mk_queue (T : Tx K mg) (k : Nat) (hl : ∀ x0, (Rs x0).length = 2) (body : ∀ (cdv : Value) (A : Around) (outer : List Env) (s : Shared) (H : Hp) (E : XK) (x0 : α), C x0 → Room k (cx P w K mg base N_queue "queue" s_queue a_queue cdv A outer s H E).A → XSs (cx P w K mg base N_queue "queue" s_queue a_queue cdv A outer s H E) (defBody s_queue) ((Rs x0).map some ++ List.replicate 1 none) (.ret (R x0))) : FnG P w K mg base "queue" (k + 1) Rs C R := by
  obtain ⟨fd, F⟩ := T.fn ⟨a_queue, "queue", "queue", s_queue⟩ (List.mem_of_getElem? (i := 48) rfl)
  exact fn_mk F sc_queue (T.refs "queue" a_queue (by decide +kernel)) (F.binds (ps := p_queue) fun _ _ _ _ _ _ us hl => match us, hl with | [_, _], _ => rfl) hl (by decide) body
abbrev N_station_queue : List Str := ["net", "rates", "station"]
abbrev p_station_queue : List Str := ["net", "rates", "station"]
theorem sc_station_queue : FnScope N_station_queue p_station_queue (defScope s_station_queue) := ⟨rfl, rfl, rfl, by decide +kernel, rfl, by decide +kernel, by decide +kernel⟩
theorem mk_station_queue (T : Tx K mg) (k : Nat) (hl : ∀ x0, (Rs x0).length = 3) (body : ∀ (cdv : Value) (A : Around) (outer : List Env) (s : Shared) (H : Hp) (E : XK) (x0 : α), C x0 → Room k (cx P w K mg base N_station_queue "station_queue" s_station_queue a_station_queue cdv A outer s H E).A → XSs (cx P w K mg base N_station_queue "station_queue" s_station_queue a_station_queue cdv A outer s H E) (defBody s_station_queue) ((Rs x0).map some ++ List.replicate 0 none) (.ret (R x0))) : FnG P w K mg base "station_queue" (k + 1) Rs C R := by
  obtain ⟨fd, F⟩ := T.fn ⟨a_station_queue, "station_queue", "station_queue", s_station_queue⟩ (List.mem_of_getElem? (i := 49) rfl)
  exact fn_mk F sc_station_queue (T.refs "station_queue" a_station_queue (by decide +kernel)) (F.binds (ps := p_station_queue) fun _ _ _ _ _ _ us hl => match us, hl with | [_, _, _], _ => rfl) hl (by decide) body
abbrev N_unused : List Str := ["net", "rates", "station"]
abbrev p_unused : List Str := ["net", "rates", "station"]
theorem sc_unused : FnScope N_unused p_unused (defScope s_unused) := ⟨rfl, rfl, rfl, by decide +kernel, rfl, by decide +kernel, by decide +kernel⟩
theorem mk_unused (T : Tx K mg) (k : Nat) (hl : ∀ x0, (Rs x0).length = 3) (body : ∀ (cdv : Value) (A : Around) (outer : List Env) (s : Shared) (H : Hp) (E : XK) (x0 : α), C x0 → Room k (cx P w K mg base N_unused "unused" s_unused a_unused cdv A outer s H E).A → XSs (cx P w K mg base N_unused "unused" s_unused a_unused cdv A outer s H E) (defBody s_unused) ((Rs x0).map some ++ List.replicate 0 none) (.ret (R x0))) : FnG P w K mg base "unused" (k + 1) Rs C R := by
  obtain ⟨fd, F⟩ := T.fn ⟨a_unused, "unused", "unused", s_unused⟩ (List.mem_of_getElem? (i := 50) rfl)
  exact fn_mk F sc_unused (T.refs "unused" a_unused (by decide +kernel)) (F.binds (ps := p_unused) fun _ _ _ _ _ _ us hl => match us, hl with | [_, _, _], _ => rfl) hl (by decide) body
abbrev N_wait_at : List Str := ["net", "rates", "station", "rate"]
abbrev p_wait_at : List Str := ["net", "rates", "station"]
theorem sc_wait_at : FnScope N_wait_at p_wait_at (defScope s_wait_at) := ⟨rfl, rfl, rfl, by decide +kernel, rfl, by decide +kernel, by decide +kernel⟩
theorem mk_wait_at (T : Tx K mg) (k : Nat) (hl : ∀ x0, (Rs x0).length = 3) (body : ∀ (cdv : Value) (A : Around) (outer : List Env) (s : Shared) (H : Hp) (E : XK) (x0 : α), C x0 → Room k (cx P w K mg base N_wait_at "wait_at" s_wait_at a_wait_at cdv A outer s H E).A → XSs (cx P w K mg base N_wait_at "wait_at" s_wait_at a_wait_at cdv A outer s H E) (defBody s_wait_at) ((Rs x0).map some ++ List.replicate 1 none) (.ret (R x0))) : FnG P w K mg base "wait_at" (k + 1) Rs C R := by
  obtain ⟨fd, F⟩ := T.fn ⟨a_wait_at, "wait_at", "wait_at", s_wait_at⟩ (List.mem_of_getElem? (i := 51) rfl)
  exact fn_mk F sc_wait_at (T.refs "wait_at" a_wait_at (by decide +kernel)) (F.binds (ps := p_wait_at) fun _ _ _ _ _ _ us hl => match us, hl with | [_, _, _], _ => rfl) hl (by decide) body
abbrev N_number_at : List Str := ["net", "rates", "place", "station", "load"]
abbrev p_number_at : List Str := ["net", "rates", "place"]
theorem sc_number_at : FnScope N_number_at p_number_at (defScope s_number_at) := ⟨rfl, rfl, rfl, by decide +kernel, rfl, by decide +kernel, by decide +kernel⟩
theorem mk_number_at (T : Tx K mg) (k : Nat) (hl : ∀ x0, (Rs x0).length = 3) (body : ∀ (cdv : Value) (A : Around) (outer : List Env) (s : Shared) (H : Hp) (E : XK) (x0 : α), C x0 → Room k (cx P w K mg base N_number_at "number_at" s_number_at a_number_at cdv A outer s H E).A → XSs (cx P w K mg base N_number_at "number_at" s_number_at a_number_at cdv A outer s H E) (defBody s_number_at) ((Rs x0).map some ++ List.replicate 2 none) (.ret (R x0))) : FnG P w K mg base "number_at" (k + 1) Rs C R := by
  obtain ⟨fd, F⟩ := T.fn ⟨a_number_at, "number_at", "number_at", s_number_at⟩ (List.mem_of_getElem? (i := 52) rfl)
  exact fn_mk F sc_number_at (T.refs "number_at" a_number_at (by decide +kernel)) (F.binds (ps := p_number_at) fun _ _ _ _ _ _ us hl => match us, hl with | [_, _, _], _ => rfl) hl (by decide) body
abbrev N_time_at : List Str := ["net", "rates", "place", "station", "service"]
abbrev p_time_at : List Str := ["net", "rates", "place"]
theorem sc_time_at : FnScope N_time_at p_time_at (defScope s_time_at) := ⟨rfl, rfl, rfl, by decide +kernel, rfl, by decide +kernel, by decide +kernel⟩
theorem mk_time_at (T : Tx K mg) (k : Nat) (hl : ∀ x0, (Rs x0).length = 3) (body : ∀ (cdv : Value) (A : Around) (outer : List Env) (s : Shared) (H : Hp) (E : XK) (x0 : α), C x0 → Room k (cx P w K mg base N_time_at "time_at" s_time_at a_time_at cdv A outer s H E).A → XSs (cx P w K mg base N_time_at "time_at" s_time_at a_time_at cdv A outer s H E) (defBody s_time_at) ((Rs x0).map some ++ List.replicate 2 none) (.ret (R x0))) : FnG P w K mg base "time_at" (k + 1) Rs C R := by
  obtain ⟨fd, F⟩ := T.fn ⟨a_time_at, "time_at", "time_at", s_time_at⟩ (List.mem_of_getElem? (i := 53) rfl)
  exact fn_mk F sc_time_at (T.refs "time_at" a_time_at (by decide +kernel)) (F.binds (ps := p_time_at) fun _ _ _ _ _ _ us hl => match us, hl with | [_, _, _], _ => rfl) hl (by decide) body
abbrev N_station_number : List Str := ["net", "rates", "station", "place"]
abbrev p_station_number : List Str := ["net", "rates", "station"]
theorem sc_station_number : FnScope N_station_number p_station_number (defScope s_station_number) := ⟨rfl, rfl, rfl, by decide +kernel, rfl, by decide +kernel, by decide +kernel⟩
theorem mk_station_number (T : Tx K mg) (k : Nat) (hl : ∀ x0, (Rs x0).length = 3) (body : ∀ (cdv : Value) (A : Around) (outer : List Env) (s : Shared) (H : Hp) (E : XK) (x0 : α), C x0 → Room k (cx P w K mg base N_station_number "station_number" s_station_number a_station_number cdv A outer s H E).A → XSs (cx P w K mg base N_station_number "station_number" s_station_number a_station_number cdv A outer s H E) (defBody s_station_number) ((Rs x0).map some ++ List.replicate 1 none) (.ret (R x0))) : FnG P w K mg base "station_number" (k + 1) Rs C R := by
  obtain ⟨fd, F⟩ := T.fn ⟨a_station_number, "station_number", "station_number", s_station_number⟩ (List.mem_of_getElem? (i := 54) rfl)
  exact fn_mk F sc_station_number (T.refs "station_number" a_station_number (by decide +kernel)) (F.binds (ps := p_station_number) fun _ _ _ _ _ _ us hl => match us, hl with | [_, _, _], _ => rfl) hl (by decide) body
abbrev N_station_numbers : List Str := ["net", "rates", "station"]
abbrev p_station_numbers : List Str := ["net", "rates"]
theorem sc_station_numbers : FnScope N_station_numbers p_station_numbers (defScope s_station_numbers) := ⟨rfl, rfl, rfl, by decide +kernel, rfl, by decide +kernel, by decide +kernel⟩
theorem mk_station_numbers (T : Tx K mg) (k : Nat) (hl : ∀ x0, (Rs x0).length = 2) (body : ∀ (cdv : Value) (A : Around) (outer : List Env) (s : Shared) (H : Hp) (E : XK) (x0 : α), C x0 → Room k (cx P w K mg base N_station_numbers "station_numbers" s_station_numbers a_station_numbers cdv A outer s H E).A → XSs (cx P w K mg base N_station_numbers "station_numbers" s_station_numbers a_station_numbers cdv A outer s H E) (defBody s_station_numbers) ((Rs x0).map some ++ List.replicate 1 none) (.ret (R x0))) : FnG P w K mg base "station_numbers" (k + 1) Rs C R := by
  obtain ⟨fd, F⟩ := T.fn ⟨a_station_numbers, "station_numbers", "station_numbers", s_station_numbers⟩ (List.mem_of_getElem? (i := 55) rfl)
  exact fn_mk F sc_station_numbers (T.refs "station_numbers" a_station_numbers (by decide +kernel)) (F.binds (ps := p_station_numbers) fun _ _ _ _ _ _ us hl => match us, hl with | [_, _], _ => rfl) hl (by decide) body
abbrev N_time_from : List Str := ["net", "rates", "start", "visits", "place"]
abbrev p_time_from : List Str := ["net", "rates", "start"]
theorem sc_time_from : FnScope N_time_from p_time_from (defScope s_time_from) := ⟨rfl, rfl, rfl, by decide +kernel, rfl, by decide +kernel, by decide +kernel⟩
theorem mk_time_from (T : Tx K mg) (k : Nat) (hl : ∀ x0, (Rs x0).length = 3) (body : ∀ (cdv : Value) (A : Around) (outer : List Env) (s : Shared) (H : Hp) (E : XK) (x0 : α), C x0 → Room k (cx P w K mg base N_time_from "time_from" s_time_from a_time_from cdv A outer s H E).A → XSs (cx P w K mg base N_time_from "time_from" s_time_from a_time_from cdv A outer s H E) (defBody s_time_from) ((Rs x0).map some ++ List.replicate 2 none) (.ret (R x0))) : FnG P w K mg base "time_from" (k + 1) Rs C R := by
  obtain ⟨fd, F⟩ := T.fn ⟨a_time_from, "time_from", "time_from", s_time_from⟩ (List.mem_of_getElem? (i := 56) rfl)
  exact fn_mk F sc_time_from (T.refs "time_from" a_time_from (by decide +kernel)) (F.binds (ps := p_time_from) fun _ _ _ _ _ _ us hl => match us, hl with | [_, _, _], _ => rfl) hl (by decide) body
abbrev N_factorial : List Str := ["many", "found", "number"]
abbrev p_factorial : List Str := ["many"]
theorem sc_factorial : FnScope N_factorial p_factorial (defScope s_factorial) := ⟨rfl, rfl, rfl, by decide +kernel, rfl, by decide +kernel, by decide +kernel⟩
theorem mk_factorial (T : Tx K mg) (k : Nat) (hl : ∀ x0, (Rs x0).length = 1) (body : ∀ (cdv : Value) (A : Around) (outer : List Env) (s : Shared) (H : Hp) (E : XK) (x0 : α), C x0 → Room k (cx P w K mg base N_factorial "factorial" s_factorial a_factorial cdv A outer s H E).A → XSs (cx P w K mg base N_factorial "factorial" s_factorial a_factorial cdv A outer s H E) (defBody s_factorial) ((Rs x0).map some ++ List.replicate 2 none) (.ret (R x0))) : FnG P w K mg base "factorial" (k + 1) Rs C R := by
  obtain ⟨fd, F⟩ := T.fn ⟨a_factorial, "factorial", "factorial", s_factorial⟩ (List.mem_of_getElem? (i := 57) rfl)
  exact fn_mk F sc_factorial (T.refs "factorial" a_factorial (by decide +kernel)) (F.binds (ps := p_factorial) fun _ _ _ _ _ _ us hl => match us, hl with | [_], _ => rfl) hl (by decide) body
abbrev N_share : List Str := ["load", "many"]
abbrev p_share : List Str := ["load", "many"]
theorem sc_share : FnScope N_share p_share (defScope s_share) := ⟨rfl, rfl, rfl, by decide +kernel, rfl, by decide +kernel, by decide +kernel⟩
theorem mk_share (T : Tx K mg) (k : Nat) (hl : ∀ x0, (Rs x0).length = 2) (body : ∀ (cdv : Value) (A : Around) (outer : List Env) (s : Shared) (H : Hp) (E : XK) (x0 : α), C x0 → Room k (cx P w K mg base N_share "share" s_share a_share cdv A outer s H E).A → XSs (cx P w K mg base N_share "share" s_share a_share cdv A outer s H E) (defBody s_share) ((Rs x0).map some ++ List.replicate 0 none) (.ret (R x0))) : FnG P w K mg base "share" (k + 1) Rs C R := by
  obtain ⟨fd, F⟩ := T.fn ⟨a_share, "share", "share", s_share⟩ (List.mem_of_getElem? (i := 58) rfl)
  exact fn_mk F sc_share (T.refs "share" a_share (by decide +kernel)) (F.binds (ps := p_share) fun _ _ _ _ _ _ us hl => match us, hl with | [_, _], _ => rfl) hl (by decide) body
abbrev N_weight : List Str := ["load", "servers", "many", "use"]
abbrev p_weight : List Str := ["load", "servers", "many"]
theorem sc_weight : FnScope N_weight p_weight (defScope s_weight) := ⟨rfl, rfl, rfl, by decide +kernel, rfl, by decide +kernel, by decide +kernel⟩
theorem mk_weight (T : Tx K mg) (k : Nat) (hl : ∀ x0, (Rs x0).length = 3) (body : ∀ (cdv : Value) (A : Around) (outer : List Env) (s : Shared) (H : Hp) (E : XK) (x0 : α), C x0 → Room k (cx P w K mg base N_weight "weight" s_weight a_weight cdv A outer s H E).A → XSs (cx P w K mg base N_weight "weight" s_weight a_weight cdv A outer s H E) (defBody s_weight) ((Rs x0).map some ++ List.replicate 1 none) (.ret (R x0))) : FnG P w K mg base "weight" (k + 1) Rs C R := by
  obtain ⟨fd, F⟩ := T.fn ⟨a_weight, "weight", "weight", s_weight⟩ (List.mem_of_getElem? (i := 59) rfl)
  exact fn_mk F sc_weight (T.refs "weight" a_weight (by decide +kernel)) (F.binds (ps := p_weight) fun _ _ _ _ _ _ us hl => match us, hl with | [_, _, _], _ => rfl) hl (by decide) body
abbrev N_all_weights : List Str := ["load", "servers", "use", "beyond", "many"]
abbrev p_all_weights : List Str := ["load", "servers"]
theorem sc_all_weights : FnScope N_all_weights p_all_weights (defScope s_all_weights) := ⟨rfl, rfl, rfl, by decide +kernel, rfl, by decide +kernel, by decide +kernel⟩
theorem mk_all_weights (T : Tx K mg) (k : Nat) (hl : ∀ x0, (Rs x0).length = 2) (body : ∀ (cdv : Value) (A : Around) (outer : List Env) (s : Shared) (H : Hp) (E : XK) (x0 : α), C x0 → Room k (cx P w K mg base N_all_weights "all_weights" s_all_weights a_all_weights cdv A outer s H E).A → XSs (cx P w K mg base N_all_weights "all_weights" s_all_weights a_all_weights cdv A outer s H E) (defBody s_all_weights) ((Rs x0).map some ++ List.replicate 3 none) (.ret (R x0))) : FnG P w K mg base "all_weights" (k + 1) Rs C R := by
  obtain ⟨fd, F⟩ := T.fn ⟨a_all_weights, "all_weights", "all_weights", s_all_weights⟩ (List.mem_of_getElem? (i := 60) rfl)
  exact fn_mk F sc_all_weights (T.refs "all_weights" a_all_weights (by decide +kernel)) (F.binds (ps := p_all_weights) fun _ _ _ _ _ _ us hl => match us, hl with | [_, _], _ => rfl) hl (by decide) body
abbrev N_number_chance : List Str := ["net", "rates", "station", "many", "load", "servers"]
abbrev p_number_chance : List Str := ["net", "rates", "station", "many"]
theorem sc_number_chance : FnScope N_number_chance p_number_chance (defScope s_number_chance) := ⟨rfl, rfl, rfl, by decide +kernel, rfl, by decide +kernel, by decide +kernel⟩
theorem mk_number_chance (T : Tx K mg) (k : Nat) (hl : ∀ x0, (Rs x0).length = 4) (body : ∀ (cdv : Value) (A : Around) (outer : List Env) (s : Shared) (H : Hp) (E : XK) (x0 : α), C x0 → Room k (cx P w K mg base N_number_chance "number_chance" s_number_chance a_number_chance cdv A outer s H E).A → XSs (cx P w K mg base N_number_chance "number_chance" s_number_chance a_number_chance cdv A outer s H E) (defBody s_number_chance) ((Rs x0).map some ++ List.replicate 2 none) (.ret (R x0))) : FnG P w K mg base "number_chance" (k + 1) Rs C R := by
  obtain ⟨fd, F⟩ := T.fn ⟨a_number_chance, "number_chance", "number_chance", s_number_chance⟩ (List.mem_of_getElem? (i := 61) rfl)
  exact fn_mk F sc_number_chance (T.refs "number_chance" a_number_chance (by decide +kernel)) (F.binds (ps := p_number_chance) fun _ _ _ _ _ _ us hl => match us, hl with | [_, _, _, _], _ => rfl) hl (by decide) body
abbrev N_state_chance : List Str := ["net", "rates", "numbers", "station", "many"]
abbrev p_state_chance : List Str := ["net", "rates", "numbers"]
theorem sc_state_chance : FnScope N_state_chance p_state_chance (defScope s_state_chance) := ⟨rfl, rfl, rfl, by decide +kernel, rfl, by decide +kernel, by decide +kernel⟩
theorem mk_state_chance (T : Tx K mg) (k : Nat) (hl : ∀ x0, (Rs x0).length = 3) (body : ∀ (cdv : Value) (A : Around) (outer : List Env) (s : Shared) (H : Hp) (E : XK) (x0 : α), C x0 → Room k (cx P w K mg base N_state_chance "state_chance" s_state_chance a_state_chance cdv A outer s H E).A → XSs (cx P w K mg base N_state_chance "state_chance" s_state_chance a_state_chance cdv A outer s H E) (defBody s_state_chance) ((Rs x0).map some ++ List.replicate 2 none) (.ret (R x0))) : FnG P w K mg base "state_chance" (k + 1) Rs C R := by
  obtain ⟨fd, F⟩ := T.fn ⟨a_state_chance, "state_chance", "state_chance", s_state_chance⟩ (List.mem_of_getElem? (i := 62) rfl)
  exact fn_mk F sc_state_chance (T.refs "state_chance" a_state_chance (by decide +kernel)) (F.binds (ps := p_state_chance) fun _ _ _ _ _ _ us hl => match us, hl with | [_, _, _], _ => rfl) hl (by decide) body
abbrev N_single : List Str := ["one"]
abbrev p_single : List Str := ["one"]
theorem sc_single : FnScope N_single p_single (defScope s_single) := ⟨rfl, rfl, rfl, by decide +kernel, rfl, by decide +kernel, by decide +kernel⟩
theorem mk_single (T : Tx K mg) (k : Nat) (hl : ∀ x0, (Rs x0).length = 1) (body : ∀ (cdv : Value) (A : Around) (outer : List Env) (s : Shared) (H : Hp) (E : XK) (x0 : α), C x0 → Room k (cx P w K mg base N_single "single" s_single a_single cdv A outer s H E).A → XSs (cx P w K mg base N_single "single" s_single a_single cdv A outer s H E) (defBody s_single) ((Rs x0).map some ++ List.replicate 0 none) (.ret (R x0))) : FnG P w K mg base "single" (k + 1) Rs C R := by
  obtain ⟨fd, F⟩ := T.fn ⟨a_single, "single", "single", s_single⟩ (List.mem_of_getElem? (i := 63) rfl)
  exact fn_mk F sc_single (T.refs "single" a_single (by decide +kernel)) (F.binds (ps := p_single) fun _ _ _ _ _ _ us hl => match us, hl with | [_], _ => rfl) hl (by decide) body
abbrev N_listed : List Str := ["ones", "found", "top", "bottom"]
abbrev p_listed : List Str := ["ones"]
theorem sc_listed : FnScope N_listed p_listed (defScope s_listed) := ⟨rfl, rfl, rfl, by decide +kernel, rfl, by decide +kernel, by decide +kernel⟩
theorem mk_listed (T : Tx K mg) (k : Nat) (hl : ∀ x0, (Rs x0).length = 1) (body : ∀ (cdv : Value) (A : Around) (outer : List Env) (s : Shared) (H : Hp) (E : XK) (x0 : α), C x0 → Room k (cx P w K mg base N_listed "listed" s_listed a_listed cdv A outer s H E).A → XSs (cx P w K mg base N_listed "listed" s_listed a_listed cdv A outer s H E) (defBody s_listed) ((Rs x0).map some ++ List.replicate 3 none) (.ret (R x0))) : FnG P w K mg base "listed" (k + 1) Rs C R := by
  obtain ⟨fd, F⟩ := T.fn ⟨a_listed, "listed", "listed", s_listed⟩ (List.mem_of_getElem? (i := 64) rfl)
  exact fn_mk F sc_listed (T.refs "listed" a_listed (by decide +kernel)) (F.binds (ps := p_listed) fun _ _ _ _ _ _ us hl => match us, hl with | [_], _ => rfl) hl (by decide) body
abbrev N_tell_route : List Str := ["net", "args", "station", "group", "to_station", "to_group"]
abbrev p_tell_route : List Str := ["net", "args"]
theorem sc_tell_route : FnScope N_tell_route p_tell_route (defScope s_tell_route) := ⟨rfl, rfl, rfl, by decide +kernel, rfl, by decide +kernel, by decide +kernel⟩
theorem mk_tell_route (T : Tx K mg) (k : Nat) (hl : ∀ x0, (Rs x0).length = 2) (body : ∀ (cdv : Value) (A : Around) (outer : List Env) (s : Shared) (H : Hp) (E : XK) (x0 : α), C x0 → Room k (cx P w K mg base N_tell_route "tell_route" s_tell_route a_tell_route cdv A outer s H E).A → XSs (cx P w K mg base N_tell_route "tell_route" s_tell_route a_tell_route cdv A outer s H E) (defBody s_tell_route) ((Rs x0).map some ++ List.replicate 4 none) (.ret (R x0))) : FnG P w K mg base "tell_route" (k + 1) Rs C R := by
  obtain ⟨fd, F⟩ := T.fn ⟨a_tell_route, "tell_route", "tell_route", s_tell_route⟩ (List.mem_of_getElem? (i := 65) rfl)
  exact fn_mk F sc_tell_route (T.refs "tell_route" a_tell_route (by decide +kernel)) (F.binds (ps := p_tell_route) fun _ _ _ _ _ _ us hl => match us, hl with | [_, _], _ => rfl) hl (by decide) body
abbrev N_tell_leave : List Str := ["net", "args", "station", "group"]
abbrev p_tell_leave : List Str := ["net", "args"]
theorem sc_tell_leave : FnScope N_tell_leave p_tell_leave (defScope s_tell_leave) := ⟨rfl, rfl, rfl, by decide +kernel, rfl, by decide +kernel, by decide +kernel⟩
theorem mk_tell_leave (T : Tx K mg) (k : Nat) (hl : ∀ x0, (Rs x0).length = 2) (body : ∀ (cdv : Value) (A : Around) (outer : List Env) (s : Shared) (H : Hp) (E : XK) (x0 : α), C x0 → Room k (cx P w K mg base N_tell_leave "tell_leave" s_tell_leave a_tell_leave cdv A outer s H E).A → XSs (cx P w K mg base N_tell_leave "tell_leave" s_tell_leave a_tell_leave cdv A outer s H E) (defBody s_tell_leave) ((Rs x0).map some ++ List.replicate 2 none) (.ret (R x0))) : FnG P w K mg base "tell_leave" (k + 1) Rs C R := by
  obtain ⟨fd, F⟩ := T.fn ⟨a_tell_leave, "tell_leave", "tell_leave", s_tell_leave⟩ (List.mem_of_getElem? (i := 66) rfl)
  exact fn_mk F sc_tell_leave (T.refs "tell_leave" a_tell_leave (by decide +kernel)) (F.binds (ps := p_tell_leave) fun _ _ _ _ _ _ us hl => match us, hl with | [_, _], _ => rfl) hl (by decide) body
abbrev N_tell_open : List Str := ["net", "args"]
abbrev p_tell_open : List Str := ["net", "args"]
theorem sc_tell_open : FnScope N_tell_open p_tell_open (defScope s_tell_open) := ⟨rfl, rfl, rfl, by decide +kernel, rfl, by decide +kernel, by decide +kernel⟩
theorem mk_tell_open (T : Tx K mg) (k : Nat) (hl : ∀ x0, (Rs x0).length = 2) (body : ∀ (cdv : Value) (A : Around) (outer : List Env) (s : Shared) (H : Hp) (E : XK) (x0 : α), C x0 → Room k (cx P w K mg base N_tell_open "tell_open" s_tell_open a_tell_open cdv A outer s H E).A → XSs (cx P w K mg base N_tell_open "tell_open" s_tell_open a_tell_open cdv A outer s H E) (defBody s_tell_open) ((Rs x0).map some ++ List.replicate 0 none) (.ret (R x0))) : FnG P w K mg base "tell_open" (k + 1) Rs C R := by
  obtain ⟨fd, F⟩ := T.fn ⟨a_tell_open, "tell_open", "tell_open", s_tell_open⟩ (List.mem_of_getElem? (i := 67) rfl)
  exact fn_mk F sc_tell_open (T.refs "tell_open" a_tell_open (by decide +kernel)) (F.binds (ps := p_tell_open) fun _ _ _ _ _ _ us hl => match us, hl with | [_, _], _ => rfl) hl (by decide) body
abbrev N_tell_traffic : List Str := ["net", "args"]
abbrev p_tell_traffic : List Str := ["net", "args"]
theorem sc_tell_traffic : FnScope N_tell_traffic p_tell_traffic (defScope s_tell_traffic) := ⟨rfl, rfl, rfl, by decide +kernel, rfl, by decide +kernel, by decide +kernel⟩
theorem mk_tell_traffic (T : Tx K mg) (k : Nat) (hl : ∀ x0, (Rs x0).length = 2) (body : ∀ (cdv : Value) (A : Around) (outer : List Env) (s : Shared) (H : Hp) (E : XK) (x0 : α), C x0 → Room k (cx P w K mg base N_tell_traffic "tell_traffic" s_tell_traffic a_tell_traffic cdv A outer s H E).A → XSs (cx P w K mg base N_tell_traffic "tell_traffic" s_tell_traffic a_tell_traffic cdv A outer s H E) (defBody s_tell_traffic) ((Rs x0).map some ++ List.replicate 0 none) (.ret (R x0))) : FnG P w K mg base "tell_traffic" (k + 1) Rs C R := by
  obtain ⟨fd, F⟩ := T.fn ⟨a_tell_traffic, "tell_traffic", "tell_traffic", s_tell_traffic⟩ (List.mem_of_getElem? (i := 68) rfl)
  exact fn_mk F sc_tell_traffic (T.refs "tell_traffic" a_tell_traffic (by decide +kernel)) (F.binds (ps := p_tell_traffic) fun _ _ _ _ _ _ us hl => match us, hl with | [_, _], _ => rfl) hl (by decide) body
abbrev N_tell_visits : List Str := ["net", "args", "station", "group"]
abbrev p_tell_visits : List Str := ["net", "args"]
theorem sc_tell_visits : FnScope N_tell_visits p_tell_visits (defScope s_tell_visits) := ⟨rfl, rfl, rfl, by decide +kernel, rfl, by decide +kernel, by decide +kernel⟩
theorem mk_tell_visits (T : Tx K mg) (k : Nat) (hl : ∀ x0, (Rs x0).length = 2) (body : ∀ (cdv : Value) (A : Around) (outer : List Env) (s : Shared) (H : Hp) (E : XK) (x0 : α), C x0 → Room k (cx P w K mg base N_tell_visits "tell_visits" s_tell_visits a_tell_visits cdv A outer s H E).A → XSs (cx P w K mg base N_tell_visits "tell_visits" s_tell_visits a_tell_visits cdv A outer s H E) (defBody s_tell_visits) ((Rs x0).map some ++ List.replicate 2 none) (.ret (R x0))) : FnG P w K mg base "tell_visits" (k + 1) Rs C R := by
  obtain ⟨fd, F⟩ := T.fn ⟨a_tell_visits, "tell_visits", "tell_visits", s_tell_visits⟩ (List.mem_of_getElem? (i := 69) rfl)
  exact fn_mk F sc_tell_visits (T.refs "tell_visits" a_tell_visits (by decide +kernel)) (F.binds (ps := p_tell_visits) fun _ _ _ _ _ _ us hl => match us, hl with | [_, _], _ => rfl) hl (by decide) body
abbrev N_tell_utilizations : List Str := ["net", "args"]
abbrev p_tell_utilizations : List Str := ["net", "args"]
theorem sc_tell_utilizations : FnScope N_tell_utilizations p_tell_utilizations (defScope s_tell_utilizations) := ⟨rfl, rfl, rfl, by decide +kernel, rfl, by decide +kernel, by decide +kernel⟩
theorem mk_tell_utilizations (T : Tx K mg) (k : Nat) (hl : ∀ x0, (Rs x0).length = 2) (body : ∀ (cdv : Value) (A : Around) (outer : List Env) (s : Shared) (H : Hp) (E : XK) (x0 : α), C x0 → Room k (cx P w K mg base N_tell_utilizations "tell_utilizations" s_tell_utilizations a_tell_utilizations cdv A outer s H E).A → XSs (cx P w K mg base N_tell_utilizations "tell_utilizations" s_tell_utilizations a_tell_utilizations cdv A outer s H E) (defBody s_tell_utilizations) ((Rs x0).map some ++ List.replicate 0 none) (.ret (R x0))) : FnG P w K mg base "tell_utilizations" (k + 1) Rs C R := by
  obtain ⟨fd, F⟩ := T.fn ⟨a_tell_utilizations, "tell_utilizations", "tell_utilizations", s_tell_utilizations⟩ (List.mem_of_getElem? (i := 70) rfl)
  exact fn_mk F sc_tell_utilizations (T.refs "tell_utilizations" a_tell_utilizations (by decide +kernel)) (F.binds (ps := p_tell_utilizations) fun _ _ _ _ _ _ us hl => match us, hl with | [_, _], _ => rfl) hl (by decide) body
abbrev N_tell_stable : List Str := ["net", "args"]
abbrev p_tell_stable : List Str := ["net", "args"]
theorem sc_tell_stable : FnScope N_tell_stable p_tell_stable (defScope s_tell_stable) := ⟨rfl, rfl, rfl, by decide +kernel, rfl, by decide +kernel, by decide +kernel⟩
theorem mk_tell_stable (T : Tx K mg) (k : Nat) (hl : ∀ x0, (Rs x0).length = 2) (body : ∀ (cdv : Value) (A : Around) (outer : List Env) (s : Shared) (H : Hp) (E : XK) (x0 : α), C x0 → Room k (cx P w K mg base N_tell_stable "tell_stable" s_tell_stable a_tell_stable cdv A outer s H E).A → XSs (cx P w K mg base N_tell_stable "tell_stable" s_tell_stable a_tell_stable cdv A outer s H E) (defBody s_tell_stable) ((Rs x0).map some ++ List.replicate 0 none) (.ret (R x0))) : FnG P w K mg base "tell_stable" (k + 1) Rs C R := by
  obtain ⟨fd, F⟩ := T.fn ⟨a_tell_stable, "tell_stable", "tell_stable", s_tell_stable⟩ (List.mem_of_getElem? (i := 71) rfl)
  exact fn_mk F sc_tell_stable (T.refs "tell_stable" a_tell_stable (by decide +kernel)) (F.binds (ps := p_tell_stable) fun _ _ _ _ _ _ us hl => match us, hl with | [_, _], _ => rfl) hl (by decide) body
abbrev N_tell_bottleneck : List Str := ["net", "args", "uses", "station"]
abbrev p_tell_bottleneck : List Str := ["net", "args"]
theorem sc_tell_bottleneck : FnScope N_tell_bottleneck p_tell_bottleneck (defScope s_tell_bottleneck) := ⟨rfl, rfl, rfl, by decide +kernel, rfl, by decide +kernel, by decide +kernel⟩
theorem mk_tell_bottleneck (T : Tx K mg) (k : Nat) (hl : ∀ x0, (Rs x0).length = 2) (body : ∀ (cdv : Value) (A : Around) (outer : List Env) (s : Shared) (H : Hp) (E : XK) (x0 : α), C x0 → Room k (cx P w K mg base N_tell_bottleneck "tell_bottleneck" s_tell_bottleneck a_tell_bottleneck cdv A outer s H E).A → XSs (cx P w K mg base N_tell_bottleneck "tell_bottleneck" s_tell_bottleneck a_tell_bottleneck cdv A outer s H E) (defBody s_tell_bottleneck) ((Rs x0).map some ++ List.replicate 2 none) (.ret (R x0))) : FnG P w K mg base "tell_bottleneck" (k + 1) Rs C R := by
  obtain ⟨fd, F⟩ := T.fn ⟨a_tell_bottleneck, "tell_bottleneck", "tell_bottleneck", s_tell_bottleneck⟩ (List.mem_of_getElem? (i := 72) rfl)
  exact fn_mk F sc_tell_bottleneck (T.refs "tell_bottleneck" a_tell_bottleneck (by decide +kernel)) (F.binds (ps := p_tell_bottleneck) fun _ _ _ _ _ _ us hl => match us, hl with | [_, _], _ => rfl) hl (by decide) body
abbrev N_tell_numbers : List Str := ["net", "args", "rates", "found"]
abbrev p_tell_numbers : List Str := ["net", "args"]
theorem sc_tell_numbers : FnScope N_tell_numbers p_tell_numbers (defScope s_tell_numbers) := ⟨rfl, rfl, rfl, by decide +kernel, rfl, by decide +kernel, by decide +kernel⟩
theorem mk_tell_numbers (T : Tx K mg) (k : Nat) (hl : ∀ x0, (Rs x0).length = 2) (body : ∀ (cdv : Value) (A : Around) (outer : List Env) (s : Shared) (H : Hp) (E : XK) (x0 : α), C x0 → Room k (cx P w K mg base N_tell_numbers "tell_numbers" s_tell_numbers a_tell_numbers cdv A outer s H E).A → XSs (cx P w K mg base N_tell_numbers "tell_numbers" s_tell_numbers a_tell_numbers cdv A outer s H E) (defBody s_tell_numbers) ((Rs x0).map some ++ List.replicate 2 none) (.ret (R x0))) : FnG P w K mg base "tell_numbers" (k + 1) Rs C R := by
  obtain ⟨fd, F⟩ := T.fn ⟨a_tell_numbers, "tell_numbers", "tell_numbers", s_tell_numbers⟩ (List.mem_of_getElem? (i := 73) rfl)
  exact fn_mk F sc_tell_numbers (T.refs "tell_numbers" a_tell_numbers (by decide +kernel)) (F.binds (ps := p_tell_numbers) fun _ _ _ _ _ _ us hl => match us, hl with | [_, _], _ => rfl) hl (by decide) body
abbrev N_tell_place_number : List Str := ["net", "args", "station", "group", "rates"]
abbrev p_tell_place_number : List Str := ["net", "args"]
theorem sc_tell_place_number : FnScope N_tell_place_number p_tell_place_number (defScope s_tell_place_number) := ⟨rfl, rfl, rfl, by decide +kernel, rfl, by decide +kernel, by decide +kernel⟩
theorem mk_tell_place_number (T : Tx K mg) (k : Nat) (hl : ∀ x0, (Rs x0).length = 2) (body : ∀ (cdv : Value) (A : Around) (outer : List Env) (s : Shared) (H : Hp) (E : XK) (x0 : α), C x0 → Room k (cx P w K mg base N_tell_place_number "tell_place_number" s_tell_place_number a_tell_place_number cdv A outer s H E).A → XSs (cx P w K mg base N_tell_place_number "tell_place_number" s_tell_place_number a_tell_place_number cdv A outer s H E) (defBody s_tell_place_number) ((Rs x0).map some ++ List.replicate 3 none) (.ret (R x0))) : FnG P w K mg base "tell_place_number" (k + 1) Rs C R := by
  obtain ⟨fd, F⟩ := T.fn ⟨a_tell_place_number, "tell_place_number", "tell_place_number", s_tell_place_number⟩ (List.mem_of_getElem? (i := 74) rfl)
  exact fn_mk F sc_tell_place_number (T.refs "tell_place_number" a_tell_place_number (by decide +kernel)) (F.binds (ps := p_tell_place_number) fun _ _ _ _ _ _ us hl => match us, hl with | [_, _], _ => rfl) hl (by decide) body
abbrev N_tell_visit_time : List Str := ["net", "args", "station", "group", "rates"]
abbrev p_tell_visit_time : List Str := ["net", "args"]
theorem sc_tell_visit_time : FnScope N_tell_visit_time p_tell_visit_time (defScope s_tell_visit_time) := ⟨rfl, rfl, rfl, by decide +kernel, rfl, by decide +kernel, by decide +kernel⟩
theorem mk_tell_visit_time (T : Tx K mg) (k : Nat) (hl : ∀ x0, (Rs x0).length = 2) (body : ∀ (cdv : Value) (A : Around) (outer : List Env) (s : Shared) (H : Hp) (E : XK) (x0 : α), C x0 → Room k (cx P w K mg base N_tell_visit_time "tell_visit_time" s_tell_visit_time a_tell_visit_time cdv A outer s H E).A → XSs (cx P w K mg base N_tell_visit_time "tell_visit_time" s_tell_visit_time a_tell_visit_time cdv A outer s H E) (defBody s_tell_visit_time) ((Rs x0).map some ++ List.replicate 3 none) (.ret (R x0))) : FnG P w K mg base "tell_visit_time" (k + 1) Rs C R := by
  obtain ⟨fd, F⟩ := T.fn ⟨a_tell_visit_time, "tell_visit_time", "tell_visit_time", s_tell_visit_time⟩ (List.mem_of_getElem? (i := 75) rfl)
  exact fn_mk F sc_tell_visit_time (T.refs "tell_visit_time" a_tell_visit_time (by decide +kernel)) (F.binds (ps := p_tell_visit_time) fun _ _ _ _ _ _ us hl => match us, hl with | [_, _], _ => rfl) hl (by decide) body
abbrev N_tell_time_from : List Str := ["net", "args", "station", "group", "rates"]
abbrev p_tell_time_from : List Str := ["net", "args"]
theorem sc_tell_time_from : FnScope N_tell_time_from p_tell_time_from (defScope s_tell_time_from) := ⟨rfl, rfl, rfl, by decide +kernel, rfl, by decide +kernel, by decide +kernel⟩
theorem mk_tell_time_from (T : Tx K mg) (k : Nat) (hl : ∀ x0, (Rs x0).length = 2) (body : ∀ (cdv : Value) (A : Around) (outer : List Env) (s : Shared) (H : Hp) (E : XK) (x0 : α), C x0 → Room k (cx P w K mg base N_tell_time_from "tell_time_from" s_tell_time_from a_tell_time_from cdv A outer s H E).A → XSs (cx P w K mg base N_tell_time_from "tell_time_from" s_tell_time_from a_tell_time_from cdv A outer s H E) (defBody s_tell_time_from) ((Rs x0).map some ++ List.replicate 3 none) (.ret (R x0))) : FnG P w K mg base "tell_time_from" (k + 1) Rs C R := by
  obtain ⟨fd, F⟩ := T.fn ⟨a_tell_time_from, "tell_time_from", "tell_time_from", s_tell_time_from⟩ (List.mem_of_getElem? (i := 76) rfl)
  exact fn_mk F sc_tell_time_from (T.refs "tell_time_from" a_tell_time_from (by decide +kernel)) (F.binds (ps := p_tell_time_from) fun _ _ _ _ _ _ us hl => match us, hl with | [_, _], _ => rfl) hl (by decide) body
abbrev N_tell_network_time : List Str := ["net", "args", "arrivals", "rates"]
abbrev p_tell_network_time : List Str := ["net", "args"]
theorem sc_tell_network_time : FnScope N_tell_network_time p_tell_network_time (defScope s_tell_network_time) := ⟨rfl, rfl, rfl, by decide +kernel, rfl, by decide +kernel, by decide +kernel⟩
theorem mk_tell_network_time (T : Tx K mg) (k : Nat) (hl : ∀ x0, (Rs x0).length = 2) (body : ∀ (cdv : Value) (A : Around) (outer : List Env) (s : Shared) (H : Hp) (E : XK) (x0 : α), C x0 → Room k (cx P w K mg base N_tell_network_time "tell_network_time" s_tell_network_time a_tell_network_time cdv A outer s H E).A → XSs (cx P w K mg base N_tell_network_time "tell_network_time" s_tell_network_time a_tell_network_time cdv A outer s H E) (defBody s_tell_network_time) ((Rs x0).map some ++ List.replicate 2 none) (.ret (R x0))) : FnG P w K mg base "tell_network_time" (k + 1) Rs C R := by
  obtain ⟨fd, F⟩ := T.fn ⟨a_tell_network_time, "tell_network_time", "tell_network_time", s_tell_network_time⟩ (List.mem_of_getElem? (i := 77) rfl)
  exact fn_mk F sc_tell_network_time (T.refs "tell_network_time" a_tell_network_time (by decide +kernel)) (F.binds (ps := p_tell_network_time) fun _ _ _ _ _ _ us hl => match us, hl with | [_, _], _ => rfl) hl (by decide) body
abbrev N_tell_departures : List Str := ["net", "args"]
abbrev p_tell_departures : List Str := ["net", "args"]
theorem sc_tell_departures : FnScope N_tell_departures p_tell_departures (defScope s_tell_departures) := ⟨rfl, rfl, rfl, by decide +kernel, rfl, by decide +kernel, by decide +kernel⟩
theorem mk_tell_departures (T : Tx K mg) (k : Nat) (hl : ∀ x0, (Rs x0).length = 2) (body : ∀ (cdv : Value) (A : Around) (outer : List Env) (s : Shared) (H : Hp) (E : XK) (x0 : α), C x0 → Room k (cx P w K mg base N_tell_departures "tell_departures" s_tell_departures a_tell_departures cdv A outer s H E).A → XSs (cx P w K mg base N_tell_departures "tell_departures" s_tell_departures a_tell_departures cdv A outer s H E) (defBody s_tell_departures) ((Rs x0).map some ++ List.replicate 0 none) (.ret (R x0))) : FnG P w K mg base "tell_departures" (k + 1) Rs C R := by
  obtain ⟨fd, F⟩ := T.fn ⟨a_tell_departures, "tell_departures", "tell_departures", s_tell_departures⟩ (List.mem_of_getElem? (i := 78) rfl)
  exact fn_mk F sc_tell_departures (T.refs "tell_departures" a_tell_departures (by decide +kernel)) (F.binds (ps := p_tell_departures) fun _ _ _ _ _ _ us hl => match us, hl with | [_, _], _ => rfl) hl (by decide) body
abbrev N_tell_number_chance : List Str := ["net", "args", "station", "many", "rates"]
abbrev p_tell_number_chance : List Str := ["net", "args"]
theorem sc_tell_number_chance : FnScope N_tell_number_chance p_tell_number_chance (defScope s_tell_number_chance) := ⟨rfl, rfl, rfl, by decide +kernel, rfl, by decide +kernel, by decide +kernel⟩
theorem mk_tell_number_chance (T : Tx K mg) (k : Nat) (hl : ∀ x0, (Rs x0).length = 2) (body : ∀ (cdv : Value) (A : Around) (outer : List Env) (s : Shared) (H : Hp) (E : XK) (x0 : α), C x0 → Room k (cx P w K mg base N_tell_number_chance "tell_number_chance" s_tell_number_chance a_tell_number_chance cdv A outer s H E).A → XSs (cx P w K mg base N_tell_number_chance "tell_number_chance" s_tell_number_chance a_tell_number_chance cdv A outer s H E) (defBody s_tell_number_chance) ((Rs x0).map some ++ List.replicate 3 none) (.ret (R x0))) : FnG P w K mg base "tell_number_chance" (k + 1) Rs C R := by
  obtain ⟨fd, F⟩ := T.fn ⟨a_tell_number_chance, "tell_number_chance", "tell_number_chance", s_tell_number_chance⟩ (List.mem_of_getElem? (i := 79) rfl)
  exact fn_mk F sc_tell_number_chance (T.refs "tell_number_chance" a_tell_number_chance (by decide +kernel)) (F.binds (ps := p_tell_number_chance) fun _ _ _ _ _ _ us hl => match us, hl with | [_, _], _ => rfl) hl (by decide) body
abbrev N_tell_state_chance : List Str := ["net", "args", "rates", "many"]
abbrev p_tell_state_chance : List Str := ["net", "args"]
theorem sc_tell_state_chance : FnScope N_tell_state_chance p_tell_state_chance (defScope s_tell_state_chance) := ⟨rfl, rfl, rfl, by decide +kernel, rfl, by decide +kernel, by decide +kernel⟩
theorem mk_tell_state_chance (T : Tx K mg) (k : Nat) (hl : ∀ x0, (Rs x0).length = 2) (body : ∀ (cdv : Value) (A : Around) (outer : List Env) (s : Shared) (H : Hp) (E : XK) (x0 : α), C x0 → Room k (cx P w K mg base N_tell_state_chance "tell_state_chance" s_tell_state_chance a_tell_state_chance cdv A outer s H E).A → XSs (cx P w K mg base N_tell_state_chance "tell_state_chance" s_tell_state_chance a_tell_state_chance cdv A outer s H E) (defBody s_tell_state_chance) ((Rs x0).map some ++ List.replicate 2 none) (.ret (R x0))) : FnG P w K mg base "tell_state_chance" (k + 1) Rs C R := by
  obtain ⟨fd, F⟩ := T.fn ⟨a_tell_state_chance, "tell_state_chance", "tell_state_chance", s_tell_state_chance⟩ (List.mem_of_getElem? (i := 80) rfl)
  exact fn_mk F sc_tell_state_chance (T.refs "tell_state_chance" a_tell_state_chance (by decide +kernel)) (F.binds (ps := p_tell_state_chance) fun _ _ _ _ _ _ us hl => match us, hl with | [_, _], _ => rfl) hl (by decide) body
abbrev N_tell_growth : List Str := ["net", "args", "uses", "greatest"]
abbrev p_tell_growth : List Str := ["net", "args"]
theorem sc_tell_growth : FnScope N_tell_growth p_tell_growth (defScope s_tell_growth) := ⟨rfl, rfl, rfl, by decide +kernel, rfl, by decide +kernel, by decide +kernel⟩
theorem mk_tell_growth (T : Tx K mg) (k : Nat) (hl : ∀ x0, (Rs x0).length = 2) (body : ∀ (cdv : Value) (A : Around) (outer : List Env) (s : Shared) (H : Hp) (E : XK) (x0 : α), C x0 → Room k (cx P w K mg base N_tell_growth "tell_growth" s_tell_growth a_tell_growth cdv A outer s H E).A → XSs (cx P w K mg base N_tell_growth "tell_growth" s_tell_growth a_tell_growth cdv A outer s H E) (defBody s_tell_growth) ((Rs x0).map some ++ List.replicate 2 none) (.ret (R x0))) : FnG P w K mg base "tell_growth" (k + 1) Rs C R := by
  obtain ⟨fd, F⟩ := T.fn ⟨a_tell_growth, "tell_growth", "tell_growth", s_tell_growth⟩ (List.mem_of_getElem? (i := 81) rfl)
  exact fn_mk F sc_tell_growth (T.refs "tell_growth" a_tell_growth (by decide +kernel)) (F.binds (ps := p_tell_growth) fun _ _ _ _ _ _ us hl => match us, hl with | [_, _], _ => rfl) hl (by decide) body
abbrev N_tell_summary : List Str := ["net", "args"]
abbrev p_tell_summary : List Str := ["net", "args"]
theorem sc_tell_summary : FnScope N_tell_summary p_tell_summary (defScope s_tell_summary) := ⟨rfl, rfl, rfl, by decide +kernel, rfl, by decide +kernel, by decide +kernel⟩
theorem mk_tell_summary (T : Tx K mg) (k : Nat) (hl : ∀ x0, (Rs x0).length = 2) (body : ∀ (cdv : Value) (A : Around) (outer : List Env) (s : Shared) (H : Hp) (E : XK) (x0 : α), C x0 → Room k (cx P w K mg base N_tell_summary "tell_summary" s_tell_summary a_tell_summary cdv A outer s H E).A → XSs (cx P w K mg base N_tell_summary "tell_summary" s_tell_summary a_tell_summary cdv A outer s H E) (defBody s_tell_summary) ((Rs x0).map some ++ List.replicate 0 none) (.ret (R x0))) : FnG P w K mg base "tell_summary" (k + 1) Rs C R := by
  obtain ⟨fd, F⟩ := T.fn ⟨a_tell_summary, "tell_summary", "tell_summary", s_tell_summary⟩ (List.mem_of_getElem? (i := 82) rfl)
  exact fn_mk F sc_tell_summary (T.refs "tell_summary" a_tell_summary (by decide +kernel)) (F.binds (ps := p_tell_summary) fun _ _ _ _ _ _ us hl => match us, hl with | [_, _], _ => rfl) hl (by decide) body
abbrev N_asked : List Str := ["net", "number", "args", "deed"]
abbrev p_asked : List Str := ["net", "number", "args"]
theorem sc_asked : FnScope N_asked p_asked (defScope s_asked) := ⟨rfl, rfl, rfl, by decide +kernel, rfl, by decide +kernel, by decide +kernel⟩
theorem mk_asked (T : Tx K mg) (k : Nat) (hl : ∀ x0, (Rs x0).length = 3) (body : ∀ (cdv : Value) (A : Around) (outer : List Env) (s : Shared) (H : Hp) (E : XK) (x0 : α), C x0 → Room k (cx P w K mg base N_asked "asked" s_asked a_asked cdv A outer s H E).A → XSs (cx P w K mg base N_asked "asked" s_asked a_asked cdv A outer s H E) (defBody s_asked) ((Rs x0).map some ++ List.replicate 1 none) (.ret (R x0))) : FnG P w K mg base "asked" (k + 1) Rs C R := by
  obtain ⟨fd, F⟩ := T.fn ⟨a_asked, "asked", "asked", s_asked⟩ (List.mem_of_getElem? (i := 83) rfl)
  exact fn_mk F sc_asked (T.refs "asked" a_asked (by decide +kernel)) (F.binds (ps := p_asked) fun _ _ _ _ _ _ us hl => match us, hl with | [_, _, _], _ => rfl) hl (by decide) body
abbrev N_are_servers : List Str := ["kind", "servers"]
abbrev p_are_servers : List Str := ["kind", "servers"]
theorem sc_are_servers : FnScope N_are_servers p_are_servers (defScope s_are_servers) := ⟨rfl, rfl, rfl, by decide +kernel, rfl, by decide +kernel, by decide +kernel⟩
theorem mk_are_servers (T : Tx K mg) (k : Nat) (hl : ∀ x0, (Rs x0).length = 2) (body : ∀ (cdv : Value) (A : Around) (outer : List Env) (s : Shared) (H : Hp) (E : XK) (x0 : α), C x0 → Room k (cx P w K mg base N_are_servers "are_servers" s_are_servers a_are_servers cdv A outer s H E).A → XSs (cx P w K mg base N_are_servers "are_servers" s_are_servers a_are_servers cdv A outer s H E) (defBody s_are_servers) ((Rs x0).map some ++ List.replicate 0 none) (.ret (R x0))) : FnG P w K mg base "are_servers" (k + 1) Rs C R := by
  obtain ⟨fd, F⟩ := T.fn ⟨a_are_servers, "are_servers", "are_servers", s_are_servers⟩ (List.mem_of_getElem? (i := 84) rfl)
  exact fn_mk F sc_are_servers (T.refs "are_servers" a_are_servers (by decide +kernel)) (F.binds (ps := p_are_servers) fun _ _ _ _ _ _ us hl => match us, hl with | [_, _], _ => rfl) hl (by decide) body
abbrev N_change_station : List Str := ["net", "args", "station", "kind", "servers"]
abbrev p_change_station : List Str := ["net", "args"]
theorem sc_change_station : FnScope N_change_station p_change_station (defScope s_change_station) := ⟨rfl, rfl, rfl, by decide +kernel, rfl, by decide +kernel, by decide +kernel⟩
theorem mk_change_station (T : Tx K mg) (k : Nat) (hl : ∀ x0, (Rs x0).length = 2) (body : ∀ (cdv : Value) (A : Around) (outer : List Env) (s : Shared) (H : Hp) (E : XK) (x0 : α), C x0 → Room k (cx P w K mg base N_change_station "change_station" s_change_station a_change_station cdv A outer s H E).A → XSs (cx P w K mg base N_change_station "change_station" s_change_station a_change_station cdv A outer s H E) (defBody s_change_station) ((Rs x0).map some ++ List.replicate 3 none) (.ret (R x0))) : FnG P w K mg base "change_station" (k + 1) Rs C R := by
  obtain ⟨fd, F⟩ := T.fn ⟨a_change_station, "change_station", "change_station", s_change_station⟩ (List.mem_of_getElem? (i := 85) rfl)
  exact fn_mk F sc_change_station (T.refs "change_station" a_change_station (by decide +kernel)) (F.binds (ps := p_change_station) fun _ _ _ _ _ _ us hl => match us, hl with | [_, _], _ => rfl) hl (by decide) body
abbrev N_change_service : List Str := ["net", "args", "station", "group", "service", "elder"]
abbrev p_change_service : List Str := ["net", "args"]
theorem sc_change_service : FnScope N_change_service p_change_service (defScope s_change_service) := ⟨rfl, rfl, rfl, by decide +kernel, rfl, by decide +kernel, by decide +kernel⟩
theorem mk_change_service (T : Tx K mg) (k : Nat) (hl : ∀ x0, (Rs x0).length = 2) (body : ∀ (cdv : Value) (A : Around) (outer : List Env) (s : Shared) (H : Hp) (E : XK) (x0 : α), C x0 → Room k (cx P w K mg base N_change_service "change_service" s_change_service a_change_service cdv A outer s H E).A → XSs (cx P w K mg base N_change_service "change_service" s_change_service a_change_service cdv A outer s H E) (defBody s_change_service) ((Rs x0).map some ++ List.replicate 4 none) (.ret (R x0))) : FnG P w K mg base "change_service" (k + 1) Rs C R := by
  obtain ⟨fd, F⟩ := T.fn ⟨a_change_service, "change_service", "change_service", s_change_service⟩ (List.mem_of_getElem? (i := 86) rfl)
  exact fn_mk F sc_change_service (T.refs "change_service" a_change_service (by decide +kernel)) (F.binds (ps := p_change_service) fun _ _ _ _ _ _ us hl => match us, hl with | [_, _], _ => rfl) hl (by decide) body
abbrev N_change_arrival : List Str := ["net", "args", "station", "group", "arrival", "place", "elder"]
abbrev p_change_arrival : List Str := ["net", "args"]
theorem sc_change_arrival : FnScope N_change_arrival p_change_arrival (defScope s_change_arrival) := ⟨rfl, rfl, rfl, by decide +kernel, rfl, by decide +kernel, by decide +kernel⟩
theorem mk_change_arrival (T : Tx K mg) (k : Nat) (hl : ∀ x0, (Rs x0).length = 2) (body : ∀ (cdv : Value) (A : Around) (outer : List Env) (s : Shared) (H : Hp) (E : XK) (x0 : α), C x0 → Room k (cx P w K mg base N_change_arrival "change_arrival" s_change_arrival a_change_arrival cdv A outer s H E).A → XSs (cx P w K mg base N_change_arrival "change_arrival" s_change_arrival a_change_arrival cdv A outer s H E) (defBody s_change_arrival) ((Rs x0).map some ++ List.replicate 5 none) (.ret (R x0))) : FnG P w K mg base "change_arrival" (k + 1) Rs C R := by
  obtain ⟨fd, F⟩ := T.fn ⟨a_change_arrival, "change_arrival", "change_arrival", s_change_arrival⟩ (List.mem_of_getElem? (i := 87) rfl)
  exact fn_mk F sc_change_arrival (T.refs "change_arrival" a_change_arrival (by decide +kernel)) (F.binds (ps := p_change_arrival) fun _ _ _ _ _ _ us hl => match us, hl with | [_, _], _ => rfl) hl (by decide) body
abbrev N_change_route : List Str := ["net", "args", "station", "group", "to_station", "to_group", "weight", "weights", "other", "elder"]
abbrev p_change_route : List Str := ["net", "args"]
theorem sc_change_route : FnScope N_change_route p_change_route (defScope s_change_route) := ⟨rfl, rfl, rfl, by decide +kernel, rfl, by decide +kernel, by decide +kernel⟩
theorem mk_change_route (T : Tx K mg) (k : Nat) (hl : ∀ x0, (Rs x0).length = 2) (body : ∀ (cdv : Value) (A : Around) (outer : List Env) (s : Shared) (H : Hp) (E : XK) (x0 : α), C x0 → Room k (cx P w K mg base N_change_route "change_route" s_change_route a_change_route cdv A outer s H E).A → XSs (cx P w K mg base N_change_route "change_route" s_change_route a_change_route cdv A outer s H E) (defBody s_change_route) ((Rs x0).map some ++ List.replicate 8 none) (.ret (R x0))) : FnG P w K mg base "change_route" (k + 1) Rs C R := by
  obtain ⟨fd, F⟩ := T.fn ⟨a_change_route, "change_route", "change_route", s_change_route⟩ (List.mem_of_getElem? (i := 88) rfl)
  exact fn_mk F sc_change_route (T.refs "change_route" a_change_route (by decide +kernel)) (F.binds (ps := p_change_route) fun _ _ _ _ _ _ us hl => match us, hl with | [_, _], _ => rfl) hl (by decide) body
abbrev N_change_leaving : List Str := ["net", "args", "station", "group", "weight", "place", "elder"]
abbrev p_change_leaving : List Str := ["net", "args"]
theorem sc_change_leaving : FnScope N_change_leaving p_change_leaving (defScope s_change_leaving) := ⟨rfl, rfl, rfl, by decide +kernel, rfl, by decide +kernel, by decide +kernel⟩
theorem mk_change_leaving (T : Tx K mg) (k : Nat) (hl : ∀ x0, (Rs x0).length = 2) (body : ∀ (cdv : Value) (A : Around) (outer : List Env) (s : Shared) (H : Hp) (E : XK) (x0 : α), C x0 → Room k (cx P w K mg base N_change_leaving "change_leaving" s_change_leaving a_change_leaving cdv A outer s H E).A → XSs (cx P w K mg base N_change_leaving "change_leaving" s_change_leaving a_change_leaving cdv A outer s H E) (defBody s_change_leaving) ((Rs x0).map some ++ List.replicate 5 none) (.ret (R x0))) : FnG P w K mg base "change_leaving" (k + 1) Rs C R := by
  obtain ⟨fd, F⟩ := T.fn ⟨a_change_leaving, "change_leaving", "change_leaving", s_change_leaving⟩ (List.mem_of_getElem? (i := 89) rfl)
  exact fn_mk F sc_change_leaving (T.refs "change_leaving" a_change_leaving (by decide +kernel)) (F.binds (ps := p_change_leaving) fun _ _ _ _ _ _ us hl => match us, hl with | [_, _], _ => rfl) hl (by decide) body
abbrev N_clear_routes : List Str := ["net", "args", "station", "group", "place", "elder"]
abbrev p_clear_routes : List Str := ["net", "args"]
theorem sc_clear_routes : FnScope N_clear_routes p_clear_routes (defScope s_clear_routes) := ⟨rfl, rfl, rfl, by decide +kernel, rfl, by decide +kernel, by decide +kernel⟩
theorem mk_clear_routes (T : Tx K mg) (k : Nat) (hl : ∀ x0, (Rs x0).length = 2) (body : ∀ (cdv : Value) (A : Around) (outer : List Env) (s : Shared) (H : Hp) (E : XK) (x0 : α), C x0 → Room k (cx P w K mg base N_clear_routes "clear_routes" s_clear_routes a_clear_routes cdv A outer s H E).A → XSs (cx P w K mg base N_clear_routes "clear_routes" s_clear_routes a_clear_routes cdv A outer s H E) (defBody s_clear_routes) ((Rs x0).map some ++ List.replicate 4 none) (.ret (R x0))) : FnG P w K mg base "clear_routes" (k + 1) Rs C R := by
  obtain ⟨fd, F⟩ := T.fn ⟨a_clear_routes, "clear_routes", "clear_routes", s_clear_routes⟩ (List.mem_of_getElem? (i := 90) rfl)
  exact fn_mk F sc_clear_routes (T.refs "clear_routes" a_clear_routes (by decide +kernel)) (F.binds (ps := p_clear_routes) fun _ _ _ _ _ _ us hl => match us, hl with | [_, _], _ => rfl) hl (by decide) body
abbrev N_scale_arrivals : List Str := ["net", "args", "num", "den", "arrival"]
abbrev p_scale_arrivals : List Str := ["net", "args"]
theorem sc_scale_arrivals : FnScope N_scale_arrivals p_scale_arrivals (defScope s_scale_arrivals) := ⟨rfl, rfl, rfl, by decide +kernel, rfl, by decide +kernel, by decide +kernel⟩
theorem mk_scale_arrivals (T : Tx K mg) (k : Nat) (hl : ∀ x0, (Rs x0).length = 2) (body : ∀ (cdv : Value) (A : Around) (outer : List Env) (s : Shared) (H : Hp) (E : XK) (x0 : α), C x0 → Room k (cx P w K mg base N_scale_arrivals "scale_arrivals" s_scale_arrivals a_scale_arrivals cdv A outer s H E).A → XSs (cx P w K mg base N_scale_arrivals "scale_arrivals" s_scale_arrivals a_scale_arrivals cdv A outer s H E) (defBody s_scale_arrivals) ((Rs x0).map some ++ List.replicate 3 none) (.ret (R x0))) : FnG P w K mg base "scale_arrivals" (k + 1) Rs C R := by
  obtain ⟨fd, F⟩ := T.fn ⟨a_scale_arrivals, "scale_arrivals", "scale_arrivals", s_scale_arrivals⟩ (List.mem_of_getElem? (i := 91) rfl)
  exact fn_mk F sc_scale_arrivals (T.refs "scale_arrivals" a_scale_arrivals (by decide +kernel)) (F.binds (ps := p_scale_arrivals) fun _ _ _ _ _ _ us hl => match us, hl with | [_, _], _ => rfl) hl (by decide) body
abbrev N_changed : List Str := ["net", "number", "args", "deed"]
abbrev p_changed : List Str := ["net", "number", "args"]
theorem sc_changed : FnScope N_changed p_changed (defScope s_changed) := ⟨rfl, rfl, rfl, by decide +kernel, rfl, by decide +kernel, by decide +kernel⟩
theorem mk_changed (T : Tx K mg) (k : Nat) (hl : ∀ x0, (Rs x0).length = 3) (body : ∀ (cdv : Value) (A : Around) (outer : List Env) (s : Shared) (H : Hp) (E : XK) (x0 : α), C x0 → Room k (cx P w K mg base N_changed "changed" s_changed a_changed cdv A outer s H E).A → XSs (cx P w K mg base N_changed "changed" s_changed a_changed cdv A outer s H E) (defBody s_changed) ((Rs x0).map some ++ List.replicate 1 none) (.ret (R x0))) : FnG P w K mg base "changed" (k + 1) Rs C R := by
  obtain ⟨fd, F⟩ := T.fn ⟨a_changed, "changed", "changed", s_changed⟩ (List.mem_of_getElem? (i := 92) rfl)
  exact fn_mk F sc_changed (T.refs "changed" a_changed (by decide +kernel)) (F.binds (ps := p_changed) fun _ _ _ _ _ _ us hl => match us, hl with | [_, _, _], _ => rfl) hl (by decide) body
abbrev N_first_of : List Str := ["calls", "at"]
abbrev p_first_of : List Str := ["calls", "at"]
theorem sc_first_of : FnScope N_first_of p_first_of (defScope s_first_of) := ⟨rfl, rfl, rfl, by decide +kernel, rfl, by decide +kernel, by decide +kernel⟩
theorem mk_first_of (T : Tx K mg) (k : Nat) (hl : ∀ x0, (Rs x0).length = 2) (body : ∀ (cdv : Value) (A : Around) (outer : List Env) (s : Shared) (H : Hp) (E : XK) (x0 : α), C x0 → Room k (cx P w K mg base N_first_of "first_of" s_first_of a_first_of cdv A outer s H E).A → XSs (cx P w K mg base N_first_of "first_of" s_first_of a_first_of cdv A outer s H E) (defBody s_first_of) ((Rs x0).map some ++ List.replicate 0 none) (.ret (R x0))) : FnG P w K mg base "first_of" (k + 1) Rs C R := by
  obtain ⟨fd, F⟩ := T.fn ⟨a_first_of, "first_of", "first_of", s_first_of⟩ (List.mem_of_getElem? (i := 93) rfl)
  exact fn_mk F sc_first_of (T.refs "first_of" a_first_of (by decide +kernel)) (F.binds (ps := p_first_of) fun _ _ _ _ _ _ us hl => match us, hl with | [_, _], _ => rfl) hl (by decide) body
abbrev N_size_of : List Str := ["calls", "at"]
abbrev p_size_of : List Str := ["calls", "at"]
theorem sc_size_of : FnScope N_size_of p_size_of (defScope s_size_of) := ⟨rfl, rfl, rfl, by decide +kernel, rfl, by decide +kernel, by decide +kernel⟩
theorem mk_size_of (T : Tx K mg) (k : Nat) (hl : ∀ x0, (Rs x0).length = 2) (body : ∀ (cdv : Value) (A : Around) (outer : List Env) (s : Shared) (H : Hp) (E : XK) (x0 : α), C x0 → Room k (cx P w K mg base N_size_of "size_of" s_size_of a_size_of cdv A outer s H E).A → XSs (cx P w K mg base N_size_of "size_of" s_size_of a_size_of cdv A outer s H E) (defBody s_size_of) ((Rs x0).map some ++ List.replicate 0 none) (.ret (R x0))) : FnG P w K mg base "size_of" (k + 1) Rs C R := by
  obtain ⟨fd, F⟩ := T.fn ⟨a_size_of, "size_of", "size_of", s_size_of⟩ (List.mem_of_getElem? (i := 94) rfl)
  exact fn_mk F sc_size_of (T.refs "size_of" a_size_of (by decide +kernel)) (F.binds (ps := p_size_of) fun _ _ _ _ _ _ us hl => match us, hl with | [_, _], _ => rfl) hl (by decide) body
abbrev N_split_up : List Str := ["calls", "found", "at", "first", "behind"]
abbrev p_split_up : List Str := ["calls"]
theorem sc_split_up : FnScope N_split_up p_split_up (defScope s_split_up) := ⟨rfl, rfl, rfl, by decide +kernel, rfl, by decide +kernel, by decide +kernel⟩
theorem mk_split_up (T : Tx K mg) (k : Nat) (hl : ∀ x0, (Rs x0).length = 1) (body : ∀ (cdv : Value) (A : Around) (outer : List Env) (s : Shared) (H : Hp) (E : XK) (x0 : α), C x0 → Room k (cx P w K mg base N_split_up "split_up" s_split_up a_split_up cdv A outer s H E).A → XSs (cx P w K mg base N_split_up "split_up" s_split_up a_split_up cdv A outer s H E) (defBody s_split_up) ((Rs x0).map some ++ List.replicate 4 none) (.ret (R x0))) : FnG P w K mg base "split_up" (k + 1) Rs C R := by
  obtain ⟨fd, F⟩ := T.fn ⟨a_split_up, "split_up", "split_up", s_split_up⟩ (List.mem_of_getElem? (i := 95) rfl)
  exact fn_mk F sc_split_up (T.refs "split_up" a_split_up (by decide +kernel)) (F.binds (ps := p_split_up) fun _ _ _ _ _ _ us hl => match us, hl with | [_], _ => rfl) hl (by decide) body
abbrev N_created : List Str := ["args", "stations", "groups"]
abbrev p_created : List Str := ["args"]
theorem sc_created : FnScope N_created p_created (defScope s_created) := ⟨rfl, rfl, rfl, by decide +kernel, rfl, by decide +kernel, by decide +kernel⟩
theorem mk_created (T : Tx K mg) (k : Nat) (hl : ∀ x0, (Rs x0).length = 1) (body : ∀ (cdv : Value) (A : Around) (outer : List Env) (s : Shared) (H : Hp) (E : XK) (x0 : α), C x0 → Room k (cx P w K mg base N_created "created" s_created a_created cdv A outer s H E).A → XSs (cx P w K mg base N_created "created" s_created a_created cdv A outer s H E) (defBody s_created) ((Rs x0).map some ++ List.replicate 2 none) (.ret (R x0))) : FnG P w K mg base "created" (k + 1) Rs C R := by
  obtain ⟨fd, F⟩ := T.fn ⟨a_created, "created", "created", s_created⟩ (List.mem_of_getElem? (i := 96) rfl)
  exact fn_mk F sc_created (T.refs "created" a_created (by decide +kernel)) (F.binds (ps := p_created) fun _ _ _ _ _ _ us hl => match us, hl with | [_], _ => rfl) hl (by decide) body
abbrev N_answered : List Str := ["net", "number", "args"]
abbrev p_answered : List Str := ["net", "number", "args"]
theorem sc_answered : FnScope N_answered p_answered (defScope s_answered) := ⟨rfl, rfl, rfl, by decide +kernel, rfl, by decide +kernel, by decide +kernel⟩
theorem mk_answered (T : Tx K mg) (k : Nat) (hl : ∀ x0, (Rs x0).length = 3) (body : ∀ (cdv : Value) (A : Around) (outer : List Env) (s : Shared) (H : Hp) (E : XK) (x0 : α), C x0 → Room k (cx P w K mg base N_answered "answered" s_answered a_answered cdv A outer s H E).A → XSs (cx P w K mg base N_answered "answered" s_answered a_answered cdv A outer s H E) (defBody s_answered) ((Rs x0).map some ++ List.replicate 0 none) (.ret (R x0))) : FnG P w K mg base "answered" (k + 1) Rs C R := by
  obtain ⟨fd, F⟩ := T.fn ⟨a_answered, "answered", "answered", s_answered⟩ (List.mem_of_getElem? (i := 97) rfl)
  exact fn_mk F sc_answered (T.refs "answered" a_answered (by decide +kernel)) (F.binds (ps := p_answered) fun _ _ _ _ _ _ us hl => match us, hl with | [_, _, _], _ => rfl) hl (by decide) body
abbrev N_answers : List Str := ["calls", "net", "found", "number", "args", "made", "answer"]
abbrev p_answers : List Str := ["calls"]
theorem sc_answers : FnScope N_answers p_answers (defScope s_answers) := ⟨rfl, rfl, rfl, by decide +kernel, rfl, by decide +kernel, by decide +kernel⟩
theorem mk_answers (T : Tx K mg) (k : Nat) (hl : ∀ x0, (Rs x0).length = 1) (body : ∀ (cdv : Value) (A : Around) (outer : List Env) (s : Shared) (H : Hp) (E : XK) (x0 : α), C x0 → Room k (cx P w K mg base N_answers "answers" s_answers a_answers cdv A outer s H E).A → XSs (cx P w K mg base N_answers "answers" s_answers a_answers cdv A outer s H E) (defBody s_answers) ((Rs x0).map some ++ List.replicate 6 none) (.ret (R x0))) : FnG P w K mg base "answers" (k + 1) Rs C R := by
  obtain ⟨fd, F⟩ := T.fn ⟨a_answers, "answers", "answers", s_answers⟩ (List.mem_of_getElem? (i := 98) rfl)
  exact fn_mk F sc_answers (T.refs "answers" a_answers (by decide +kernel)) (F.binds (ps := p_answers) fun _ _ _ _ _ _ us hl => match us, hl with | [_], _ => rfl) hl (by decide) body
end
end OQ
/-! typed walks: while, a pair stored, the great divisions -/
namespace OQ
open PySem PySem.Spec PyProof.Rows L2
open Lrx1 (Fraction zero)
section
variable {X : Cx} {Γ Γe : Ctx} {a b c : Expr} {body : List Stmt} {pos : Pos}
theorem s_while {β : Type} (Γf : β → Ctx) (Pr : β → Prop) (k : β → Bool) (m : β → Nat) (s0 : β) (h0 : Pr s0) (hΓ : Le Γ (Γf s0)) (ht : ∀ s, Pr s → XT X c (Γf s) (k s)) (hb : ∀ s, Pr s → k s = true → ∃ s', Pr s' ∧ m s' < m s ∧ XSs X body (Γf s) (.nxt (Γf s'))) (he : ∀ s, Pr s → k s = false → Le (Γf s) Γe)
    (hp : PassesOwn (model X.prog X.w) X.A X.env X.xe := by exact PassesOwn.never) : XS X (.While c body [] pos) Γ (.nxt Γe) := by
  let tc : TT := fun σ H Q => ∃ s, Pr s ∧ tXT (Γf s) (k s) σ H Q
  let tb : TS := fun D σ H => ∃ s s', Pr s ∧ k s = true ∧ XSs X body (Γf s) (.nxt (Γf s')) ∧ tXS (Γf s) (.nxt (Γf s')) D σ H
  refine PS.of (ps_while hp (tc := tc) (tb := tb) ⟨fun pins s σ H Q I h => ?_⟩ ⟨fun pins s σ H D I h => ?_⟩) fun D σ H h => ?_
  · obtain ⟨z, h1, h2⟩ := h
    exact (ht z h1).run pins s σ H Q I h2
  · obtain ⟨z, z', h1, h2, h3, h4⟩ := h
    exact h3.run pins s σ H D I h4
  · obtain ⟨G, ex, en, q⟩ := h
    refine ⟨fun mm σ Hc => ∃ z Gc, Pr z ∧ m z = mm ∧ Gr G H Gc Hc ∧ En (Γf z) σ Gc, ⟨m s0, s0, G, h0, rfl, Gr.refl ex, hΓ _ _ en⟩, ?_⟩
    rintro mm σ1 Hc ⟨z, Gc, h1, rfl, h3, h4⟩
    refine ⟨z, h1, Gc, h3.sub, h4, fun G1 H1 g1 => ?_⟩
    cases hk : k z with
    | true =>
      rw [if_pos rfl]
      obtain ⟨z', p1, p2, p3⟩ := hb z h1 hk
      refine ⟨fun σ' H' => ∃ Gc', Gr G H Gc' H' ∧ En (Γf z') σ' Gc', fun σ' H' ⟨Gc', q1, q2⟩ => ⟨m z', p2, z', Gc', p1, rfl, q1, q2⟩, z, z', h1, hk, p3, G1, g1.sub, h4.up g1.old, fun σ' G2 H2 g2 e2 => ⟨G2, (h3.trans g1).trans g2, e2⟩⟩
    | false =>
      rw [if_neg Bool.false_ne_true]
      exact q σ1 G1 H1 (h3.trans g1) (he z h1 hk _ _ (h4.up g1.old))
/-- x, y = a, b -/
theorem s_par {i j : Nat} {x y : Str} {Ra Rb : Rp} {px py pt : Pos} {kt k2 pt2} (hN : X.N.Nodup) (ha : XE X a Γ Ra) (hb : XE X b Γ Rb) (hij : i ≠ j) (hi : X.N[i]? = some x := by rfl) (hj : X.N[j]? = some y := by rfl)
    (hx : X.env.scope.names.lookup x = some .local := by rfl) (hy : X.env.scope.names.lookup y = some .local := by rfl)
    (hw : swappedStores [.Tuple [.Name x px, .Name y py] kt pt] (.Tuple [a, b] k2 pt2) X.env = pure (some [x, y]) := by rfl) (hc : X.calm = true := by rfl)
    (hs : swapsWithSole [.Tuple [.Name x px, .Name y py] kt pt] (.Tuple [a, b] k2 pt2) pos.line X.env = pure false := by rfl)
    (h1 : starEach [a, b] X.env = (false, eval a X.env) :: starEach [b] X.env := by rfl) (h2 : starEach [b] X.env = (false, eval b X.env) :: starEach [] X.env := by rfl) :
    XS X (.Assign [.Tuple [.Name x px, .Name y py] kt pt] (.Tuple [a, b] k2 pt2) pos) Γ (.nxt ((Γ.set i (some Ra)).set j (some Rb))) :=
  PS.of (ps_par hc hN hi hj hij hx hy (a_cons ha (a_cons hb a_nil h2) h1) hw hs) fun D σ H ⟨G, ex, en, q⟩ => ⟨G, ex, en, fun vs G1 H1 g1 r1 => by
    match vs, r1 with
    | [v, w], ⟨r1, r2, _⟩ => exact ⟨v, w, rfl, q _ G1 H1 g1 (((en.up g1.old).set r1).set r2)⟩⟩
/-! ### great numbers -/
theorem mul_ok {i j : Int} {a b : Nat} (ha : i.natAbs < 2 ^ a) (hb : j.natAbs < 2 ^ b) (h : a + b ≤ 134217728) : IntMulOk i j := by
  have bits : ∀ (x : Int) (a : Nat), x.natAbs < 2 ^ a → Builtin.Int.intBits x ≤ a := fun x a hx => by
    unfold Builtin.Int.intBits
    split
    · exact Nat.zero_le _
    · rename_i z
      have nz : x.natAbs ≠ 0 := fun e => z (by have : x = 0 := by omega
                                               subst this
                                               rfl)
      have := (Nat.log2_lt nz).mpr hx
      omega
  have h1 := bits i a ha
  have h2 := bits j b hb
  have e : bitsLine = 134217728 := by decide
  unfold IntMulOk
  intro z
  rw [Bool.and_eq_true] at z
  have z2 := z.2
  unfold Builtin.Int.intTooBig at z2
  have z3 := of_decide_eq_true z2
  rw [e] at z3
  omega
/-- // of numbers of any size: room for the library's own division -/
theorem op_fdivP {env : Env} {l : List Env} (hN : X.base.NoSeer) (ht : X.prog.given.tree = none) (hr : Room 40 X.A) (hst : X.stack = env :: l) (hgen : env.scope.isGenerator = false) (hco : env.scope.isCoroutine = false) (hb : env.builtins = builtinsNs) (hg : env.globals = mainGlobals) :
    OpR X (binaryOp .FloorDiv) (L2.rI (fun _ j => j ≠ 0) fun i j => .int (i.fdiv j)) := by
  intro pins s σ H x y v u Q I rx ry h
  obtain ⟨i, j, rfl, rfl, hc, q⟩ := h
  obtain ⟨t, rfl⟩ := rx
  obtain ⟨t', rfl⟩ := ry
  have hd : X.A.depth + Builtin.pylongFrames < recursionLimit := by
    have := hr.dp
    show X.A.depth + 100 < recursionLimit
    omega
  refine floordiv_int hc ⟨.int (i.fdiv j), H, I.tok _, ⟨_, rfl⟩, q⟩ (.inr (PylongRoom.of I.nolimit hd ?_))
  exact PySem.SeerAt.of (hN.keeps I.bk) ht (by rw [I.ok.frames, hst]) hgen hco hb hg
theorem x_fdivP {i j : Int} {env : Env} {l : List Env} (hN : X.base.NoSeer) (ht : X.prog.given.tree = none) (hr : Room 40 X.A) (ha : XE X a Γ (rZ i)) (hb : XE X b Γ (rZ j)) (hc : j ≠ 0) (hst : X.stack = env :: l := by rfl) (hgen : env.scope.isGenerator = false := by rfl) (hco : env.scope.isCoroutine = false := by rfl) (hbl : env.builtins = builtinsNs := by rfl) (hg : env.globals = mainGlobals := by rfl) :
    XE X (.BinOp a .FloorDiv b pos) Γ (rZ (i.fdiv j)) := x_op2 (op_fdivP hN ht hr hst hgen hco hbl hg) ha hb (iC hc rfl)
end
/-- what a def's walk leans on -/
structure Wd (P : Program) (w : World) (K : PySem.W.Frag) (mg : Str → Option Value) (base : Heap) : Prop where
  t : Tx K mg
  seer : base.NoSeer
  tree : P.given.tree = none
end OQ
/-! ratios.py -/
namespace OQ
open PySem PySem.Spec PyProof.Rows L2
open Lrx1 (Fraction add sub mul divide whole zero one reduce lt le sum entry isZero)
/-- sizes that no operation refuses -/
def Okf (q : Fraction) : Prop := Cn q ∧ Sz 60000000 q
section
variable {P : Program} {w : World} {K : PySem.W.Frag} {mg : Str → Option Value} {base : Heap}
theorem ok_divisor (W : Wd P w K mg base) : FnG P w K mg base "divisor" 1 (fun x : Nat × Nat => [rZ (x.1 : Int), rZ (x.2 : Int)]) (fun _ => True) (fun x => rZ (Nat.gcd x.1 x.2 : Nat)) := by
  refine mk_divisor W.t 0 (fun _ => rfl) fun cdv A outer s H E x0 _ hr => ?_
  refine ss_cons (s_while (fun z : Nat × Nat => [some (rZ (z.1 : Int)), some (rZ (z.2 : Int))]) (fun z => Nat.gcd z.1 z.2 = Nat.gcd x0.1 x0.2) (fun z => decide ((0 : Int) < (z.2 : Int))) (fun z => z.2) x0 rfl (Le.refl _) (fun z _ => t_gt (x_var (i := 1)) x_int)
    (fun z hz hk => ?_) (Γe := [some (rZ (Nat.gcd x0.1 x0.2 : Nat)), none]) fun z hz hk => ?_) (ss_one (s_ret (x_var (i := 0))))
  · have hp : 0 < z.2 := by have := of_decide_eq_true hk; omega
    refine ⟨(z.2, z.1 % z.2), ?_, Nat.mod_lt _ hp, ss_one ?_⟩
    · show Nat.gcd z.2 (z.1 % z.2) = _
      rw [← hz, Nat.gcd_comm, ← Nat.gcd_rec, Nat.gcd_comm]
    · have e : ((z.1 : Int)).fmod (z.2 : Int) = ((z.1 % z.2 : Nat) : Int) := by
        rw [Int.fmod_eq_emod_of_nonneg _ (by omega)]
        rfl
      exact s_par (i := 0) (j := 1) sc_divisor.nd (x_var (i := 1)) (x_eq (x_modN (x_var (i := 0)) (x_var (i := 1)) (by omega)) (by rw [e])) (by decide)
  · have h0 : z.2 = 0 := by have := of_decide_eq_false hk; omega
    have e : z.1 = Nat.gcd x0.1 x0.2 := by rw [← hz, h0, Nat.gcd_zero_right]
    rw [e]
    exact le_same (le_drop le_nil)
theorem ok_ratio (W : Wd P w K mg base) : FnG P w K mg base "ratio" 41 (fun x : Int × Nat => [rZ x.1, rZ (x.2 : Int)]) (fun x => 0 < x.2) (fun x => rF K (reduce x.1 x.2)) := by
  refine mk_ratio W.t 40 (fun _ => rfl) fun cdv A outer s H E x0 hc hr => ?_
  obtain ⟨n, d⟩ := x0
  have hd : 0 < d := hc
  have g0 : 0 < Nat.gcd n.natAbs d := Nat.gcd_pos_of_pos_right _ hd
  have e : reduce n d = ⟨n.fdiv (Nat.gcd n.natAbs d : Nat), d / Nat.gcd n.natAbs d⟩ := by
    unfold reduce
    rw [if_neg (by omega), Int.fdiv_eq_ediv_of_nonneg _ (by omega)]
  refine ss_cons (s_set (i := 2) sc_ratio.nd (x_call (ok_divisor W) hr (by decide) (n.natAbs, d) (a_cons (x_abs (W.t.frees _ (by decide +kernel)) (x_var (i := 0))) (a_cons (x_var (i := 1)) a_nil)) rfl trivial)) (ss_one (s_ret ?_))
  rw [e]
  exact x_frac (x_fdivP W.seer W.tree hr (x_var (i := 0)) (x_var (i := 2)) (by omega)) (x_eq (x_fdivP (i := (d : Int)) (j := (Nat.gcd n.natAbs d : Nat)) W.seer W.tree hr (x_var (i := 1)) (x_var (i := 2)) (by omega)) (by
    rw [Int.fdiv_eq_ediv_of_nonneg _ (by omega)]
    rfl))
end
end OQ
/-! ratios.py, further -/
namespace OQ
open PySem PySem.Spec PyProof.Rows L2
open Lrx1 (Fraction add sub mul divide whole zero one reduce lt le sum entry isZero)
def fpow (q : Fraction) (n : Nat) : Fraction := ⟨q.num ^ n, q.den ^ n⟩
def fprod (l : List Fraction) : Fraction := l.foldl mul one
theorem mul_okf {p q : Fraction} (hp : Okf p) (hq : Okf q) : IntMulOk p.num (q.den : Int) := mul_ok (a := 60000000) (b := 60000000) hp.2.1 (by rw [Int.natAbs_natCast]; exact hq.2.2) (by decide)
theorem mul_okn {p q : Fraction} (hp : Okf p) (hq : Okf q) : IntMulOk p.num q.num := mul_ok (a := 60000000) (b := 60000000) hp.2.1 hq.2.1 (by decide)
theorem mul_okd {p q : Fraction} (hp : Okf p) (hq : Okf q) : IntMulOk (p.den : Int) (q.den : Int) := mul_ok (a := 60000000) (b := 60000000) (by rw [Int.natAbs_natCast]; exact hp.2.2) (by rw [Int.natAbs_natCast]; exact hq.2.2) (by decide)
theorem mul_okr {p q : Fraction} (hp : Okf p) (hq : Okf q) : IntMulOk (p.den : Int) q.num := mul_ok (a := 60000000) (b := 60000000) (by rw [Int.natAbs_natCast]; exact hp.2.2) hq.2.1 (by decide)
theorem getD_rF {K : PySem.W.Frag} {l : List Fraction} {i : Nat} (h : i < l.length) : (l.map (rF K)).getD i rAny = rF K (l.getD i zero) := by
  rw [List.getD_eq_getElem?_getD, List.getElem?_map, List.getD_eq_getElem?_getD, List.getElem?_eq_getElem h]
  rfl
theorem take_getD {l : List Fraction} {i : Nat} (h : i < l.length) : l.take (i + 1) = l.take i ++ [l.getD i zero] := by
  rw [List.take_succ, List.getElem?_eq_getElem h, List.getD_eq_getElem?_getD, List.getElem?_eq_getElem h]
  rfl
theorem rlf_len {K : PySem.W.Frag} {l : List Fraction} : (l.map (rF K)).length = l.length := List.length_map _
section
variable {P : Program} {w : World} {K : PySem.W.Frag} {mg : Str → Option Value} {base : Heap}
section
variable {X : Cx} {Γ : Ctx} {p : Pos}
theorem x_NOTHING (T : Tx X.K X.mg) (hg : Gl X "NOTHING" := by rfl) : XE X (.Name "NOTHING" p) Γ (rF X.K zero) := x_globR (T.refs "NOTHING" a_NOTHING (by decide +kernel)) (fun G => ⟨a_NOTHING, rfl, T.tNOTHING G⟩) hg
theorem x_ONE (T : Tx X.K X.mg) (hg : Gl X "ONE" := by rfl) : XE X (.Name "ONE" p) Γ (rF X.K one) := x_globR (T.refs "ONE" a_ONE (by decide +kernel)) (fun G => ⟨a_ONE, rfl, T.tONE G⟩) hg
end
theorem ok_whole (W : Wd P w K mg base) : FnG P w K mg base "whole" 1 (fun x : Int => [rZ x]) (fun _ => True) (fun x => rF K (whole x)) := by
  refine mk_whole W.t 0 (fun _ => rfl) fun cdv A outer s H E x0 hc hr => ?_
  exact ss_one (s_ret (x_frac (d := 1) (x_var (i := 0)) x_int))
abbrev P2 : Type := Fraction × Fraction
abbrev Ok2 (x : P2) : Prop := Okf x.1 ∧ Okf x.2
theorem ok_plus (W : Wd P w K mg base) : FnG P w K mg base "plus" 42 (fun x : P2 => [rF K x.1, rF K x.2]) Ok2 (fun x => rF K (add x.1 x.2)) := by
  refine mk_plus W.t 41 (fun _ => rfl) fun cdv A outer s H E x0 hc hr => ?_
  obtain ⟨p, q⟩ := x0
  obtain ⟨hp, hq⟩ : Okf p ∧ Okf q := hc
  refine ss_one (s_ret (x_call (ok_ratio W) hr (by decide) (p.num * (q.den : Int) + q.num * (p.den : Int), p.den * q.den) (a_cons (x_add (x_mul (x_num (x_var (i := 0))) (x_den (x_var (i := 1))) (mul_okf hp hq)) (x_mul (x_num (x_var (i := 1))) (x_den (x_var (i := 0))) (mul_okf hq hp)))
    (a_cons (x_mul (x_den (x_var (i := 0))) (x_den (x_var (i := 1))) (mul_okd hp hq)) a_nil)) ?_ (Nat.mul_pos hp.1.1 hq.1.1)))
  show _ = [rZ _, rZ ((p.den * q.den : Nat) : Int)]
  rw [Int.natCast_mul]
theorem ok_minus (W : Wd P w K mg base) : FnG P w K mg base "minus" 42 (fun x : P2 => [rF K x.1, rF K x.2]) Ok2 (fun x => rF K (sub x.1 x.2)) := by
  refine mk_minus W.t 41 (fun _ => rfl) fun cdv A outer s H E x0 hc hr => ?_
  obtain ⟨p, q⟩ := x0
  obtain ⟨hp, hq⟩ : Okf p ∧ Okf q := hc
  refine ss_one (s_ret (x_call (ok_ratio W) hr (by decide) (p.num * (q.den : Int) - q.num * (p.den : Int), p.den * q.den) (a_cons (x_sub (x_mul (x_num (x_var (i := 0))) (x_den (x_var (i := 1))) (mul_okf hp hq)) (x_mul (x_num (x_var (i := 1))) (x_den (x_var (i := 0))) (mul_okf hq hp)))
    (a_cons (x_mul (x_den (x_var (i := 0))) (x_den (x_var (i := 1))) (mul_okd hp hq)) a_nil)) ?_ (Nat.mul_pos hp.1.1 hq.1.1)))
  show _ = [rZ _, rZ ((p.den * q.den : Nat) : Int)]
  rw [Int.natCast_mul]
theorem ok_times (W : Wd P w K mg base) : FnG P w K mg base "times" 42 (fun x : P2 => [rF K x.1, rF K x.2]) Ok2 (fun x => rF K (mul x.1 x.2)) := by
  refine mk_times W.t 41 (fun _ => rfl) fun cdv A outer s H E x0 hc hr => ?_
  obtain ⟨p, q⟩ := x0
  obtain ⟨hp, hq⟩ : Okf p ∧ Okf q := hc
  refine ss_one (s_ret (x_call (ok_ratio W) hr (by decide) (p.num * q.num, p.den * q.den) (a_cons (x_mul (x_num (x_var (i := 0))) (x_num (x_var (i := 1))) (mul_okn hp hq))
    (a_cons (x_mul (x_den (x_var (i := 0))) (x_den (x_var (i := 1))) (mul_okd hp hq)) a_nil)) ?_ (Nat.mul_pos hp.1.1 hq.1.1)))
  show _ = [rZ _, rZ ((p.den * q.den : Nat) : Int)]
  rw [Int.natCast_mul]
theorem ok_over (W : Wd P w K mg base) : FnG P w K mg base "over" 42 (fun x : P2 => [rF K x.1, rF K x.2]) (fun x => Ok2 x ∧ 0 < x.2.num) (fun x => rF K (divide x.1 x.2)) := by
  refine mk_over W.t 41 (fun _ => rfl) fun cdv A outer s H E x0 hc hr => ?_
  obtain ⟨p, q⟩ := x0
  obtain ⟨⟨hp, hq⟩, h0⟩ : (Okf p ∧ Okf q) ∧ 0 < q.num := hc
  have e : divide p q = reduce (p.num * (q.den : Int)) (p.den * q.num.natAbs) := by
    unfold divide
    rw [if_neg (by omega)]
  show XSs _ _ _ (.ret (rF K (divide p q)))
  rw [e]
  refine ss_one (s_ret (x_call (ok_ratio W) hr (by decide) (p.num * (q.den : Int), p.den * q.num.natAbs) (a_cons (x_mul (x_num (x_var (i := 0))) (x_den (x_var (i := 1))) (mul_okf hp hq))
    (a_cons (x_mul (x_den (x_var (i := 0))) (x_num (x_var (i := 1))) (mul_okr hp hq)) a_nil)) ?_ (Nat.mul_pos hp.1.1 (by omega))))
  show _ = [rZ _, rZ ((p.den * q.num.natAbs : Nat) : Int)]
  rw [Int.natCast_mul, Int.natAbs_of_nonneg (by omega)]
theorem ok_is_less (W : Wd P w K mg base) : FnG P w K mg base "is_less" 1 (fun x : P2 => [rF K x.1, rF K x.2]) Ok2 (fun x => rB (lt x.1 x.2)) := by
  refine mk_is_less W.t 0 (fun _ => rfl) fun cdv A outer s H E x0 hc hr => ?_
  obtain ⟨p, q⟩ := x0
  obtain ⟨hp, hq⟩ : Okf p ∧ Okf q := hc
  exact ss_one (s_ret (x_lt (x_mul (x_num (x_var (i := 0))) (x_den (x_var (i := 1))) (mul_okf hp hq)) (x_mul (x_num (x_var (i := 1))) (x_den (x_var (i := 0))) (mul_okf hq hp))))
/-- all of a list within a size, and its sum too -/
def OkL (l : List Fraction) : Prop := ∃ b, (∀ q ∈ l, Cn q ∧ Sz b q) ∧ b + 1 + l.length * (b + 1) ≤ 60000000
theorem OkL.mem {l : List Fraction} (h : OkL l) {i : Nat} (hi : i < l.length) : Okf (l.getD i zero) := by
  obtain ⟨b, h1, h2⟩ := h
  obtain ⟨c, s⟩ := h1 _ (getD_mem hi)
  exact ⟨c, s.mono (by omega)⟩
theorem OkL.part {l : List Fraction} (h : OkL l) (i : Nat) (hi : i ≤ l.length) : Okf (sum (l.take i)) := by
  obtain ⟨b, h1, h2⟩ := h
  refine ⟨cn_sum _, (sz_sum (l := l.take i) (b := b) fun y hy => (h1 y (List.mem_of_mem_take hy)).2).mono ?_⟩
  rw [List.length_take, Nat.min_eq_left hi]
  have := Nat.mul_le_mul_right (b + 1) hi
  omega
theorem ok_total (W : Wd P w K mg base) : FnG P w K mg base "total" 43 (fun x : List Fraction => [rLF K x]) OkL (fun x => rF K (sum x)) := by
  refine mk_total W.t 42 (fun _ => rfl) fun cdv A outer s H E x0 hc hr => ?_
  refine ss_cons (s_set (i := 1) sc_total.nd (x_NOTHING W.t)) (ss_cons (s_for (n := (x0.map (rF K)).length) (is := [2]) (fun i => [some (rLF K x0), some (rF K (sum (x0.take i))), none]) (i_list (x_var (i := 0))) .one (g_one sc_total.nd) (Le.refl _) fun i hi => ?_) (ss_one (s_ret (x_eq (x_var (i := 1)) ?_))))
  · rw [rlf_len] at hi
    rw [getD_rF hi]
    refine ss_out (ss_one (s_set (i := 1) sc_total.nd (x_call (ok_plus W) hr (by decide) (sum (x0.take i), x0.getD i zero) (a_cons (x_var (i := 1)) (a_cons (x_var (i := 2)) a_nil)) rfl ⟨hc.part i (by omega), hc.mem hi⟩))) ?_
    refine le_same (?_ : Le _ _)
    have e : add (sum (x0.take i)) (x0.getD i zero) = sum (x0.take (i + 1)) := by
      unfold sum
      rw [take_getD hi, List.foldl_append]
      rfl
    show Le [some (rF K (add (sum (x0.take i)) (x0.getD i zero))), _] _
    rw [e]
    exact le_same (le_drop le_nil)
  · rw [rlf_len, List.take_length]
/-- .. and its product -/
def OkP (l : List Fraction) : Prop := ∃ b, (∀ q ∈ l, Cn q ∧ Sz b q) ∧ b + 1 + l.length * b ≤ 60000000
theorem cn_fprod (l : List Fraction) : ∀ a, Cn a → Cn (l.foldl mul a) := by
  induction l with
  | nil => exact fun _ h => h
  | cons x l ih => exact fun a _ => ih _ (cn_mul _ _)
theorem sz_fprod {b : Nat} : ∀ {l : List Fraction} {a : Fraction} {c : Nat}, 0 < c → Sz c a → (∀ q ∈ l, Sz b q) → Sz (c + l.length * b) (l.foldl mul a)
  | [], a, c, _, h, _ => by
    rw [show c + ([] : List Fraction).length * b = c by simp]
    exact h
  | y :: l, a, c, h0, h, hl => by
    have h2 := sz_fprod (b := b) (l := l) (c := c + b) (by omega) (sz_mul h (hl y List.mem_cons_self) (by omega)) fun z hz => hl z (List.mem_cons_of_mem _ hz)
    have e : c + b + l.length * b = c + (y :: l).length * b := by
      rw [List.length_cons, Nat.add_mul]
      omega
    rw [e] at h2
    exact h2
theorem OkP.part {l : List Fraction} (h : OkP l) (i : Nat) (hi : i ≤ l.length) : Okf (fprod (l.take i)) := by
  obtain ⟨b, h1, h2⟩ := h
  refine ⟨cn_fprod _ _ cn_one, (sz_fprod (b := b) (l := l.take i) (c := 1) (by decide) (sz_one (by decide)) fun y hy => (h1 y (List.mem_of_mem_take hy)).2).mono ?_⟩
  rw [List.length_take, Nat.min_eq_left hi]
  have := Nat.mul_le_mul_right b hi
  omega
theorem OkP.mem {l : List Fraction} (h : OkP l) {i : Nat} (hi : i < l.length) : Okf (l.getD i zero) := by
  obtain ⟨b, h1, h2⟩ := h
  obtain ⟨c, s⟩ := h1 _ (getD_mem hi)
  exact ⟨c, s.mono (by omega)⟩
theorem ok_product (W : Wd P w K mg base) : FnG P w K mg base "product" 43 (fun x : List Fraction => [rLF K x]) OkP (fun x => rF K (fprod x)) := by
  refine mk_product W.t 42 (fun _ => rfl) fun cdv A outer s H E x0 hc hr => ?_
  refine ss_cons (s_set (i := 1) sc_product.nd (x_ONE W.t)) (ss_cons (s_for (n := (x0.map (rF K)).length) (is := [2]) (fun i => [some (rLF K x0), some (rF K (fprod (x0.take i))), none]) (i_list (x_var (i := 0))) .one (g_one sc_product.nd) (Le.refl _) fun i hi => ?_) (ss_one (s_ret (x_eq (x_var (i := 1)) ?_))))
  · rw [rlf_len] at hi
    rw [getD_rF hi]
    refine ss_out (ss_one (s_set (i := 1) sc_product.nd (x_call (ok_times W) hr (by decide) (fprod (x0.take i), x0.getD i zero) (a_cons (x_var (i := 1)) (a_cons (x_var (i := 2)) a_nil)) rfl ⟨hc.part i (by omega), hc.mem hi⟩))) ?_
    refine le_same (?_ : Le _ _)
    have e : mul (fprod (x0.take i)) (x0.getD i zero) = fprod (x0.take (i + 1)) := by
      unfold fprod
      rw [take_getD hi, List.foldl_append]
      rfl
    show Le [some (rF K (mul (fprod (x0.take i)) (x0.getD i zero))), _] _
    rw [e]
    exact le_same (le_drop le_nil)
  · rw [rlf_len, List.take_length]
/-- q to the power of n, in size -/
theorem pow_lt {x b : Nat} (h : x < 2 ^ b) (hb : 0 < b) : ∀ n : Nat, x ^ n < 2 ^ (b * n + 1)
  | 0 => by simp
  | n + 1 => by
    have ih := pow_lt h hb n
    have e : 2 ^ (b * (n + 1) + 1) = 2 ^ (b * n + 1) * 2 ^ b := by
      rw [← Nat.pow_add]
      congr 1
      rw [Nat.mul_add]
      omega
    rw [Nat.pow_succ, e]
    exact Nat.mul_lt_mul'' ih h
theorem ok_power (W : Wd P w K mg base) : FnG P w K mg base "power" 1 (fun x : Fraction × Nat => [rF K x.1, rZ (x.2 : Int)]) (fun x => ∃ b, 0 < b ∧ Sz b x.1 ∧ b * x.2 + 1 ≤ 60000000 ∧ b ≤ 60000000 ∧ x.2 ≤ 1000) (fun x => rF K (fpow x.1 x.2)) := by
  refine mk_power W.t 0 (fun _ => rfl) fun cdv A outer s H E x0 hc hr => ?_
  obtain ⟨q, n⟩ := x0
  obtain ⟨b, b0, sq, hb, hb2, hn⟩ : ∃ b, 0 < b ∧ Sz b q ∧ b * n + 1 ≤ 60000000 ∧ b ≤ 60000000 ∧ n ≤ 1000 := hc
  have le1 : ∀ i, i < n → b * i + 1 ≤ 60000000 := fun i hi => by
    have := Nat.mul_le_mul_left b (Nat.le_of_lt hi)
    omega
  refine ss_cons (s_set (i := 2) sc_power.nd x_int) (ss_cons (s_set (i := 3) sc_power.nd x_int) (ss_cons (s_for (n := n) (is := [4]) (fun i => [some (rF K q), some (rZ (n : Int)), some (rZ (q.num ^ i)), some (rZ ((q.den ^ i : Nat) : Int)), none])
    (i_range1 (W.t.frees _ (by decide +kernel)) (x_var (i := 1)))   .one (g_one sc_power.nd) (le_eq (by rw [Int.pow_zero, Nat.pow_zero]; rfl)) fun i hi => ?_) (ss_one (s_ret (x_frac (x_var (i := 2)) (x_var (i := 3)))))))
  have m1 : IntMulOk (q.num ^ i) q.num := mul_ok (a := b * i + 1) (b := b) (by rw [Int.natAbs_pow]; exact pow_lt sq.1 b0 i) sq.1 (by have := le1 i hi; omega)
  have m2 : IntMulOk ((q.den ^ i : Nat) : Int) (q.den : Int) := mul_ok (a := b * i + 1) (b := b) (by rw [Int.natAbs_natCast]; exact pow_lt sq.2 b0 i) (by rw [Int.natAbs_natCast]; exact sq.2) (by have := le1 i hi; omega)
  refine ss_out (ss_cons (s_set (i := 2) sc_power.nd (x_mul (x_var (i := 2)) (x_num (x_var (i := 0))) m1)) (ss_one (s_set (i := 3) sc_power.nd (x_mul (x_var (i := 3)) (x_den (x_var (i := 0))) m2)))) ?_
  have e1 : q.num ^ i * q.num = q.num ^ (i + 1) := (Int.pow_succ _ _).symm
  have e2 : ((q.den ^ i : Nat) : Int) * (q.den : Int) = ((q.den ^ (i + 1) : Nat) : Int) := by rw [Nat.pow_succ, Int.natCast_mul]
  show Le [_, _, some (rZ (q.num ^ i * q.num)), some (rZ (((q.den ^ i : Nat) : Int) * (q.den : Int))), _] _
  rw [e1, e2]
  exact le_same (le_same (le_same (le_same (le_drop le_nil))))
end
end OQ
/-! how many are at a station, without a program -/
namespace OQ
open Lrx1 (Fraction add sub mul divide whole zero one reduce lt le sum entry isZero)
open Lrx4 (Network Station stationCount placeCount places stationOf place placesOf getStation arrival service loadIn stationLoadIn stationRateIn utilizationIn)
def fac : Nat → Nat
  | 0 => 1
  | n + 1 => fac n * (n + 1)
theorem fac_lt : ∀ n, n ≤ 20 → fac n < 2 ^ (5 * n + 1) ∧ 0 < fac n
  | 0, _ => by decide
  | n + 1, h => by
    obtain ⟨h1, h2⟩ := fac_lt n (by omega)
    refine ⟨?_, Nat.mul_pos h2 (by omega)⟩
    have := mul_lt_pow h1 (show n + 1 < 2 ^ 5 by omega)
    rw [show 5 * (n + 1) + 1 = 5 * n + 1 + 5 by omega]
    exact this
theorem cn_pow {q : Fraction} (h : Cn q) (n : Nat) : Cn (fpow q n) := by
  refine ⟨Nat.pow_pos h.1, ?_⟩
  show Nat.gcd (q.num ^ n).natAbs (q.den ^ n) = 1
  rw [Int.natAbs_pow]
  exact Nat.Coprime.pow n n h.2
theorem val_pow {q : Fraction} (n : Nat) : val (fpow q n) = val q ^ n := by
  induction n with
  | zero =>
    show val ⟨q.num ^ 0, q.den ^ 0⟩ = val q ^ 0
    rw [Int.pow_zero, Nat.pow_zero, Rat.pow_zero]
    rfl
  | succ n ih =>
    rw [Rat.pow_succ, ← ih, val_nd, val_nd, val_nd]
    show ((q.num ^ (n + 1) : Int) : Rat) / ((q.den ^ (n + 1) : Nat) : Rat) = ((q.num ^ n : Int) : Rat) / ((q.den ^ n : Nat) : Rat) * ((q.num : Rat) / (q.den : Rat))
    rw [Int.pow_succ, Nat.pow_succ, Rat.intCast_mul, Rat.natCast_mul]
    rw [Rat.div_def, Rat.div_def, Rat.div_def, Rat.inv_mul_rev]
    grind
theorem fb_pow {q : Fraction} {b n m : Nat} (h : Fb b q) (hb : 0 < b) (hn : n ≤ m) : Fb (b * m + 1) (fpow q n) := by
  have l : 2 ^ (b * n + 1) ≤ 2 ^ (b * m + 1) := Nat.pow_le_pow_right (by decide) (Nat.add_le_add_right (Nat.mul_le_mul_left _ hn) _)
  refine ⟨cn_pow h.1 n, ?_, Nat.lt_of_lt_of_le (pow_lt h.2.2 hb n) l⟩
  show (q.num ^ n).natAbs < _
  rw [Int.natAbs_pow]
  exact Nat.lt_of_lt_of_le (pow_lt h.2.1 hb n) l
def shareF (q : Fraction) (n : Nat) : Fraction := divide (fpow q n) (whole (fac n : Int))
def weightF (q : Fraction) (c n : Nat) : Fraction := if n ≤ c then shareF q n else mul (shareF q c) (fpow (useF q c) (n - c))
def beyondF (q : Fraction) (c : Nat) : Fraction := mul (shareF q c) (divide (useF q c) (sub one (useF q c)))
def allF (q : Fraction) (c : Nat) : Fraction := add (sum ((List.range (c + 1)).map (shareF q))) (beyondF q c)
def chanceF (q : Fraction) (c n : Nat) : Fraction := divide (weightF q c n) (allF q c)
theorem cn_share (q : Fraction) (n : Nat) : Cn (shareF q n) := cn_divide _ _
theorem val_share {q : Fraction} (h : Cn q) (n : Nat) : val (shareF q n) = val q ^ n / (fac n : Rat) := by
  unfold shareF
  rw [val_divide (cn_pow h n) (cn_whole _), val_pow, val_nat]
theorem rpow_nonneg {x : Rat} (h : 0 ≤ x) : ∀ n : Nat, 0 ≤ x ^ n
  | 0 => by rw [Rat.pow_zero]; decide
  | n + 1 => by rw [Rat.pow_succ]; exact Rat.mul_nonneg (rpow_nonneg h n) h
theorem share_nonneg {q : Fraction} (h : Cn q) (h0 : 0 ≤ val q) (n : Nat) : 0 ≤ val (shareF q n) := by
  rw [val_share h]
  exact div_nonneg' (rpow_nonneg h0 n) Rat.natCast_nonneg
theorem fb_share {q : Fraction} (h : Fb 1700 q) {n : Nat} (hn : n ≤ 20) : Fb 34102 (shareF q n) := by
  have := fb_div (fb_pow h (by decide) hn) (fb_nat (b := 101) (Nat.lt_of_lt_of_le (fac_lt n hn).1 (Nat.pow_le_pow_right (by decide) (by omega))))
  exact this
section
variable {q : Fraction} {c : Nat}
theorem Ld.fbw (h : Ld q c) {n : Nat} (hn : n ≤ 60) : Fb 136403 (weightF q c n) := by
  unfold weightF
  split
  · exact (fb_share h.fb (by have := h.c20; omega)).mono (by decide)
  · exact (fb_mul (fb_share h.fb h.c20) (fb_pow (m := 60) h.fbu (by decide) (by omega))).mono (by decide)
theorem Ld.fby (h : Ld q c) : Fb 38000 (beyondF q c) := (fb_mul (fb_share h.fb h.c20) (fb_div h.fbu (fb_sub fb_one h.fbu))).mono (by decide)
theorem share_all (h : Ld q c) : ∀ y ∈ (List.range (c + 1)).map (shareF q), Fb 34102 y := fun y hy => by
  obtain ⟨n, hn, rfl⟩ := List.mem_map.mp hy
  have := List.mem_range.mp hn
  exact fb_share h.fb (by have := h.c20; omega)
theorem Ld.fbs (h : Ld q c) : Fb 716164 (sum ((List.range (c + 1)).map (shareF q))) := (fb_sum (share_all h)).mono (by
  rw [List.length_map, List.length_range]
  have := h.c20
  omega)
theorem Ld.fba (h : Ld q c) : Fb 754165 (allF q c) := by
  have := fb_add h.fbs h.fby
  exact this
theorem beyond_nonneg (h : Ld q c) : 0 ≤ val (beyondF q c) := by
  unfold beyondF
  rw [val_mul (cn_share _ _) (cn_divide _ _), val_divide (cn_use _ _) (cn_sub _ _), val_sub cn_one (cn_use _ _), val_one]
  have := h.u1
  exact Rat.mul_nonneg (share_nonneg h.fb.1 h.nn c) (div_nonneg' h.u0 (by grind))
theorem Ld.all_pos (h : Ld q c) : 0 < (allF q c).num := by
  rw [num_pos_iff h.fba.1]
  unfold allF
  rw [val_add (cn_sum _) h.fby.1, val_sum fun y hy => (share_all h y hy).1]
  have e : ∀ x ∈ ((List.range (c + 1)).map (shareF q)).map val, 0 ≤ x := fun x hx => by
    obtain ⟨y, hy, rfl⟩ := List.mem_map.mp hx
    obtain ⟨n, hn, rfl⟩ := List.mem_map.mp hy
    exact share_nonneg h.fb.1 h.nn n
  have m : (1 : Rat) ∈ ((List.range (c + 1)).map (shareF q)).map val := by
    refine List.mem_map.mpr ⟨shareF q 0, List.mem_map.mpr ⟨0, List.mem_range.mpr (by omega), rfl⟩, ?_⟩
    rw [val_share h.fb.1, Rat.pow_zero]
    decide +kernel
  have s := rsum_pos_of_mem e m
  have b := beyond_nonneg h
  grind
theorem Ld.fbp (h : Ld q c) {n : Nat} (hn : n ≤ 60) : Fb 890568 (chanceF q c n) := by
  have := fb_div (h.fbw hn) h.fba
  exact this
/-! the document's -/
def dPow (u : Fraction) (k : Nat) : Fraction := (List.range k).foldl (fun (a : Fraction) (_ : Nat) => mul a u) one
def dWei (q : Fraction) (k : Nat) : Fraction := (List.range k).foldl (fun (a : Fraction) (j : Nat) => divide (mul a q) (whole ((j + 1 : Nat) : Int))) one
theorem dPow_succ (u : Fraction) (k : Nat) : dPow u (k + 1) = mul (dPow u k) u := by
  unfold dPow
  rw [List.range_succ, List.foldl_append]
  rfl
theorem dWei_succ (u : Fraction) (k : Nat) : dWei u (k + 1) = divide (mul (dWei u k) u) (whole ((k + 1 : Nat) : Int)) := by
  unfold dWei
  rw [List.range_succ, List.foldl_append]
  rfl
theorem dPow_ok {u : Fraction} (h : Cn u) : ∀ k, Cn (dPow u k) ∧ val (dPow u k) = val u ^ k
  | 0 => ⟨cn_one, by rw [Rat.pow_zero]; exact val_one⟩
  | k + 1 => by
    obtain ⟨h1, h2⟩ := dPow_ok h k
    rw [dPow_succ]
    exact ⟨cn_mul _ _, by rw [val_mul h1 h, h2, Rat.pow_succ]⟩
theorem dWei_ok {u : Fraction} (h : Cn u) : ∀ k, Cn (dWei u k) ∧ val (dWei u k) = val u ^ k / (fac k : Rat)
  | 0 => ⟨cn_one, by rw [Rat.pow_zero, show dWei u 0 = one from rfl, val_one]; decide +kernel⟩
  | k + 1 => by
    obtain ⟨h1, h2⟩ := dWei_ok h k
    rw [dWei_succ]
    refine ⟨cn_divide _ _, ?_⟩
    rw [val_divide (cn_mul _ _) (cn_whole _), val_mul h1 h, h2, Rat.pow_succ, val_nat]
    show val u ^ k / (fac k : Rat) * val u / ((k + 1 : Nat) : Rat) = val u ^ k * val u / ((fac k * (k + 1) : Nat) : Rat)
    rw [Rat.natCast_mul]
    rw [Rat.div_def, Rat.div_def, Rat.div_def, Rat.inv_mul_rev]
    grind
theorem dWei_eq {u : Fraction} (h : Cn u) (k : Nat) : dWei u k = shareF u k := val_inj (dWei_ok h k).1 (cn_share _ _) (by rw [(dWei_ok h k).2, val_share h])
theorem dPow_eq {u : Fraction} (h : Cn u) (k : Nat) : dPow u k = fpow u k := val_inj (dPow_ok h k).1 (cn_pow h k) (by rw [(dPow_ok h k).2, val_pow])
theorem rsum_snoc (l : List Rat) (x : Rat) : rsum (l ++ [x]) = rsum l + x := by
  rw [rsum_append]
  show rsum l + (x + 0) = rsum l + x
  rw [Rat.add_zero]
theorem norm_eq (h : Ld q c) : add (sum ((List.range c).map (dWei q))) (divide (dWei q c) (sub one (useF q c))) = allF q c := by
  have hm : (List.range c).map (dWei q) = (List.range c).map (shareF q) := List.map_congr_left fun k _ => dWei_eq h.fb.1 k
  have hc : ∀ n, ∀ y ∈ (List.range n).map (shareF q), Cn y := fun n y hy => by
    obtain ⟨k, _, rfl⟩ := List.mem_map.mp hy
    exact cn_share _ _
  rw [hm, dWei_eq h.fb.1]
  refine val_inj (cn_add _ _) h.fba.1 ?_
  unfold allF beyondF
  rw [val_add (cn_sum _) (cn_divide _ _), val_add (cn_sum _) (cn_mul _ _), val_sum (hc c), val_sum (hc (c + 1)), List.range_succ, List.map_append, List.map_append, val_divide (cn_share _ _) (cn_sub _ _), val_mul (cn_share _ _) (cn_divide _ _), val_divide (cn_use _ _) (cn_sub _ _), val_sub cn_one (cn_use _ _), val_one]
  rw [show List.map val (List.map (shareF q) [c]) = [val (shareF q c)] from rfl, rsum_snoc]
  have := h.u1
  have : 1 - val (useF q c) ≠ 0 := by grind
  grind
end
def chanceM (net : Network) (r : Lrx1.Row) (i n : Nat) : Fraction := chanceF (stationLoadIn net r i) (Lrx4.servers net i) n
theorem chance_eq {net : Network} {r : Lrx1.Row} (h : Sta net r) {i : Nat} (hi : i < stationCount net) (hk : (getStation net i).kind ≠ 2) (n : Nat) : Lrx4.numberProbabilityIn net r i n = chanceM net r i n := by
  have l := h.ld hi hk
  unfold Lrx4.numberProbabilityIn chanceM
  rw [util_use hk]
  show divide (if n ≤ Lrx4.servers net i then dWei (stationLoadIn net r i) n else mul (dWei (stationLoadIn net r i) (Lrx4.servers net i)) (dPow (useF (stationLoadIn net r i) (Lrx4.servers net i)) (n - Lrx4.servers net i))) (add (sum ((List.range (Lrx4.servers net i)).map (dWei (stationLoadIn net r i)))) (divide (dWei (stationLoadIn net r i) (Lrx4.servers net i)) (sub one (useF (stationLoadIn net r i) (Lrx4.servers net i))))) = _
  rw [norm_eq l, dWei_eq l.fb.1, dWei_eq l.fb.1, dPow_eq (cn_use _ _)]
  rfl
end OQ
/-! the questions' answers, without a program -/
namespace OQ
open Lrx1 (Fraction add sub mul divide whole zero one reduce lt le sum entry isZero)
open Lrx4 (Network Station stationCount placeCount places stationOf place placesOf getStation arrival service loadIn stationLoadIn stationRateIn utilizationIn)
def resR (r : Lrx4.Result) : List Int := r.num :: r.nums
def res (c : Lrx4.Call) (net : Network) : List Int := resR (Lrx4.step (some net) c).2
theorem sta_of {net : Network} (ok : NetOk net) (h : Lrx4.isStable net = true) : Sta net (Lrx4.traffic net) ∧ Lrx4.isOpen net = true := by
  unfold Lrx4.isStable at h
  rw [Bool.and_eq_true] at h
  refine ⟨⟨ok, traffic_rt ok h.1, fun i hi => ?_⟩, h.1⟩
  have h2 := List.all_eq_true.mp h.2 (utilizationIn net (Lrx4.traffic net) i) (List.mem_map.mpr ⟨i, List.mem_range.mpr hi, rfl⟩)
  have := (lt_iff (cn_util i) cn_one).mp h2
  rw [val_one] at this
  exact this
theorem open_of {net : Network} (h : Lrx4.isOpen net = false) : Lrx4.isStable net = false := by
  unfold Lrx4.isStable
  rw [h]
  rfl
theorem fold_whole : ∀ (l : List Nat) (a : Nat), (l.map fun (n : Nat) => whole (n : Int)).foldl add (whole (a : Int)) = whole ((a + l.sum : Nat) : Int)
  | [], a => rfl
  | x :: l, a => by
    rw [List.map_cons, List.foldl_cons]
    have e : add (whole (a : Int)) (whole (x : Int)) = whole ((a + x : Nat) : Int) := by
      refine val_inj (cn_add _ _) (cn_whole _) ?_
      rw [val_add (cn_whole _) (cn_whole _), val_nat, val_nat, val_nat, Rat.natCast_add]
    rw [e, fold_whole l (a + x), List.sum_cons, Nat.add_assoc]
theorem sum_whole (l : List Nat) : sum (l.map fun (n : Nat) => whole (n : Int)) = whole ((l.sum : Nat) : Int) := by
  have := fold_whole l 0
  rw [Nat.zero_add] at this
  exact this
theorem map_getD {l : List Nat} {d : Nat} : (List.range l.length).map (fun i => l.getD i d) = l := by
  refine List.ext_getElem (by rw [List.length_map, List.length_range]) fun i h1 h2 => ?_
  rw [List.getElem_map, List.getElem_range, List.getD_eq_getElem?_getD, List.getElem?_eq_getElem h2]
  rfl
theorem external_eq {net : Network} (ok : NetOk net) : Lrx4.externalRate net = whole ((net.arrivals.sum : Nat) : Int) := by
  unfold Lrx4.externalRate places
  rw [← sum_whole]
  congr 1
  have e : (List.range (placeCount net)).map (fun p => whole (arrival net p : Int)) = ((List.range net.arrivals.length).map fun i => net.arrivals.getD i 0).map fun (n : Nat) => whole (n : Int) := by
    rw [List.map_map, ok.la]
    rfl
  rw [e, map_getD]
theorem rsum_cons (x : Rat) (l : List Rat) : rsum (x :: l) = x + rsum l := rfl
theorem rsum_add {n : Nat} (f g : Nat → Rat) : rsum ((List.range n).map fun i => f i + g i) = rsum ((List.range n).map f) + rsum ((List.range n).map g) := by
  generalize List.range n = l
  induction l with
  | nil =>
    show (0 : Rat) = 0 + 0
    rw [Rat.add_zero]
  | cons a l ih =>
    rw [List.map_cons, List.map_cons, List.map_cons, rsum_cons, rsum_cons, rsum_cons, ih]
    grind
theorem rsum_zeros {n : Nat} : rsum ((List.range n).map fun _ => (0 : Rat)) = 0 := by
  generalize List.range n = l
  induction l with
  | nil => rfl
  | cons a l ih =>
    rw [List.map_cons, rsum_cons, ih, Rat.add_zero]
theorem rsum_pick {x : Rat} {k : Nat} : ∀ n, k < n → rsum ((List.range n).map fun i => if k == i then x else 0) = x
  | n + 1, h => by
    rw [List.range_succ, List.map_append, rsum_append]
    show _ + rsum [if k == n then x else 0] = x
    by_cases e : k = n
    · subst e
      have z : rsum ((List.range k).map fun i => if k == i then x else 0) = 0 := by
        rw [List.map_congr_left (g := fun _ => (0 : Rat)) fun i hi => ?_, rsum_zeros]
        have := List.mem_range.mp hi
        rw [if_neg]
        intro c
        have := beq_iff_eq.mp c
        omega
      rw [z, if_pos (beq_self_eq_true k), rsum_cons]
      show 0 + (x + 0) = x
      grind
    · rw [rsum_pick n (by omega), if_neg (by intro c; exact e (beq_iff_eq.mp c)), rsum_cons]
      show x + (0 + 0) = x
      grind
theorem rsum_parts {n : Nat} (hn : 0 < n) (f : Nat → Rat) : ∀ l : List Nat, rsum ((List.range n).map fun i => rsum ((l.filter fun p => p % n == i).map f)) = rsum (l.map f)
  | [] => by
    show rsum ((List.range n).map fun _ => (0 : Rat)) = 0
    exact rsum_zeros
  | p :: l => by
    rw [List.map_cons, rsum_cons, ← rsum_parts hn f l, ← rsum_pick (x := f p) n (Nat.mod_lt p hn), ← rsum_add]
    congr 1
    refine List.map_congr_left fun i _ => ?_
    rw [List.filter_cons]
    by_cases e : (p % n == i) = true
    · rw [if_pos e, if_pos e, List.map_cons, rsum_cons]
    · rw [if_neg e, if_neg e, Rat.zero_add]
def stNumM (net : Network) (r : Lrx1.Row) (i : Nat) : Fraction := sum ((placesOf net i).map (numberM net r))
def timeFromM (net : Network) (r : Lrx1.Row) (p : Nat) : Fraction := sum ((places net).map fun q => mul (entry (Lrx4.visitsFrom net p) q) (timeM net r q))
def stateL (net : Network) (r : Lrx1.Row) (ns : List Nat) : List Fraction := (List.range ns.length).map fun i => chanceM net r i (ns.getD i 0)
theorem fb_stNum {net : Network} {r : Lrx1.Row} (st : Sta net r) {i : Nat} (hi : i < stationCount net) : Fb 228604 (stNumM net r i) := by
  refine (fb_sum (b := 76200) fun y hy => ?_).mono ?_
  · obtain ⟨p, _, rfl⟩ := List.mem_map.mp hy
    exact fb_number st p
  · rw [List.length_map, placesOf_len hi]
    have := st.ok.cl.2
    omega
theorem stNum_eq {net : Network} {r : Lrx1.Row} (st : Sta net r) (i : Nat) : stNumM net r i = Lrx4.stationNumberIn net r i := by
  unfold stNumM Lrx4.stationNumberIn
  congr 1
  exact List.map_congr_left fun p hp => number_eq st (placesOf_mem hp)
theorem total_eq {net : Network} (st : Sta net (Lrx4.traffic net)) : sum ((List.range (stationCount net)).map (stNumM net (Lrx4.traffic net))) = Lrx4.totalNumber net := by
  unfold Lrx4.totalNumber
  have c1 : ∀ x ∈ (List.range (stationCount net)).map (stNumM net (Lrx4.traffic net)), Cn x := fun x hx => by
    obtain ⟨i, _, rfl⟩ := List.mem_map.mp hx
    exact cn_sum _
  have e2 : (places net).map (Lrx4.placeNumberIn net (Lrx4.traffic net)) = (places net).map (numberM net (Lrx4.traffic net)) := List.map_congr_left fun p hp => (number_eq st (List.mem_range.mp hp)).symm
  have c2 : ∀ x ∈ (places net).map (numberM net (Lrx4.traffic net)), Cn x := fun x hx => by
    obtain ⟨p, _, rfl⟩ := List.mem_map.mp hx
    exact (fb_number st p).1
  dsimp only
  rw [e2]
  refine val_inj (cn_sum _) (cn_sum _) ?_
  rw [val_sum c1, val_sum c2, List.map_map, List.map_map]
  have := rsum_parts (n := stationCount net) st.ok.st.1 (fun p => val (numberM net (Lrx4.traffic net) p)) (places net)
  refine Eq.trans ?_ this
  congr 1
  refine List.map_congr_left fun i _ => ?_
  show val (stNumM net (Lrx4.traffic net) i) = _
  unfold stNumM
  rw [val_sum fun x hx => ?_]
  · rw [List.map_map]
    rfl
  · obtain ⟨p, _, rfl⟩ := List.mem_map.mp hx
    exact (fb_number st p).1
theorem timeFrom_eq {net : Network} (st : Sta net (Lrx4.traffic net)) (p : Nat) : timeFromM net (Lrx4.traffic net) p = Lrx4.timeFrom net p := by
  unfold timeFromM Lrx4.timeFrom
  dsimp only
  congr 1
  exact List.map_congr_left fun q _ => by rw [time_eq st]
theorem state_eq {net : Network} (st : Sta net (Lrx4.traffic net)) (hk : ∀ i, i < stationCount net → (getStation net i).kind ≠ 2) {ns : List Nat} (hl : ns.length = stationCount net) : fprod (stateL net (Lrx4.traffic net) ns) = Lrx4.stateProbability net ns := by
  have key : ∀ (l : List Nat) (a : Fraction), (∀ i ∈ l, i < stationCount net) → (l.map fun i => chanceM net (Lrx4.traffic net) i (ns.getD i 0)).foldl mul a = l.foldl (fun (p : Fraction) (i : Nat) => mul p (Lrx4.numberProbabilityIn net (Lrx4.traffic net) i (ns.getD i 0))) a := fun l => by
    induction l with
    | nil => intro a _; rfl
    | cons i l ih =>
      intro a h
      have hi := h i List.mem_cons_self
      rw [List.map_cons, List.foldl_cons, List.foldl_cons, chance_eq st hi (hk i hi), ih _ fun j hj => h j (List.mem_cons_of_mem _ hj)]
  have k2 := key (List.range (stationCount net)) one fun i hi => List.mem_range.mp hi
  rw [← hl] at k2
  unfold fprod stateL
  refine k2.trans ?_
  rw [hl]
  rfl
theorem any_kind (net : Network) : (net.stations.any fun s => s.kind == 2) = false → ∀ i, i < stationCount net → (getStation net i).kind ≠ 2 := fun h i hi e => by
  have := List.any_eq_false.mp h (getStation net i) (by
    unfold getStation
    exact getD_mem hi)
  exact this (beq_iff_eq.mpr e)
end OQ
/-! linear.py -/
namespace OQ
open PySem PySem.Spec PyProof.Rows L2
open Lrx1 (Fraction add sub mul divide whole zero one reduce lt le sum entry isZero)
/-- a list of lists of fractions -/
abbrev rLL (K : PySem.W.Frag) (R : List Row) : Rp := rL (R.map (rLF K))
theorem range_map_rF {K : PySem.W.Frag} {l : List Fraction} {f : Fraction → Fraction} : (List.range l.length).map (fun i => rF K (f (l.getD i zero))) = (l.map f).map (rF K) := by
  refine List.ext_getElem (by rw [List.length_map, List.length_map, List.length_map, List.length_range]) fun i h1 h2 => ?_
  rw [List.getElem_map, List.getElem_map, List.getElem_map, List.getElem_range]
  rw [List.length_map, List.length_range] at h1
  rw [List.getD_eq_getElem?_getD, List.getElem?_eq_getElem h1]
  rfl
theorem okf10 {q : Fraction} (h : Cn q) (s : Sz 10000000 q) : Okf q := ⟨h, s.mono (by decide)⟩
theorem getD_rLL {K : PySem.W.Frag} {R : List Row} {i : Nat} (h : i < R.length) : (R.map (rLF K))[i]? = some (rLF K (R.getD i [])) := by
  rw [List.getElem?_map, List.getD_eq_getElem?_getD, List.getElem?_eq_getElem h]
  rfl
theorem at_rLF {K : PySem.W.Frag} {l : List Fraction} {i : Nat} (h : i < l.length) : (l.map (rF K))[i]? = some (rF K (entry l i)) := by
  rw [List.getElem?_map, List.getElem?_eq_getElem h]
  unfold entry
  rw [List.getD_eq_getElem?_getD, List.getElem?_eq_getElem h]
  rfl
section
variable {P : Program} {w : World} {K : PySem.W.Frag} {mg : Str → Option Value} {base : Heap}
theorem ok_scaled (W : Wd P w K mg base) : FnG P w K mg base "scaled" 43 (fun x : Row × Fraction => [rLF K x.1, rF K x.2]) (fun x => (∀ q ∈ x.1, Okf q) ∧ Okf x.2 ∧ 0 < x.2.num ∧ x.1.length ≤ 1000) (fun x => rLF K (mScaled x.1 x.2)) := by
  refine mk_scaled W.t 42 (fun _ => rfl) fun cdv A outer s H E x0 hc hr => ?_
  obtain ⟨row, p⟩ := x0
  obtain ⟨h1, h2, h3, h4⟩ : (∀ q ∈ row, Okf q) ∧ Okf p ∧ 0 < p.num ∧ row.length ≤ 1000 := hc
  refine ss_one (s_ret (x_eq (x_lc (n := (row.map (rF K)).length) (is := [2]) (own := [("one", 2)]) (fun i => rF K (divide (row.getD i zero) p)) sc_scaled.nd (i_list (x_var (i := 0))) (blkOk_by (N := N_scaled) (sc := defScope s_scaled) (by decide +kernel)) rfl .one (fun _ _ _ _ _ => g_one sc_scaled.nd) (fun s' H' C' cl fp i hi => ?_) (by rw [rlf_len]; exact h4)) ?_))
  · rw [rlf_len] at hi
    rw [getD_rF hi]
    exact x_call (ok_over W) hr (by decide) (row.getD i zero, p) (a_cons (x_var (i := 2)) (a_cons (x_var (i := 1)) a_nil)) rfl ⟨⟨h1 _ (getD_mem hi), h2⟩, h3⟩
  · rw [rlf_len, range_map_rF (f := fun x => divide x p)]
    rfl
end
end OQ
/-! linear.py, further -/
namespace OQ
open PySem PySem.Spec PyProof.Rows L2
open Lrx1 (Fraction add sub mul divide whole zero one reduce lt le sum entry isZero)
theorem mul_okf2 {p q : Fraction} (hp : Cn p) (hq : Cn q) (sp : Sz 10000000 p) (sq : Sz 10000000 q) : Okf (mul p q) := ⟨cn_mul _ _, (sz_mul sp sq (by decide)).mono (by decide)⟩
theorem range_zip_rF {K : PySem.W.Frag} {l m : List Fraction} (hl : l.length = m.length) {f : Fraction → Fraction → Fraction} : (List.range l.length).map (fun i => rF K (f (l.getD i zero) (m.getD i zero))) = (List.zipWith f l m).map (rF K) := by
  refine List.ext_getElem (by rw [List.length_map, List.length_map, List.length_range, List.length_zipWith, hl, Nat.min_self]) fun i h1 h2 => ?_
  rw [List.getElem_map, List.getElem_map, List.getElem_range, List.getElem_zipWith]
  rw [List.length_map, List.length_range] at h1
  rw [List.getD_eq_getElem?_getD, List.getElem?_eq_getElem h1, List.getD_eq_getElem?_getD, List.getElem?_eq_getElem (by omega)]
  rfl
theorem range_rLF {K : PySem.W.Frag} {n : Nat} {f : Nat → Row} : (List.range n).map (fun i => rLF K (f i)) = ((List.range n).map f).map (rLF K) := by rw [List.map_map]; rfl
section
variable {P : Program} {w : World} {K : PySem.W.Frag} {mg : Str → Option Value} {base : Heap}
theorem ok_taken (W : Wd P w K mg base) : FnG P w K mg base "taken" 43 (fun x : Row × Row × Fraction => [rLF K x.1, rLF K x.2.1, rF K x.2.2])
    (fun x => x.1.length = x.2.1.length ∧ x.1.length ≤ 1000 ∧ (∀ q ∈ x.1, Cn q ∧ Sz 10000000 q) ∧ (∀ q ∈ x.2.1, Cn q ∧ Sz 10000000 q) ∧ (Cn x.2.2 ∧ Sz 10000000 x.2.2)) (fun x => rLF K (mTaken x.1 x.2.1 x.2.2)) := by
  refine mk_taken W.t 42 (fun _ => rfl) fun cdv A outer s H E x0 hc hr => ?_
  obtain ⟨row, lead, f⟩ := x0
  obtain ⟨hl, hn, h1, h2, h3⟩ : row.length = lead.length ∧ row.length ≤ 1000 ∧ (∀ q ∈ row, Cn q ∧ Sz 10000000 q) ∧ (∀ q ∈ lead, Cn q ∧ Sz 10000000 q) ∧ (Cn f ∧ Sz 10000000 f) := hc
  refine ss_if (t_eqF hr (x_var (i := 2)) (x_NOTHING W.t)) (fun h => ?_) (fun h => ?_)
  · have e : mTaken row lead f = row := by unfold mTaken; rw [if_pos (of_decide_eq_true h)]
    exact ss_one (s_ret (x_eq (x_var (i := 0)) (by rw [e])))
  · have e : mTaken row lead f = List.zipWith (fun x y => if y = zero then x else sub x (mul f y)) row lead := by unfold mTaken; rw [if_neg (of_decide_eq_false h)]
    refine ss_one (s_ret (x_eq (x_lc (n := (row.map (rF K)).length) (is := [3, 4]) (own := [("one", 3), ("other", 4)]) (fun i => rF K (if lead.getD i zero = zero then row.getD i zero else sub (row.getD i zero) (mul f (lead.getD i zero)))) sc_taken.nd
      (i_zip (W.t.frees _ (by decide +kernel)) (x_var (i := 0)) (x_var (i := 1)) (by rw [rlf_len, rlf_len, hl])) (blkOk_by (N := N_taken) (sc := defScope s_taken) (by decide +kernel)) rfl .two (fun _ _ _ _ _ => g_two sc_taken.nd) (fun s' H' C' cl fp i hi => ?_) (by rw [rlf_len]; exact hn)) ?_))
    · rw [rlf_len] at hi
      rw [getD_rF hi, getD_rF (show i < lead.length by omega)]
      have m1 := h1 _ (getD_mem (d := zero) hi)
      have m2 := h2 _ (getD_mem (d := zero) (show i < lead.length by omega))
      refine x_ifExp (t_eqF hr (x_var (i := 4)) (x_NOTHING W.t)) (fun q => ?_) (fun q => ?_)
      · exact x_eq (x_var (i := 3)) (by rw [if_pos (of_decide_eq_true q)])
      · refine x_eq (x_call (ok_minus W) hr (by decide) (row.getD i zero, mul f (lead.getD i zero)) (a_cons (x_var (i := 3)) (a_cons (x_call (ok_times W) hr (by decide) (f, lead.getD i zero) (a_cons (x_var (i := 2)) (a_cons (x_var (i := 4)) a_nil)) rfl ⟨okf10 h3.1 h3.2, okf10 m2.1 m2.2⟩) a_nil)) rfl ⟨okf10 m1.1 m1.2, mul_okf2 h3.1 m2.1 h3.2 m2.2⟩) ?_
        rw [if_neg (of_decide_eq_false q)]
        rfl
    · rw [rlf_len, e, range_zip_rF (f := fun x y => if y = zero then x else sub x (mul f y)) hl]
/-- the elimination's step: what it asks -/
structure Stp (n at_ : Nat) (R : List Row) : Prop where
  rows : Rows n R
  lt : at_ < n
  n15 : n ≤ 15
  piv : 0 < val (entry (R.getD at_ []) at_)
  small : ∀ r ∈ R, ∀ x ∈ r, Sz 10000000 x
  lead : ∀ x ∈ mScaled (R.getD at_ []) (entry (R.getD at_ []) at_), Sz 10000000 x
theorem entry_mem {r : Row} {j : Nat} (h : j < r.length) : entry r j ∈ r := getD_mem h
theorem ok_cleared (W : Wd P w K mg base) : FnG P w K mg base "cleared" 44 (fun x : Nat × List Row × Nat => [rLL K x.2.1, rZ (x.2.2 : Int)]) (fun x => Stp x.1 x.2.2 x.2.1) (fun x => rLL K (mCleared x.2.1 x.2.2)) := by
  refine mk_cleared W.t 43 (fun _ => rfl) fun cdv A outer s H E x0 hc hr => ?_
  obtain ⟨n, R, c⟩ := x0
  have hc : Stp n c R := hc
  have hl := hc.rows.len
  have hlt := hc.lt
  have mc : R.getD c [] ∈ R := getD_mem (by omega)
  have wc := hc.rows.wid _ mc
  have rowx : ∀ {X : Cx} {Γ : Ctx} {a b : Expr} {pos : Pos} {i : Nat}, i < n → XE X a Γ (rLL K R) → XE X b Γ (rZ (i : Int)) → PlainIx b → XE X (.Subscript a b pos) Γ (rLF K (R.getD i [])) := fun hi ha hb hp => x_ix ha hb (getD_rLL (by omega)) hp
  have piv : 0 < (entry (R.getD c []) c).num := (num_pos_iff (hc.rows.cnE hlt c)).mpr hc.piv
  have pm := entry_mem (r := R.getD c []) (j := c) (by omega)
  refine ss_cons (s_set (i := 2) sc_cleared.nd (x_call (ok_scaled W) hr (by decide) (R.getD c [], entry (R.getD c []) c) (a_cons (rowx hlt (x_var (i := 0)) (x_var (i := 1)) fun _ _ => rfl) (a_cons (x_ix (rowx hlt (x_var (i := 0)) (x_var (i := 1)) fun _ _ => rfl) (x_var (i := 1)) (at_rLF (by omega))) a_nil)) rfl
    ⟨fun q hq => okf10 (hc.rows.cn _ mc q hq) (hc.small _ mc q hq), okf10 (hc.rows.cn _ mc _ pm) (hc.small _ mc _ pm), piv, by show (R.getD c []).length ≤ 1000; have := hc.n15; omega⟩)) (ss_one (s_ret (x_eq (x_lc (n := (R.map (rLF K)).length) (is := [3]) (own := [("k", 3)])
      (fun i => rLF K (if i = c then mScaled (R.getD c []) (entry (R.getD c []) c) else mTaken (R.getD i []) (mScaled (R.getD c []) (entry (R.getD c []) c)) (entry (R.getD i []) c))) sc_cleared.nd
      (i_range1 (W.t.frees _ (by decide +kernel)) (x_len (W.t.frees _ (by decide +kernel)) (x_var (i := 0))) (by rw [List.length_map]; have := hc.n15; omega)) (blkOk_by (N := N_cleared) (sc := defScope s_cleared) (by decide +kernel)) rfl .one (fun _ _ _ _ _ => g_one sc_cleared.nd) (fun s' H' C' cl fp i hi => ?_) (by rw [List.length_map]; have := hc.n15; omega)) ?_)))
  · rw [List.length_map] at hi
    have hi2 : i < n := by omega
    have mi : R.getD i [] ∈ R := getD_mem (by omega)
    have wi := hc.rows.wid _ mi
    have pi := entry_mem (r := R.getD i []) (j := c) (by omega)
    refine x_ifExp (t_eqI (x_var (i := 3)) (x_var (i := 1))) (fun q => ?_) (fun q => ?_)
    · have q1 : (i : Int) = (c : Int) := of_decide_eq_true q
      have e : i = c := by omega
      exact x_eq (x_var (i := 2)) (by rw [if_pos e] <;> rfl)
    · have q1 : ¬ (i : Int) = (c : Int) := of_decide_eq_false q
      have e : ¬ i = c := by omega
      refine x_eq (x_call (ok_taken W) hr (by decide) (R.getD i [], mScaled (R.getD c []) (entry (R.getD c []) c), entry (R.getD i []) c) (a_cons (rowx hi2 (x_var (i := 0)) (x_var (i := 3)) fun _ _ => rfl) (a_cons (x_var (i := 2)) (a_cons (x_ix (rowx hi2 (x_var (i := 0)) (x_var (i := 3)) fun _ _ => rfl) (x_var (i := 1)) (at_rLF (by omega))) a_nil))) rfl
        ⟨by show (R.getD i []).length = (mScaled (R.getD c []) (entry (R.getD c []) c)).length; rw [scaled_len, wc, wi], by show (R.getD i []).length ≤ 1000; have := hc.n15; omega, fun q hq => ⟨hc.rows.cn _ mi q hq, hc.small _ mi q hq⟩, fun q hq => ⟨scaled_cn q hq, hc.lead q hq⟩, hc.rows.cn _ mi _ pi, hc.small _ mi _ pi⟩) ?_
      rw [if_neg e]
      rfl
  · rw [List.length_map, range_rLF]
    rfl
theorem Run.stp {n : Nat} {R : List Row} (h : Run n R) (hn : n ≤ 15) {c : Nat} (hc : c < n) : Stp n c (mIter R c) := by
  have r := h.rows c (by omega)
  refine ⟨r, hc, hn, h.piv c hc, h.small c (by omega), fun x hx => ?_⟩
  -- the lead is a row of the next round
  have sm := h.small (c + 1) (by omega)
  have e : (mCleared (mIter R c) c).getD c [] = mScaled ((mIter R c).getD c []) (entry ((mIter R c).getD c []) c) := by rw [cleared_row r hc, if_pos rfl]
  refine sm _ ?_ x hx
  rw [← e]
  exact getD_mem (by show c < (mCleared (mIter R c) c).length; rw [cleared_len, r.len]; exact hc)
theorem wide_range {K : PySem.W.Frag} {R : List Row} {l : Row} (hl : R.length = l.length) : (List.range R.length).map (fun i => rLF K (R.getD i [] ++ [l.getD i zero])) = (mWide R l).map (rLF K) := by
  unfold mWide
  refine List.ext_getElem (by rw [List.length_map, List.length_map, List.length_range, List.length_zipWith, hl, Nat.min_self]) fun i h1 h2 => ?_
  rw [List.getElem_map, List.getElem_map, List.getElem_range, List.getElem_zipWith]
  rw [List.length_map, List.length_range] at h1
  rw [List.getD_eq_getElem?_getD, List.getElem?_eq_getElem h1, List.getD_eq_getElem?_getD, List.getElem?_eq_getElem (by omega)]
  rfl
theorem getD_rLL2 {K : PySem.W.Frag} {R : List Row} {i : Nat} (h : i < R.length) : (R.map (rLF K)).getD i OQ.rAny = rLF K (R.getD i []) := by
  rw [List.getD_eq_getElem?_getD, getD_rLL h]
  rfl
theorem last_range {K : PySem.W.Frag} {R : List Row} : (List.range R.length).map (fun i => rF K (lastOf (R.getD i []))) = (R.map lastOf).map (rF K) := by
  refine List.ext_getElem (by rw [List.length_map, List.length_map, List.length_map, List.length_range]) fun i h1 h2 => ?_
  rw [List.getElem_map, List.getElem_map, List.getElem_range, List.getElem_map]
  rw [List.length_map, List.length_range] at h1
  rw [List.getD_eq_getElem?_getD, List.getElem?_eq_getElem h1]
  rfl
theorem last_at {K : PySem.W.Frag} {r : Row} {n : Nat} (h : r.length = n + 1) : (r.map (rF K))[(r.map (rF K)).length - 1]? = some (rF K (lastOf r)) := by
  rw [List.length_map, h, List.getElem?_map, List.getElem?_eq_getElem (by omega)]
  unfold lastOf
  rw [List.getLastD_eq_getLast?, List.getLast?_eq_getElem?, List.getElem?_eq_getElem (by omega)]
  simp only [h]
  rfl
theorem ok_solved (W : Wd P w K mg base) : FnG P w K mg base "solved" 45 (fun x : Nat × List Row × Row => [rLL K x.2.1, rLF K x.2.2]) (fun x => x.1 ≤ 15 ∧ x.2.1.length = x.1 ∧ x.2.2.length = x.1 ∧ (∀ r ∈ x.2.1, r.length = x.1) ∧ Run x.1 (mWide x.2.1 x.2.2)) (fun x => rLF K (mSolved x.2.1 x.2.2)) := by
  refine mk_solved W.t 44 (fun _ => rfl) fun cdv A outer s H E x0 hc hr => ?_
  obtain ⟨n, R, l⟩ := x0
  obtain ⟨hn, h1, h2, h3, run⟩ : n ≤ 15 ∧ R.length = n ∧ l.length = n ∧ (∀ r ∈ R, r.length = n) ∧ Run n (mWide R l) := hc
  have rl : (R.map (rLF K)).length = n := by rw [List.length_map, h1]
  refine ss_cons (s_setLc (i := 2) (n := (R.map (rLF K)).length) (is := [4, 5]) (own := [("row", 4), ("side", 5)]) (fun i => rLF K (R.getD i [] ++ [l.getD i zero])) sc_solved.nd (i_zip (W.t.frees _ (by decide +kernel)) (x_var (i := 0)) (x_var (i := 1)) (by rw [rl, rlf_len, h2])) (blkOk_by (N := N_solved) (sc := defScope s_solved) (by decide +kernel)) rfl .two (fun _ _ _ _ _ => g_two sc_solved.nd) (fun s' H' C' cl fp i hi => ?_) (by rw [rl]; omega))
    (ss_cons (s_for (n := n) (is := [3]) (fun i => [some (rLL K R), some (rLF K l), some (rLL K (mIter (mWide R l) i)), none, none, none]) (i_range1 (W.t.frees _ (by decide +kernel)) (x_eq (x_len (W.t.frees _ (by decide +kernel)) (x_var (i := 0))) (by rw [rl]))) .one (g_one sc_solved.nd) ?_ fun i hi => ?_)
      (ss_one (s_ret (x_eq (x_lc (n := ((mIter (mWide R l) n).map (rLF K)).length) (is := [4]) (own := [("row", 4)]) (fun i => rF K (lastOf ((mIter (mWide R l) n).getD i []))) sc_solved.nd (i_list (x_var (i := 2))) (blkOk_by (N := N_solved) (sc := defScope s_solved) (by decide +kernel)) rfl .one (fun _ _ _ _ _ => g_one sc_solved.nd) (fun s' H' C' cl fp i hi => ?_) (by rw [List.length_map, (run.rows n (Nat.le_refl _)).len]; omega)) ?_))))
  · rw [rl] at hi
    rw [getD_rLL2 (show i < R.length by omega), getD_rF (show i < l.length by omega)]
    have w := h3 (R.getD i []) (getD_mem (by omega))
    refine x_eq (x_cat (x_var (i := 4)) (x_lst (a_cons (x_var (i := 5)) a_nil)) (by rw [rlf_len, w]; show n + 1 ≤ 1000; omega)) ?_
    show rL ((R.getD i []).map (rF K) ++ [rF K (l.getD i zero)]) = rL ((R.getD i [] ++ [l.getD i zero]).map (rF K))
    rw [List.map_append]
    rfl
  · rw [rl, ← h1, wide_range (by rw [h1, h2])]
    exact Le.refl _
  · refine ss_out (ss_one (s_set (i := 2) sc_solved.nd (x_call (ok_cleared W) hr (by decide) (n, mIter (mWide R l) i, i) (a_cons (x_var (i := 2)) (a_cons (x_var (i := 3)) a_nil)) rfl (run.stp hn hi)))) ?_
    exact le_same (le_same (le_same (le_drop (le_same (le_same le_nil)))))
  · have r := run.rows n (Nat.le_refl _)
    rw [List.length_map, r.len] at hi
    rw [getD_rLL2 (by rw [r.len]; exact hi)]
    have w := (r.row hi).1
    exact x_last (x_var (i := 4)) (by rw [rlf_len, w]; omega) (last_at w)
  · rw [List.length_map, last_range]
    unfold mSolved
    rw [h1]
end
end OQ
/-! net.py: what only reads; routing.py -/
namespace OQ
open PySem PySem.Spec PyProof.Rows L2
open Lrx1 (Fraction add sub mul divide whole zero one reduce lt le sum entry isZero)
open Lrx4 (Network Station stationCount placeCount places stationOf place placesOf getStation arrival service leaveWeight routeWeight weightSum route leave leadsOut)
abbrev rN (net : Network) : Rp := rNet a_Net net
section
variable {X : Cx} {Γ : Ctx} {e : Expr} {pos : Pos} {net : Network}
theorem x_stations (T : Tx X.K X.mg) (h : XE X e Γ (rN net)) (hb : attributeBase e "stations" X.env (eval e X.env) = eval e X.env := by rfl) : XE X (.Attribute e "stations" pos) Γ (rZ (stationCount net : Int)) :=
  x_fldG T.cl (T.no _ (by decide +kernel)) h (fun a F G n => ⟨_, lk_stations net F, rfl⟩) hb
theorem x_groups (T : Tx X.K X.mg) (h : XE X e Γ (rN net)) (hb : attributeBase e "groups" X.env (eval e X.env) = eval e X.env := by rfl) : XE X (.Attribute e "groups" pos) Γ (rZ (net.classCount : Int)) :=
  x_fldG T.cl (T.no _ (by decide +kernel)) h (fun a F G n => ⟨_, lk_groups net F, rfl⟩) hb
theorem x_kinds (T : Tx X.K X.mg) (h : XE X e Γ (rN net)) (hb : attributeBase e "kinds" X.env (eval e X.env) = eval e X.env := by rfl) : XE X (.Attribute e "kinds" pos) Γ (rLN (net.stations.map (·.kind))) :=
  x_fldG T.cl (T.no _ (by decide +kernel)) h (fun a F G n => ⟨_, lk_kinds net F, F.k, _, rfl, n.k, zl_all _ _⟩) hb
theorem x_servers (T : Tx X.K X.mg) (h : XE X e Γ (rN net)) (hb : attributeBase e "servers" X.env (eval e X.env) = eval e X.env := by rfl) : XE X (.Attribute e "servers" pos) Γ (rLN (net.stations.map (·.servers))) :=
  x_fldG T.cl (T.no _ (by decide +kernel)) h (fun a F G n => ⟨_, lk_servers net F, F.s, _, rfl, n.s, zl_all _ _⟩) hb
theorem x_services (T : Tx X.K X.mg) (h : XE X e Γ (rN net)) (hb : attributeBase e "services" X.env (eval e X.env) = eval e X.env := by rfl) : XE X (.Attribute e "services" pos) Γ (rLN net.services) :=
  x_fldG T.cl (T.no _ (by decide +kernel)) h (fun a F G n => ⟨_, lk_services net F, F.m, _, rfl, n.m, zl_all _ _⟩) hb
theorem x_arrivals (T : Tx X.K X.mg) (h : XE X e Γ (rN net)) (hb : attributeBase e "arrivals" X.env (eval e X.env) = eval e X.env := by rfl) : XE X (.Attribute e "arrivals" pos) Γ (rLN net.arrivals) :=
  x_fldG T.cl (T.no _ (by decide +kernel)) h (fun a F G n => ⟨_, lk_arrivals net F, F.r, _, rfl, n.r, zl_all _ _⟩) hb
theorem x_leaving (T : Tx X.K X.mg) (h : XE X e Γ (rN net)) (hb : attributeBase e "leaving" X.env (eval e X.env) = eval e X.env := by rfl) : XE X (.Attribute e "leaving" pos) Γ (rLN net.leaving) :=
  x_fldG T.cl (T.no _ (by decide +kernel)) h (fun a F G n => ⟨_, lk_leaving net F, F.l, _, rfl, n.l, zl_all _ _⟩) hb
theorem rows_all {rows : List Addr} {rs : List (List Nat)} {G : Hp} (hl : rows.length = rs.length) (h : ∀ i q, rows[i]? = some q → G q = some (.lst (zl (rs.getD i [])))) : All (rs.map rLN) (rows.map V.ref) G := by
  induction rows generalizing rs with
  | nil =>
    cases rs with
    | nil => trivial
    | cons _ _ => cases hl
  | cons a rows ih =>
    cases rs with
    | nil => cases hl
    | cons r rs => exact ⟨⟨a, _, rfl, h 0 a rfl, zl_all _ _⟩, ih (by simpa using hl) fun i q e => h (i + 1) q e⟩
theorem x_weights (T : Tx X.K X.mg) (h : XE X e Γ (rN net)) (hb : attributeBase e "weights" X.env (eval e X.env) = eval e X.env := by rfl) : XE X (.Attribute e "weights" pos) Γ (rL (net.routes.map rLN)) :=
  x_fldG T.cl (T.no _ (by decide +kernel)) h (fun a F G n => ⟨_, lk_weights net F, F.w, _, rfl, n.w, rows_all n.rl n.rw⟩) hb
theorem at_nat {l : List Nat} {i d : Nat} (h : i < l.length) : (l.map fun (n : Nat) => rV (.int (n : Int)))[i]? = some (rZ ((l.getD i d : Nat) : Int)) := by
  rw [List.getElem?_map, List.getElem?_eq_getElem h, List.getD_eq_getElem?_getD, List.getElem?_eq_getElem h]
  rfl
theorem at_row {l : List (List Nat)} {i : Nat} (h : i < l.length) : (l.map rLN)[i]? = some (rLN (l.getD i [])) := by
  rw [List.getElem?_map, List.getElem?_eq_getElem h, List.getD_eq_getElem?_getD, List.getElem?_eq_getElem h]
  rfl
end
theorem dec_lt (a b : Nat) : decide ((a : Int) < (b : Int)) = decide (a < b) := decide_eq_decide.mpr (by omega)
theorem dec_gt0 (a : Nat) : decide ((0 : Int) < (a : Int)) = decide (0 < a) := decide_eq_decide.mpr (by omega)
theorem dec_eq (a b : Nat) : decide ((a : Int) = (b : Int)) = decide (a = b) := decide_eq_decide.mpr (by omega)
theorem small_mul {a b : Nat} (ha : a ≤ 1000000) (hb : b ≤ 1000000) : IntMulOk (a : Int) (b : Int) := mul_ok (a := 20) (b := 20) (by rw [Int.natAbs_natCast]; omega) (by rw [Int.natAbs_natCast]; omega) (by decide)
theorem range_z {n : Nat} {f : Nat → Nat} : (List.range n).map (fun i => rZ ((f i : Nat) : Int)) = ((List.range n).map f).map fun (k : Nat) => rV (.int (k : Int)) := by rw [List.map_map]; rfl
section
variable {P : Program} {w : World} {K : PySem.W.Frag} {mg : Str → Option Value} {base : Heap}
theorem ok_has_station (W : Wd P w K mg base) : FnM P w K mg base a_Net "has_station" 1 (fun x : Network × Nat => [rN x.1, rZ (x.2 : Int)]) (fun _ => True) (fun x => rB (decide (x.2 < stationCount x.1))) := by
  refine mk_Net_has_station W.t 0 (fun _ => rfl) fun cdv A outer s H E x0 hc hr => ?_
  exact ss_one (s_ret (x_eq (x_lt (x_var (i := 1)) (x_stations W.t (x_var (i := 0)))) (by rw [dec_lt])))
theorem ok_has_place (W : Wd P w K mg base) : FnM P w K mg base a_Net "has_place" 1 (fun x : Network × Nat × Nat => [rN x.1, rZ (x.2.1 : Int), rZ (x.2.2 : Int)]) (fun _ => True) (fun x => rB (Lrx4.isPlace x.1 x.2.1 x.2.2)) := by
  refine mk_Net_has_place W.t 0 (fun _ => rfl) fun cdv A outer s H E x0 hc hr => ?_
  exact ss_one (s_ret (x_eq (x_and (x_lt (x_var (i := 1)) (x_stations W.t (x_var (i := 0)))) fun _ => x_one (x_lt (x_var (i := 2)) (x_groups W.t (x_var (i := 0))))) (by rw [dec_lt, dec_lt]; rfl)))
theorem ok_place_at (W : Wd P w K mg base) : FnM P w K mg base a_Net "place_at" 1 (fun x : Network × Nat × Nat => [rN x.1, rZ (x.2.1 : Int), rZ (x.2.2 : Int)]) (fun x => NetOk x.1 ∧ x.2.2 ≤ 1000) (fun x => rZ (place x.1 x.2.1 x.2.2 : Nat)) := by
  refine mk_Net_place_at W.t 0 (fun _ => rfl) fun cdv A outer s H E x0 hc hr => ?_
  have h5 := hc.1.st.2
  refine ss_one (s_ret (x_eq (x_add (x_mul (x_var (i := 2)) (x_stations W.t (x_var (i := 0))) (small_mul (by have := hc.2; omega) (by omega))) (x_var (i := 1))) ?_))
  show rZ _ = rZ ((x0.2.2 * stationCount x0.1 + x0.2.1 : Nat) : Int)
  rw [Int.natCast_add, Int.natCast_mul]
theorem ok_station_of (W : Wd P w K mg base) : FnM P w K mg base a_Net "station_of" 1 (fun x : Network × Nat => [rN x.1, rZ (x.2 : Int)]) (fun x => NetOk x.1) (fun x => rZ (stationOf x.1 x.2 : Nat)) := by
  refine mk_Net_station_of W.t 0 (fun _ => rfl) fun cdv A outer s H E x0 hc hr => ?_
  have h1 := hc.st.1
  refine ss_one (s_ret (x_eq (x_modN (x_var (i := 1)) (x_stations W.t (x_var (i := 0))) (by omega)) ?_))
  rw [Int.fmod_eq_emod_of_nonneg _ (by omega)]
  rfl
theorem ok_place_count (W : Wd P w K mg base) : FnM P w K mg base a_Net "place_count" 1 (fun x : Network => [rN x]) (fun x => NetOk x) (fun x => rZ (placeCount x : Nat)) := by
  refine mk_Net_place_count W.t 0 (fun _ => rfl) fun cdv A outer s H E x0 hc hr => ?_
  have h1 := hc.st.2
  have h2 := hc.cl.2
  refine ss_one (s_ret (x_eq (x_mul (x_stations W.t (x_var (i := 0))) (x_groups W.t (x_var (i := 0))) (small_mul (by omega) (by omega))) ?_))
  show rZ _ = rZ ((stationCount x0 * x0.classCount : Nat) : Int)
  rw [Int.natCast_mul]
theorem ok_places_of (W : Wd P w K mg base) : FnM P w K mg base a_Net "places_of" 2 (fun x : Network × Nat => [rN x.1, rZ (x.2 : Int)]) (fun x => NetOk x.1 ∧ x.2 < stationCount x.1) (fun x => rLN (placesOf x.1 x.2)) := by
  refine mk_Net_places_of W.t 1 (fun _ => rfl) fun cdv A outer s H E x0 hc hr => ?_
  obtain ⟨net, i⟩ := x0
  obtain ⟨ok, hi⟩ : NetOk net ∧ i < stationCount net := hc
  have h2 := ok.cl.2
  refine ss_one (s_ret (x_eq (x_lc (n := net.classCount) (is := [2]) (own := [("group", 2)]) (fun c => rZ (place net i c : Nat)) sc_Net_places_of.nd (i_range1 (W.t.frees _ (by decide +kernel)) (x_groups W.t (x_var (i := 0)))) (blkOk_by (N := N_Net_places_of) (sc := defScope s_Net_places_of) (by decide +kernel)) rfl .one (fun _ _ _ _ _ => g_one sc_Net_places_of.nd) (fun s' H' C' cl fp c hc => ?_)) ?_))
  · exact x_meth (ok_place_at W) W.t.cl hr (by decide) (x_var (i := 0)) (net, i, c) (a_cons (x_var (i := 1)) (a_cons (x_var (i := 2)) a_nil)) rfl ⟨ok, by show c ≤ 1000; omega⟩
  · rw [range_z, placesOf_eq hi]
end
end OQ
/-! routing.py -/
namespace OQ
open PySem PySem.Spec PyProof.Rows L2
open Lrx1 (Fraction add sub mul divide whole zero one reduce lt le sum entry isZero)
open Lrx4 (Network Station stationCount placeCount places stationOf place placesOf getStation arrival service leaveWeight routeWeight weightSum route leave leadsOut)
theorem foldl_range_sum : ∀ (l : List Nat), (List.range l.length).foldl (fun (s q : Nat) => s + l.getD q 0) 0 = l.sum := by
  intro l
  have key : ∀ (m : Nat), m ≤ l.length → (List.range m).foldl (fun (s q : Nat) => s + l.getD q 0) 0 = (l.take m).sum := by
    intro m hm
    induction m with
    | zero => rfl
    | succ m ih =>
      rw [List.range_succ, List.foldl_append, ih (by omega)]
      show (l.take m).sum + l.getD m 0 = _
      rw [List.take_succ, List.getElem?_eq_getElem (by omega), List.getD_eq_getElem?_getD, List.getElem?_eq_getElem (by omega), List.sum_append]
      simp
  rw [key l.length (Nat.le_refl _), List.take_length]
theorem weightSum_eq {net : Network} (ok : NetOk net) {p : Nat} (hp : p < placeCount net) : weightSum net p = (net.routes.getD p []).sum + leaveWeight net p := by
  have hl : (net.routes.getD p []).length = placeCount net := ok.lrr _ (getD_mem (by rw [ok.lr]; exact hp))
  unfold weightSum places
  rw [← hl, Nat.add_comm]
  congr 1
  exact foldl_range_sum (net.routes.getD p [])
theorem rlz_rln (l : List Nat) : rLZ (l.map fun (n : Nat) => (n : Int)) = rLN l := by
  unfold rLZ rLN
  rw [List.map_map]
  rfl
theorem sum_cast : ∀ (l : List Nat), (l.map fun (n : Nat) => (n : Int)).sum = ((l.sum : Nat) : Int)
  | [] => rfl
  | n :: l => by
    rw [List.map_cons, List.sum_cons, List.sum_cons, sum_cast l, Int.natCast_add]
/-- whether a place is good behind so many rounds -/
def goodB (net : Network) (k p : Nat) : Bool := (leadsOut net k).contains p
def goodL (net : Network) (k : Nat) : List Bool := (List.range (placeCount net)).map (goodB net k)
theorem contains_filter {n p : Nat} {f : Nat → Bool} (hp : p < n) : ((List.range n).filter f).contains p = f p := by
  rw [Bool.eq_iff_iff, List.contains_iff_mem, List.mem_filter, List.mem_range]
  exact ⟨fun h => h.2, fun h => ⟨hp, h⟩⟩
theorem good_zero {net : Network} {p : Nat} (hp : p < placeCount net) : goodB net 0 p = (decide (0 < leaveWeight net p) || decide (weightSum net p = 0)) := by
  have e : goodB net 0 p = !isZero (leave net p) := contains_filter hp
  rw [e]
  unfold leave
  by_cases z : weightSum net p = 0
  · rw [if_pos z, decide_eq_true z, Bool.or_true]
    rfl
  · rw [if_neg z, decide_eq_false z, Bool.or_false, isZero_eq (cn_reduce _ _)]
    by_cases h : leaveWeight net p = 0
    · rw [h]
      have : reduce ((0 : Nat) : Int) (weightSum net p) = zero := eq_zero_of (cn_reduce _ _) (by rw [val_reduce]; exact Rat.zero_mkRat _)
      rw [this]
      rfl
    · rw [decide_eq_true (by omega : 0 < leaveWeight net p), decide_eq_false]
      · rfl
      · intro q
        have v := val_reduce ((leaveWeight net p : Nat) : Int) (weightSum net p)
        rw [q, val_zero] at v
        have := (Rat.mkRat_eq_zero z).mp v.symm
        omega
theorem good_succ {net : Network} {k p : Nat} (hp : p < placeCount net) : goodB net (k + 1) p = (goodB net k p || (List.range (placeCount net)).any fun q => goodB net k q && decide (0 < routeWeight net p q)) := by
  have e : goodB net (k + 1) p = ((leadsOut net k).contains p || (leadsOut net k).any fun q => decide (0 < routeWeight net p q)) := contains_filter (f := fun p => (leadsOut net k).contains p || (leadsOut net k).any fun q => decide (0 < routeWeight net p q)) hp
  rw [e]
  unfold goodB
  congr 1
  rw [Bool.eq_iff_iff, List.any_eq_true, List.any_eq_true]
  constructor
  · rintro ⟨q, h1, h2⟩
    exact ⟨q, List.mem_range.mpr (leads_mem h1), by rw [List.contains_iff_mem.mpr h1, h2]; rfl⟩
  · rintro ⟨q, _, h2⟩
    rw [Bool.and_eq_true] at h2
    exact ⟨q, List.contains_iff_mem.mp h2.1, h2.2⟩
theorem open_all (net : Network) : (goodL net (placeCount net)).all id = Lrx4.isOpen net := by
  unfold goodL Lrx4.isOpen places
  rw [List.all_map]
  rfl
theorem range_b {n : Nat} {f : Nat → Bool} : (List.range n).map (fun i => rB (f i)) = ((List.range n).map f).map fun b => rV (.bl b) := by rw [List.map_map]; rfl
theorem bool_all {X : Cx} (bs : List Bool) : (bs.map fun b => rV (V.bl b)).length = bs.length := List.length_map _
theorem at_bool {bs : List Bool} {i : Nat} (h : i < bs.length) : (bs.map fun b => rV (V.bl b))[i]? = some (rB (bs.getD i false)) := by
  rw [List.getElem?_map, List.getElem?_eq_getElem h, List.getD_eq_getElem?_getD, List.getElem?_eq_getElem h]
  rfl
theorem goodL_len {net : Network} {k : Nat} : (goodL net k).length = placeCount net := by unfold goodL; rw [List.length_map, List.length_range]
theorem goodL_at {net : Network} {k p : Nat} (hp : p < placeCount net) : (goodL net k).getD p false = goodB net k p := by
  unfold goodL
  rw [getD_map_range hp]
section
variable {P : Program} {w : World} {K : PySem.W.Frag} {mg : Str → Option Value} {base : Heap}
abbrev NP : Type := Network × Nat
theorem ok_weight_sum (W : Wd P w K mg base) : FnG P w K mg base "weight_sum" 1 (fun x : NP => [rN x.1, rZ (x.2 : Int)]) (fun x => NetOk x.1 ∧ x.2 < placeCount x.1) (fun x => rZ (weightSum x.1 x.2 : Nat)) := by
  refine mk_weight_sum W.t 0 (fun _ => rfl) fun cdv A outer s H E x0 hc hr => ?_
  obtain ⟨net, p⟩ := x0
  obtain ⟨ok, hp⟩ : NetOk net ∧ p < placeCount net := hc
  refine ss_one (s_ret (x_eq (x_add (x_sum (W.t.frees _ (by decide +kernel)) (x_eq (x_ix (x_weights W.t (x_var (i := 0))) (x_var (i := 1)) (at_row (by rw [ok.lr]; exact hp))) (rlz_rln _).symm)) (x_ix (x_leaving W.t (x_var (i := 0))) (x_var (i := 1)) (at_nat (d := 0) (by rw [ok.ll]; exact hp)))) ?_))
  rw [sum_cast, weightSum_eq ok hp, Int.natCast_add]
  rfl
theorem x_weight {X : Cx} {Γ : Ctx} {a b e : Expr} {p1 p2 p3 : Pos} {net : Network} {p q : Nat} (T : Tx X.K X.mg) (ok : NetOk net) (hp : p < placeCount net) (hq : q < placeCount net) (h : XE X e Γ (rN net)) (ha : XE X a Γ (rZ (p : Int))) (hb : XE X b Γ (rZ (q : Int))) (hba : attributeBase e "weights" X.env (eval e X.env) = eval e X.env := by rfl)
    (hs : PlainIx a := by exact fun _ _ => rfl) (hs2 : PlainIx b := by exact fun _ _ => rfl) : XE X (.Subscript (.Subscript (.Attribute e "weights" p1) a p2) b p3) Γ (rZ (routeWeight net p q : Nat)) := by
  refine x_ix (x_ix (x_weights T h hba) ha (at_row (by rw [ok.lr]; exact hp)) hs) hb (at_nat (d := 0) ?_) hs2
  rw [ok.lrr (net.routes.getD p []) (getD_mem (by rw [ok.lr]; exact hp))]
  exact hq
theorem ok_move_chance (W : Wd P w K mg base) : FnG P w K mg base "move_chance" 42 (fun x : Network × Nat × Nat => [rN x.1, rZ (x.2.1 : Int), rZ (x.2.2 : Int)]) (fun x => NetOk x.1 ∧ x.2.1 < placeCount x.1 ∧ x.2.2 < placeCount x.1) (fun x => rF K (route x.1 x.2.1 x.2.2)) := by
  refine mk_move_chance W.t 41 (fun _ => rfl) fun cdv A outer s H E x0 hc hr => ?_
  obtain ⟨net, p, q⟩ := x0
  obtain ⟨ok, hp, hq⟩ : NetOk net ∧ p < placeCount net ∧ q < placeCount net := hc
  refine ss_cons (s_set (i := 3) sc_move_chance.nd (x_call (ok_weight_sum W) hr (by decide) (net, p) (a_cons (x_var (i := 0)) (a_cons (x_var (i := 1)) a_nil)) rfl ⟨ok, hp⟩)) (ss_if (t_eqI (x_var (i := 3)) x_int) (fun h => ?_) (fun h => ?_))
  · have h1 : ((weightSum net p : Nat) : Int) = 0 := of_decide_eq_true h
    have h2 : weightSum net p = 0 := by omega
    refine ss_one (s_ret (x_eq (x_NOTHING W.t) ?_))
    show rF K zero = rF K (route net p q)
    unfold route reduce
    rw [if_pos h2]
    rfl
  · have h1 : ¬ ((weightSum net p : Nat) : Int) = 0 := of_decide_eq_false h
    exact ss_one (s_ret (x_call (ok_ratio W) hr (by decide) ((routeWeight net p q : Nat), weightSum net p) (a_cons (x_weight W.t ok hp hq (x_var (i := 0)) (x_var (i := 1)) (x_var (i := 2))) (a_cons (x_var (i := 3)) a_nil)) rfl (by show 0 < weightSum net p; omega)))
theorem ok_leave_chance (W : Wd P w K mg base) : FnG P w K mg base "leave_chance" 42 (fun x : NP => [rN x.1, rZ (x.2 : Int)]) (fun x => NetOk x.1 ∧ x.2 < placeCount x.1) (fun x => rF K (leave x.1 x.2)) := by
  refine mk_leave_chance W.t 41 (fun _ => rfl) fun cdv A outer s H E x0 hc hr => ?_
  obtain ⟨net, p⟩ := x0
  obtain ⟨ok, hp⟩ : NetOk net ∧ p < placeCount net := hc
  refine ss_cons (s_set (i := 2) sc_leave_chance.nd (x_call (ok_weight_sum W) hr (by decide) (net, p) (a_cons (x_var (i := 0)) (a_cons (x_var (i := 1)) a_nil)) rfl ⟨ok, hp⟩)) (ss_if (t_eqI (x_var (i := 2)) x_int) (fun h => ?_) (fun h => ?_))
  · have h1 : ((weightSum net p : Nat) : Int) = 0 := of_decide_eq_true h
    have h2 : weightSum net p = 0 := by omega
    refine ss_one (s_ret (x_eq (x_ONE W.t) ?_))
    show rF K one = rF K (leave net p)
    unfold leave
    rw [if_pos h2]
  · have h1 : ¬ ((weightSum net p : Nat) : Int) = 0 := of_decide_eq_false h
    refine ss_one (s_ret (x_eq (x_call (ok_ratio W) hr (by decide) ((leaveWeight net p : Nat), weightSum net p) (a_cons (x_ix (x_leaving W.t (x_var (i := 0))) (x_var (i := 1)) (at_nat (d := 0) (by rw [ok.ll]; exact hp))) (a_cons (x_var (i := 2)) a_nil)) rfl (by show 0 < weightSum net p; omega)) ?_))
    show rF K (reduce ((leaveWeight net p : Nat) : Int) (weightSum net p)) = rF K (leave net p)
    unfold leave
    rw [if_neg (by omega)]
theorem ok_leaves (W : Wd P w K mg base) : FnG P w K mg base "leaves" 2 (fun x : NP => [rN x.1, rZ (x.2 : Int)]) (fun x => NetOk x.1 ∧ x.2 < placeCount x.1) (fun x => rB (goodB x.1 0 x.2)) := by
  refine mk_leaves W.t 1 (fun _ => rfl) fun cdv A outer s H E x0 hc hr => ?_
  obtain ⟨net, p⟩ := x0
  obtain ⟨ok, hp⟩ : NetOk net ∧ p < placeCount net := hc
  refine ss_one (s_ret (x_eq (x_or (x_gt (x_ix (x_leaving W.t (x_var (i := 0))) (x_var (i := 1)) (at_nat (d := 0) (by rw [ok.ll]; exact hp))) x_int) fun _ => x_one (x_eqI (x_call (ok_weight_sum W) hr (by decide) (net, p) (a_cons (x_var (i := 0)) (a_cons (x_var (i := 1)) a_nil)) rfl ⟨ok, hp⟩) x_int)) ?_))
  show rB _ = rB (goodB net 0 p)
  rw [good_zero hp, dec_gt0]
  exact congrArg (fun b => rB (decide (0 < leaveWeight net p) || b)) (dec_eq (weightSum net p) 0)
theorem ok_goes_on (W : Wd P w K mg base) : FnG P w K mg base "goes_on" 1 (fun x : Network × Nat × Nat => [rN x.1, rZ (x.2.1 : Int), rLB (goodL x.1 x.2.2)]) (fun x => NetOk x.1 ∧ x.2.1 < placeCount x.1) (fun x => rB ((List.range (placeCount x.1)).any fun q => goodB x.1 x.2.2 q && decide (0 < routeWeight x.1 x.2.1 q))) := by
  refine mk_goes_on W.t 0 (fun _ => rfl) fun cdv A outer s H E x0 hc hr => ?_
  obtain ⟨net, p, k⟩ := x0
  obtain ⟨ok, hp⟩ : NetOk net ∧ p < placeCount net := hc
  have n15 := ok.n1.2
  refine ss_one (s_ret (x_eq (x_any (bs := (List.range (placeCount net)).map fun q => goodB net k q && decide (0 < routeWeight net p q)) (W.t.frees _ (by decide +kernel)) (x_eq (x_lc (n := placeCount net) (is := [3]) (own := [("other", 3)]) (fun q => rB (goodB net k q && decide (0 < routeWeight net p q))) sc_goes_on.nd
    (i_range1 (W.t.frees _ (by decide +kernel)) (x_eq (x_len (W.t.frees _ (by decide +kernel)) (x_var (i := 2))) (by rw [List.length_map, goodL_len]))) (blkOk_by (N := N_goes_on) (sc := defScope s_goes_on) (by decide +kernel)) rfl .one (fun _ _ _ _ _ => g_one sc_goes_on.nd) (fun s' H' C' cl fp q hq => ?_)) ?_)) ?_))
  · refine x_eq (x_and (x_ix (x_var (i := 2)) (x_var (i := 3)) (at_bool (by rw [goodL_len]; exact hq))) fun _ => x_one (x_gt (x_weight W.t ok hp hq (x_var (i := 0)) (x_var (i := 1)) (x_var (i := 3))) x_int)) ?_
    rw [goodL_at hq, dec_gt0]
  · exact congrArg rL range_b
  · show rB (((List.range (placeCount net)).map fun q => goodB net k q && decide (0 < routeWeight net p q)).any id) = _
    rw [List.any_map]
    rfl
theorem ok_further (W : Wd P w K mg base) : FnG P w K mg base "further" 2 (fun x : NP => [rN x.1, rLB (goodL x.1 x.2)]) (fun x => NetOk x.1) (fun x => rLB (goodL x.1 (x.2 + 1))) := by
  refine mk_further W.t 1 (fun _ => rfl) fun cdv A outer s H E x0 hc hr => ?_
  obtain ⟨net, k⟩ := x0
  have ok : NetOk net := hc
  have n15 := ok.n1.2
  refine ss_one (s_ret (x_eq (x_lc (n := placeCount net) (is := [2]) (own := [("place", 2)]) (fun p => rB (goodB net (k + 1) p)) sc_further.nd
    (i_range1 (W.t.frees _ (by decide +kernel)) (x_eq (x_len (W.t.frees _ (by decide +kernel)) (x_var (i := 1))) (by rw [List.length_map, goodL_len]))) (blkOk_by (N := N_further) (sc := defScope s_further) (by decide +kernel)) rfl .one (fun _ _ _ _ _ => g_one sc_further.nd) (fun s' H' C' cl fp p hp => ?_)) ?_))
  · refine x_eq (x_or (x_ix (x_var (i := 1)) (x_var (i := 2)) (at_bool (by rw [goodL_len]; exact hp))) fun _ => x_one (x_call (ok_goes_on W) hr (by decide) (net, p, k) (a_cons (x_var (i := 0)) (a_cons (x_var (i := 2)) (a_cons (x_var (i := 1)) a_nil))) rfl ⟨ok, hp⟩)) ?_
    rw [goodL_at hp, good_succ hp]
  · exact congrArg rL range_b
theorem ok_is_open (W : Wd P w K mg base) : FnG P w K mg base "is_open" 3 (fun x : Network => [rN x]) (fun x => NetOk x) (fun x => rB (Lrx4.isOpen x)) := by
  refine mk_is_open W.t 2 (fun _ => rfl) fun cdv A outer s H E net hc hr => ?_
  have ok : NetOk net := hc
  have n15 := ok.n1.2
  refine ss_cons (s_set (i := 1) sc_is_open.nd (x_meth0 (ok_place_count W) W.t.cl hr (by decide) (x_var (i := 0)) net rfl ok))
    (ss_cons (s_setLc (i := 2) (n := placeCount net) (is := [4]) (own := [("place", 4)]) (fun p => rB (goodB net 0 p)) sc_is_open.nd (i_range1 (W.t.frees _ (by decide +kernel)) (x_var (i := 1))) (blkOk_by (N := N_is_open) (sc := defScope s_is_open) (by decide +kernel)) rfl .one (fun _ _ _ _ _ => g_one sc_is_open.nd) (fun s' H' C' cl fp p hp => ?_))
    (ss_cons (s_for (n := placeCount net) (is := [3]) (fun k => [some (rN net), some (rZ (placeCount net : Nat)), some (rLB (goodL net k)), none, none]) (i_range1 (W.t.frees _ (by decide +kernel)) (x_var (i := 1))) .one (g_one sc_is_open.nd) ?_ fun k hk => ?_)
      (ss_one (s_ret (x_eq (x_all (W.t.frees _ (by decide +kernel)) (x_var (i := 2))) (by rw [open_all]))))))
  · exact x_call (ok_leaves W) hr (by decide) (net, p) (a_cons (x_var (i := 0)) (a_cons (x_var (i := 4)) a_nil)) rfl ⟨ok, hp⟩
  · refine le_eq ?_
    have e : rL ((List.range (placeCount net)).map fun p => rB (goodB net 0 p)) = rLB (goodL net 0) := congrArg rL range_b
    rw [e]
    rfl
  · refine ss_out (ss_one (s_set (i := 2) sc_is_open.nd (x_call (ok_further W) hr (by decide) (net, k) (a_cons (x_var (i := 0)) (a_cons (x_var (i := 2)) a_nil)) rfl ok))) ?_
    exact le_same (le_same (le_same (le_drop (le_same le_nil))))
end
end OQ
/-! flows.py -/
namespace OQ
open PySem PySem.Spec PyProof.Rows L2
open Lrx1 (Fraction add sub mul divide whole zero one reduce lt le sum entry isZero)
open Lrx4 (Network Station stationCount placeCount places stationOf place placesOf getStation arrival service leaveWeight routeWeight weightSum route leave leadsOut loadIn stationLoadIn stationRateIn utilizationIn)
def coef (net : Network) : List Row := (places net).map fun q => (places net).map fun p => sub (if p = q then one else zero) (route net p q)
def sideL (net : Network) (side : Nat → Fraction) : Row := (places net).map side
theorem coef_len {net : Network} : (coef net).length = placeCount net := by unfold coef places; rw [List.length_map, List.length_range]
theorem sideL_len {net : Network} {side : Nat → Fraction} : (sideL net side).length = placeCount net := by unfold sideL places; rw [List.length_map, List.length_range]
theorem coef_wid {net : Network} : ∀ r ∈ coef net, r.length = placeCount net := fun r hr => by
  obtain ⟨q, _, rfl⟩ := List.mem_map.mp hr
  unfold places
  rw [List.length_map, List.length_range]
theorem wide_eq (net : Network) (side : Nat → Fraction) : mWide (coef net) (sideL net side) = eqRows net side := by
  unfold mWide coef sideL eqRows
  rw [List.zipWith_map]
  generalize places net = l
  have : ∀ l' : List Nat, List.zipWith (fun a b => ((l.map fun p => sub (if p = a then one else zero) (route net p a)) ++ [side b])) l' l' = l'.map fun q => (l.map fun p => sub (if p = q then one else zero) (route net p q)) ++ [side q] := fun l' => by
    induction l' with
    | nil => rfl
    | cons a l' ih => rw [List.zipWith_cons_cons, ih, List.map_cons]
  exact this l
theorem range_rF {K : PySem.W.Frag} {n : Nat} {f : Nat → Fraction} : (List.range n).map (fun i => rF K (f i)) = ((List.range n).map f).map (rF K) := by rw [List.map_map]; rfl
theorem getD_natR {l : List Nat} {i : Nat} (h : i < l.length) : (l.map fun (n : Nat) => rV (V.int (n : Int))).getD i OQ.rAny = rZ ((l.getD i 0 : Nat) : Int) := by
  rw [List.getD_eq_getElem?_getD, at_nat (d := 0) h]
  rfl
/-- a list walked, an item each -/
theorem range_getD {α β : Type} {l : List α} {d : α} {f : α → β} : (List.range l.length).map (fun i => f (l.getD i d)) = l.map f := by
  refine List.ext_getElem (by rw [List.length_map, List.length_map, List.length_range]) fun i h1 h2 => ?_
  rw [List.getElem_map, List.getElem_map, List.getElem_range]
  rw [List.length_map, List.length_range] at h1
  rw [List.getD_eq_getElem?_getD, List.getElem?_eq_getElem h1]
  rfl
theorem arrivals_side {net : Network} (ok : NetOk net) : (net.arrivals.map fun (n : Nat) => whole (n : Int)) = sideL net (fun q => whole (arrival net q : Int)) := by
  unfold sideL places arrival
  rw [← ok.la]
  exact (range_getD (d := 0) (f := fun (n : Nat) => whole (n : Int))).symm
section
variable {P : Program} {w : World} {K : PySem.W.Frag} {mg : Str → Option Value} {base : Heap}
theorem okf_route {net : Network} (ok : NetOk net) (p q : Nat) : Okf (route net p q) := ⟨cn_route p q, (sz_route ok p q).mono (by decide)⟩
theorem okf_one : Okf one := ⟨cn_one, sz_one (by decide)⟩
theorem okf_zero : Okf zero := ⟨cn_zero, sz_zero (by decide)⟩
theorem ok_part_of (W : Wd P w K mg base) : FnG P w K mg base "part_of" 43 (fun x : Network × Nat × Nat => [rN x.1, rZ (x.2.1 : Int), rZ (x.2.2 : Int)]) (fun x => NetOk x.1 ∧ x.2.1 < placeCount x.1 ∧ x.2.2 < placeCount x.1) (fun x => rF K (sub (if x.2.2 = x.2.1 then one else zero) (route x.1 x.2.2 x.2.1))) := by
  refine mk_part_of W.t 42 (fun _ => rfl) fun cdv A outer s H E x0 hc hr => ?_
  obtain ⟨net, q, p⟩ := x0
  obtain ⟨ok, hq, hp⟩ : NetOk net ∧ q < placeCount net ∧ p < placeCount net := hc
  refine ss_cons (s_set (i := 3) (R := rF K (if p = q then one else zero)) sc_part_of.nd (x_ifExp (t_imp (t_eqI (x_var (i := 1)) (x_var (i := 2))) (dec_eq q p)) (fun h => x_eq (x_ONE W.t) ?_) (fun h => x_eq (x_NOTHING W.t) ?_))) (ss_one (s_ret (x_call (ok_minus W) hr (by decide) (if p = q then one else zero, route net p q) (a_cons (x_var (i := 3)) (a_cons (x_call (ok_move_chance W) hr (by decide) (net, p, q) (a_cons (x_var (i := 0)) (a_cons (x_var (i := 2)) (a_cons (x_var (i := 1)) a_nil))) rfl ⟨ok, hp, hq⟩) a_nil)) rfl ⟨?_, okf_route ok p q⟩)))
  · rw [if_pos (of_decide_eq_true h).symm] <;> rfl
  · rw [if_neg (fun e => of_decide_eq_false h e.symm)] <;> rfl
  · show Okf (if p = q then one else zero)
    split
    · exact okf_one
    · exact okf_zero
theorem ok_equations (W : Wd P w K mg base) : FnG P w K mg base "equations" 44 (fun x : Network => [rN x]) (fun x => NetOk x) (fun x => rLL K (coef x)) := by
  refine mk_equations W.t 43 (fun _ => rfl) fun cdv A outer s H E net hc hr => ?_
  have ok : NetOk net := hc
  have n15 := ok.n1.2
  refine ss_cons (s_set (i := 1) sc_equations.nd (x_meth0 (ok_place_count W) W.t.cl hr (by decide) (x_var (i := 0)) net rfl ok))
    (ss_one (s_ret (x_eq (x_lc (n := placeCount net) (is := [3]) (own := [("other", 3)]) (fun q => rLF K ((places net).map fun p => sub (if p = q then one else zero) (route net p q))) sc_equations.nd (i_range1 (W.t.frees _ (by decide +kernel)) (x_var (i := 1))) (blkOk_by (N := N_equations) (sc := defScope s_equations) (by decide +kernel)) rfl .one (fun _ _ _ _ _ => g_one (hx := Or.inr rfl) sc_equations.nd) (fun s' H' C' cl fp q hq => ?_)) ?_)))
  · refine x_eq (x_lc (n := placeCount net) (is := [2]) (own := [("place", 2)]) (fun p => rF K (sub (if p = q then one else zero) (route net p q))) sc_equations.nd (i_range1 (W.t.frees _ (by decide +kernel)) (x_var (i := 1))) (blkOk_by (N := N_equations) (sc := relS {kind := .function, names := [(".0",.local),("other",.cell),("range",.globalImplicit),("many",.free),("net",.free)], isGenerator := false, isCoroutine := false} (defScope s_equations)) (by decide +kernel)) rfl .one (fun _ _ _ _ _ => g_one sc_equations.nd) (fun s' H' C' cl fp p hp => ?_)) ?_
    · exact x_call (ok_part_of W) hr (by decide) (net, q, p) (a_cons (x_var (i := 0)) (a_cons (x_var (i := 3)) (a_cons (x_var (i := 2)) a_nil))) rfl ⟨ok, hq, hp⟩
    · exact congrArg rL range_rF
  · exact congrArg rL range_rLF
end
end OQ
/-! flows.py -/
namespace OQ
open PySem PySem.Spec PyProof.Rows L2
open Lrx1 (Fraction add sub mul divide whole zero one reduce lt le sum entry isZero)
open Lrx4 (Network Station stationCount placeCount places stationOf place placesOf getStation arrival service leaveWeight routeWeight weightSum route leave leadsOut loadIn stationLoadIn stationRateIn utilizationIn)
theorem sz_leave {net : Network} (ok : NetOk net) (p : Nat) : Sz 14 (leave net p) := by
  have h1 := ok.lea p
  have h2 := ok.wsum p
  unfold leave
  split
  · exact sz_one (by decide)
  · exact sz_reduce (by show ((leaveWeight net p : Nat) : Int).natAbs < 2 ^ 14; rw [Int.natAbs_natCast]; omega) (by omega) (by decide)
theorem kinds_at {net : Network} {i : Nat} : (net.stations.map (·.kind)).getD i 0 = (getStation net i).kind := by
  unfold getStation
  rw [List.getD_eq_getElem?_getD, List.getD_eq_getElem?_getD, List.getElem?_map]
  cases net.stations[i]? <;> rfl
theorem servers_at {net : Network} {i : Nat} : (net.stations.map (·.servers)).getD i 1 = (getStation net i).servers := by
  unfold getStation
  rw [List.getD_eq_getElem?_getD, List.getD_eq_getElem?_getD, List.getElem?_map]
  cases net.stations[i]? <;> rfl
theorem mSolved_flow (net : Network) (side : Nat → Fraction) : mSolved (coef net) (sideL net side) = flowOf net side := by
  unfold mSolved flowOf
  rw [wide_eq, coef_len]
def bestTo (l : Row) (n : Nat) : Nat := (List.range n).foldl (fun (best i : Nat) => if lt (entry l best) (entry l i) then i else best) 0
theorem bestTo_succ (l : Row) (n : Nat) : bestTo l (n + 1) = if lt (entry l (bestTo l n)) (entry l n) then n else bestTo l n := by
  unfold bestTo
  rw [List.range_succ, List.foldl_append]
  rfl
theorem bestTo_lt (l : Row) : ∀ n, bestTo l n = 0 ∨ bestTo l n < n
  | 0 => .inl rfl
  | n + 1 => by
    rw [bestTo_succ]
    split
    · exact .inr (by omega)
    · rcases bestTo_lt l n with h | h
      · exact .inl h
      · exact .inr (by omega)
theorem okf_entry {net : Network} {r : Row} (h : Rt net r) (p : Nat) : Okf (entry r p) := ⟨(h.at_ p).1, (h.at_ p).2.2.mono (by decide)⟩
theorem okf_whole {n : Nat} (h : n < 2 ^ 60) : Okf (whole (n : Int)) := ⟨cn_whole _, (sz_nat h (by decide)).mono (by decide)⟩
theorem whole_pos {n : Nat} (h : 0 < n) : 0 < (whole (n : Int)).num := by show (0 : Int) < (n : Int); omega
section
variable {P : Program} {w : World} {K : PySem.W.Frag} {mg : Str → Option Value} {base : Heap}
theorem ok_flow (W : Wd P w K mg base) : FnG P w K mg base "flow" 46 (fun x : Network × (Nat → Fraction) => [rN x.1, rLF K (sideL x.1 x.2)]) (fun x => NetOk x.1 ∧ Lrx4.isOpen x.1 = true ∧ Side x.1 x.2) (fun x => rLF K (flowOf x.1 x.2)) := by
  refine mk_flow W.t 45 (fun _ => rfl) fun cdv A outer s H E x0 hc hr => ?_
  obtain ⟨net, side⟩ := x0
  obtain ⟨ok, op, hs⟩ : NetOk net ∧ Lrx4.isOpen net = true ∧ Side net side := hc
  refine ss_one (s_ret (x_eq (x_call (ok_solved W) hr (by decide) (placeCount net, coef net, sideL net side) (a_cons (x_call (ok_equations W) hr (by decide) net (a_cons (x_var (i := 0)) a_nil) rfl ok) (a_cons (x_var (i := 1)) a_nil)) rfl ⟨ok.n1.2, coef_len, sideL_len, coef_wid, ?_⟩) ?_))
  · show Run (placeCount net) (mWide (coef net) (sideL net side))
    rw [wide_eq]
    exact eq_run ok op hs
  · show rLF K (mSolved (coef net) (sideL net side)) = rLF K (flowOf net side)
    rw [mSolved_flow]
theorem ok_traffic (W : Wd P w K mg base) : FnG P w K mg base "traffic" 47 (fun x : Network => [rN x]) (fun x => NetOk x ∧ Lrx4.isOpen x = true) (fun x => rLF K (Lrx4.traffic x)) := by
  refine mk_traffic W.t 46 (fun _ => rfl) fun cdv A outer s H E net hc hr => ?_
  obtain ⟨ok, op⟩ : NetOk net ∧ Lrx4.isOpen net = true := hc
  have n15 := ok.n1.2
  have ln : (net.arrivals.map fun (n : Nat) => rV (V.int (n : Int))).length = net.arrivals.length := List.length_map _
  refine ss_one (s_ret (x_eq (x_call (ok_flow W) hr (by decide) (net, fun q => whole (arrival net q : Int)) (a_cons (x_var (i := 0)) (a_cons (x_eq (x_lc (n := (net.arrivals.map fun (n : Nat) => rV (V.int (n : Int))).length) (is := [1]) (own := [("arrival", 1)]) (fun i => rF K (whole ((net.arrivals.getD i 0 : Nat) : Int))) sc_traffic.nd (i_list (x_arrivals W.t (x_var (i := 0)))) (blkOk_by (N := N_traffic) (sc := defScope s_traffic) (by decide +kernel)) rfl .one (fun _ _ _ _ _ => g_one sc_traffic.nd) (fun s' H' C' cl fp i hi => ?_) (by rw [ln, ok.la]; omega)) ?_) a_nil)) rfl ⟨ok, op, side_arr ok⟩) ?_))
  · rw [ln] at hi
    rw [getD_natR hi]
    exact x_call (ok_whole W) hr (by decide) (((net.arrivals.getD i 0 : Nat) : Int)) (a_cons (x_var (i := 1)) a_nil) rfl trivial
  · rw [ln, ← arrivals_side ok, range_rF (f := fun i => whole ((net.arrivals.getD i 0 : Nat) : Int)), range_getD (d := 0) (f := fun (n : Nat) => whole (n : Int))]
    rfl
  · show rLF K (flowOf net _) = rLF K (Lrx4.traffic net)
    rw [traffic_eq ok op]
theorem ok_visits_from (W : Wd P w K mg base) : FnG P w K mg base "visits_from" 47 (fun x : NP => [rN x.1, rZ (x.2 : Int)]) (fun x => NetOk x.1 ∧ Lrx4.isOpen x.1 = true) (fun x => rLF K (Lrx4.visitsFrom x.1 x.2)) := by
  refine mk_visits_from W.t 46 (fun _ => rfl) fun cdv A outer s H E x0 hc hr => ?_
  obtain ⟨net, p⟩ := x0
  obtain ⟨ok, op⟩ : NetOk net ∧ Lrx4.isOpen net = true := hc
  have n15 := ok.n1.2
  refine ss_one (s_ret (x_eq (x_call (ok_flow W) hr (by decide) (net, startSide p) (a_cons (x_var (i := 0)) (a_cons (x_eq (x_lc (n := placeCount net) (is := [2]) (own := [("place", 2)]) (fun q => rF K (startSide p q)) sc_visits_from.nd (i_range1 (W.t.frees _ (by decide +kernel)) (x_meth0 (ok_place_count W) W.t.cl hr (by decide) (x_var (i := 0)) net rfl ok)) (blkOk_by (N := N_visits_from) (sc := defScope s_visits_from) (by decide +kernel)) rfl .one (fun _ _ _ _ _ => g_one sc_visits_from.nd) (fun s' H' C' cl fp q hq => ?_)) ?_) a_nil)) rfl ⟨ok, op, side_start p⟩) ?_))
  · refine x_ifExp (t_imp (t_eqI (x_var (i := 2)) (x_var (i := 1))) (dec_eq q p)) (fun h => x_eq (x_ONE W.t) ?_) (fun h => x_eq (x_NOTHING W.t) ?_)
    · unfold startSide
      rw [if_pos (of_decide_eq_true h).symm] <;> rfl
    · unfold startSide
      rw [if_neg (fun e => of_decide_eq_false h e.symm)] <;> rfl
  · rw [range_rF]
    rfl
  · show rLF K (flowOf net _) = rLF K (Lrx4.visitsFrom net p)
    rw [visits_eq ok op]
abbrev NRP : Type := Network × Row × Nat
theorem okf_load {net : Network} {r : Row} (ok : NetOk net) (h : Rt net r) (p : Nat) : Okf (loadIn net r p) := ⟨cn_load p, (sz_load ok h p).mono (by decide)⟩
theorem ok_place_load (W : Wd P w K mg base) : FnG P w K mg base "place_load" 43 (fun x : NRP => [rN x.1, rLF K x.2.1, rZ (x.2.2 : Int)]) (fun x => NetOk x.1 ∧ Rt x.1 x.2.1 ∧ x.2.2 < placeCount x.1) (fun x => rF K (loadIn x.1 x.2.1 x.2.2)) := by
  refine mk_place_load W.t 42 (fun _ => rfl) fun cdv A outer s H E x0 hc hr => ?_
  obtain ⟨net, r, p⟩ := x0
  obtain ⟨ok, rt, hp⟩ : NetOk net ∧ Rt net r ∧ p < placeCount net := hc
  have sv := ok.ser p
  exact ss_one (s_ret (x_call (ok_over W) hr (by decide) (entry r p, whole (service net p : Int)) (a_cons (x_ix (x_var (i := 1)) (x_var (i := 2)) (at_rLF (by rw [rt.len]; exact hp))) (a_cons (x_call (ok_whole W) hr (by decide) ((service net p : Nat) : Int) (a_cons (x_ix (x_services W.t (x_var (i := 0))) (x_var (i := 2)) (at_nat (d := 1) (by rw [ok.ls]; exact hp))) a_nil) rfl trivial) a_nil)) rfl ⟨⟨okf_entry rt p, okf_whole (by omega)⟩, whole_pos (by omega)⟩))
theorem ok_station_load (W : Wd P w K mg base) : FnG P w K mg base "station_load" 44 (fun x : NRP => [rN x.1, rLF K x.2.1, rZ (x.2.2 : Int)]) (fun x => NetOk x.1 ∧ Rt x.1 x.2.1 ∧ x.2.2 < stationCount x.1) (fun x => rF K (stationLoadIn x.1 x.2.1 x.2.2)) := by
  refine mk_station_load W.t 43 (fun _ => rfl) fun cdv A outer s H E x0 hc hr => ?_
  obtain ⟨net, r, i⟩ := x0
  obtain ⟨ok, rt, hi⟩ : NetOk net ∧ Rt net r ∧ i < stationCount net := hc
  have ln : ((placesOf net i).map fun (n : Nat) => rV (V.int (n : Int))).length = (placesOf net i).length := List.length_map _
  have l3 := ok.cl.2
  have pl := placesOf_len (net := net) hi
  refine ss_one (s_ret (x_call (ok_total W) hr (by decide) ((placesOf net i).map (loadIn net r)) (a_cons (x_eq (x_lc (n := ((placesOf net i).map fun (n : Nat) => rV (V.int (n : Int))).length) (is := [3]) (own := [("place", 3)]) (fun k => rF K (loadIn net r ((placesOf net i).getD k 0))) sc_station_load.nd (i_list (x_meth (ok_places_of W) W.t.cl hr (by decide) (x_var (i := 0)) (net, i) (a_cons (x_var (i := 2)) a_nil) rfl ⟨ok, hi⟩)) (blkOk_by (N := N_station_load) (sc := defScope s_station_load) (by decide +kernel)) rfl .one (fun _ _ _ _ _ => g_one sc_station_load.nd) (fun s' H' C' cl fp k hk => ?_) (by rw [ln, pl]; omega)) ?_) a_nil) rfl ⟨557, fun q hq => ?_, ?_⟩))
  · rw [ln] at hk
    rw [getD_natR hk]
    exact x_call (ok_place_load W) hr (by decide) (net, r, (placesOf net i).getD k 0) (a_cons (x_var (i := 0)) (a_cons (x_var (i := 1)) (a_cons (x_var (i := 3)) a_nil))) rfl ⟨ok, rt, placesOf_mem (getD_mem hk)⟩
  · rw [ln, range_rF, range_getD (d := 0) (f := loadIn net r)]
    rfl
  · obtain ⟨p, _, rfl⟩ := List.mem_map.mp hq
    exact ⟨cn_load p, sz_load ok rt p⟩
  · rw [List.length_map, pl]
    omega
theorem ok_station_rate (W : Wd P w K mg base) : FnG P w K mg base "station_rate" 44 (fun x : NRP => [rN x.1, rLF K x.2.1, rZ (x.2.2 : Int)]) (fun x => NetOk x.1 ∧ Rt x.1 x.2.1 ∧ x.2.2 < stationCount x.1) (fun x => rF K (stationRateIn x.1 x.2.1 x.2.2)) := by
  refine mk_station_rate W.t 43 (fun _ => rfl) fun cdv A outer s H E x0 hc hr => ?_
  obtain ⟨net, r, i⟩ := x0
  obtain ⟨ok, rt, hi⟩ : NetOk net ∧ Rt net r ∧ i < stationCount net := hc
  have ln : ((placesOf net i).map fun (n : Nat) => rV (V.int (n : Int))).length = (placesOf net i).length := List.length_map _
  have l3 := ok.cl.2
  have pl := placesOf_len (net := net) hi
  refine ss_one (s_ret (x_call (ok_total W) hr (by decide) ((placesOf net i).map (entry r)) (a_cons (x_eq (x_lc (n := ((placesOf net i).map fun (n : Nat) => rV (V.int (n : Int))).length) (is := [3]) (own := [("place", 3)]) (fun k => rF K (entry r ((placesOf net i).getD k 0))) sc_station_rate.nd (i_list (x_meth (ok_places_of W) W.t.cl hr (by decide) (x_var (i := 0)) (net, i) (a_cons (x_var (i := 2)) a_nil) rfl ⟨ok, hi⟩)) (blkOk_by (N := N_station_rate) (sc := defScope s_station_rate) (by decide +kernel)) rfl .one (fun _ _ _ _ _ => g_one sc_station_rate.nd) (fun s' H' C' cl fp k hk => ?_) (by rw [ln, pl]; omega)) ?_) a_nil) rfl ⟨557, fun q hq => ?_, ?_⟩))
  · rw [ln] at hk
    rw [getD_natR hk]
    exact x_ix (x_var (i := 1)) (x_var (i := 3)) (at_rLF (by rw [rt.len]; exact placesOf_mem (getD_mem hk)))
  · rw [ln, range_rF, range_getD (d := 0) (f := entry r)]
    rfl
  · obtain ⟨p, _, rfl⟩ := List.mem_map.mp hq
    exact ⟨(rt.at_ p).1, (rt.at_ p).2.2.mono (by decide)⟩
  · rw [List.length_map, pl]
    omega
theorem okf_sload {net : Network} {r : Row} (ok : NetOk net) (h : Rt net r) {i : Nat} (hi : i < stationCount net) : Okf (stationLoadIn net r i) := ⟨cn_sload i, (sz_sload ok h hi).mono (by decide)⟩
theorem okf_util {net : Network} {r : Row} (ok : NetOk net) (h : Rt net r) {i : Nat} (hi : i < stationCount net) : Okf (utilizationIn net r i) := ⟨cn_util i, (sz_util ok h hi).mono (by decide)⟩
theorem ok_utilization (W : Wd P w K mg base) : FnG P w K mg base "utilization" 45 (fun x : NRP => [rN x.1, rLF K x.2.1, rZ (x.2.2 : Int)]) (fun x => NetOk x.1 ∧ Rt x.1 x.2.1 ∧ x.2.2 < stationCount x.1) (fun x => rF K (utilizationIn x.1 x.2.1 x.2.2)) := by
  refine mk_utilization W.t 44 (fun _ => rfl) fun cdv A outer s H E x0 hc hr => ?_
  obtain ⟨net, r, i⟩ := x0
  obtain ⟨ok, rt, hi⟩ : NetOk net ∧ Rt net r ∧ i < stationCount net := hc
  have lk : (net.stations.map (·.kind)).length = stationCount net := List.length_map _
  have lv : (net.stations.map (·.servers)).length = stationCount net := List.length_map _
  have sv := servers_in ok i
  refine ss_if (t_imp (t_eqI (x_ix (x_kinds W.t (x_var (i := 0))) (x_var (i := 2)) (at_nat (d := 0) (by rw [lk]; exact hi))) (x_globI (W.t.zs "FOR_EVERYBODY" 2 (by decide +kernel)))) (dec_eq _ 2)) (fun h => ?_) (fun h => ?_)
  · have h1 : (net.stations.map (·.kind)).getD i 0 = 2 := of_decide_eq_true h
    rw [kinds_at] at h1
    refine ss_one (s_ret (x_eq (x_NOTHING W.t) ?_))
    show rF K zero = rF K (utilizationIn net r i)
    unfold utilizationIn
    rw [if_pos h1]
  · have h1 : ¬ (net.stations.map (·.kind)).getD i 0 = 2 := of_decide_eq_false h
    rw [kinds_at] at h1
    refine ss_one (s_ret (x_eq (x_call (ok_over W) hr (by decide) (stationLoadIn net r i, whole ((Lrx4.servers net i : Nat) : Int)) (a_cons (x_call (ok_station_load W) hr (by decide) (net, r, i) (a_cons (x_var (i := 0)) (a_cons (x_var (i := 1)) (a_cons (x_var (i := 2)) a_nil))) rfl ⟨ok, rt, hi⟩) (a_cons (x_call (ok_whole W) hr (by decide) ((Lrx4.servers net i : Nat) : Int) (a_cons (x_eq (x_ix (x_servers W.t (x_var (i := 0))) (x_var (i := 2)) (at_nat (d := 1) (by rw [lv]; exact hi))) (by rw [servers_at, servers_eq ok])) a_nil) rfl trivial) a_nil)) rfl ⟨⟨okf_sload ok rt hi, okf_whole (by omega)⟩, whole_pos (by omega)⟩) ?_))
    show rF K _ = rF K (utilizationIn net r i)
    unfold utilizationIn
    rw [if_neg h1]
abbrev NR : Type := Network × Row
theorem ok_utilizations (W : Wd P w K mg base) : FnG P w K mg base "utilizations" 46 (fun x : NR => [rN x.1, rLF K x.2]) (fun x => NetOk x.1 ∧ Rt x.1 x.2) (fun x => rLF K ((List.range (stationCount x.1)).map (utilizationIn x.1 x.2))) := by
  refine mk_utilizations W.t 45 (fun _ => rfl) fun cdv A outer s H E x0 hc hr => ?_
  obtain ⟨net, r⟩ := x0
  obtain ⟨ok, rt⟩ : NetOk net ∧ Rt net r := hc
  have s5 := ok.st.2
  refine ss_one (s_ret (x_eq (x_lc (n := stationCount net) (is := [2]) (own := [("station", 2)]) (fun i => rF K (utilizationIn net r i)) sc_utilizations.nd (i_range1 (W.t.frees _ (by decide +kernel)) (x_stations W.t (x_var (i := 0)))) (blkOk_by (N := N_utilizations) (sc := defScope s_utilizations) (by decide +kernel)) rfl .one (fun _ _ _ _ _ => g_one sc_utilizations.nd) (fun s' H' C' cl fp i hi => ?_)) ?_))
  · exact x_call (ok_utilization W) hr (by decide) (net, r, i) (a_cons (x_var (i := 0)) (a_cons (x_var (i := 1)) (a_cons (x_var (i := 2)) a_nil))) rfl ⟨ok, rt, hi⟩
  · exact congrArg rL range_rF
theorem ok_busiest (W : Wd P w K mg base) : FnG P w K mg base "busiest" 2 (fun l : Row => [rLF K l]) (fun l => (∀ q ∈ l, Okf q) ∧ l.length ≤ 1000) (fun l => rZ ((bestTo l l.length : Nat) : Int)) := by
  refine mk_busiest W.t 1 (fun _ => rfl) fun cdv A outer s H E l hc hr => ?_
  obtain ⟨hq, hn⟩ : (∀ q ∈ l, Okf q) ∧ l.length ≤ 1000 := hc
  refine ss_cons (s_set (i := 1) sc_busiest.nd x_int) (ss_cons (s_for (n := l.length) (is := [2]) (fun k => [some (rLF K l), some (rZ ((bestTo l k : Nat) : Int)), none]) (i_range1 (W.t.frees _ (by decide +kernel)) (x_eq (x_len (W.t.frees _ (by decide +kernel)) (x_var (i := 0))) (by rw [rlf_len]))) .one (g_one sc_busiest.nd) (le_eq rfl) fun k hk => ?_) (ss_one (s_ret (x_var (i := 1)))))
  have hb : bestTo l k < l.length := by rcases bestTo_lt l k with h | h <;> omega
  refine ss_one (s_if (t_val (x_call (ok_is_less W) hr (by decide) (entry l (bestTo l k), entry l k) (a_cons (x_ix (x_var (i := 0)) (x_var (i := 1)) (at_rLF hb)) (a_cons (x_ix (x_var (i := 0)) (x_var (i := 2)) (at_rLF hk)) a_nil)) rfl ⟨hq _ (getD_mem hb), hq _ (getD_mem hk)⟩)) (fun h => ?_) (fun h => ?_))
  · refine ss_out (ss_one (s_set (i := 1) sc_busiest.nd (x_var (i := 2)))) ?_
    refine le_same (le_imp (fun v G q => ?_) (le_drop le_nil))
    rw [bestTo_succ, if_pos (show lt (entry l (bestTo l k)) (entry l k) = true from h)]
    exact q
  · refine ss_out ss_nil ?_
    refine le_same (le_imp (fun v G q => ?_) (le_drop le_nil))
    rw [bestTo_succ, if_neg (by rw [show lt (entry l (bestTo l k)) (entry l k) = false from h]; decide)]
    exact q
theorem stable_of {net : Network} (op : Lrx4.isOpen net = true) : Lrx4.isStable net = ((List.range (stationCount net)).map fun i => lt (utilizationIn net (Lrx4.traffic net) i) one).all id := by
  unfold Lrx4.isStable Lrx4.utilizations
  rw [op, List.all_map, List.all_map]
  rfl
def rStable (K : PySem.W.Frag) (net : Network) : Rp := if Lrx4.isStable net then rLF K (Lrx4.traffic net) else rV .non
theorem ok_stable_rates (W : Wd P w K mg base) : FnG P w K mg base "stable_rates" 48 (fun x : Network => [rN x]) (fun x => NetOk x) (fun x => rStable K x) := by
  refine mk_stable_rates W.t 47 (fun _ => rfl) fun cdv A outer s H E net hc hr => ?_
  have ok : NetOk net := hc
  have s5 := ok.st.2
  refine ss_if (t_not (t_val (x_call (ok_is_open W) hr (by decide) net (a_cons (x_var (i := 0)) a_nil) rfl ok))) (fun h => ?_) (fun h => ?_)
  · have h1 : Lrx4.isOpen net = false := by simpa using h
    refine ss_one (s_ret (x_eq x_non ?_))
    unfold rStable Lrx4.isStable
    rw [h1]
    rfl
  · have op : Lrx4.isOpen net = true := by simpa using h
    have rt := traffic_rt ok op
    refine ss_cons (s_set (i := 1) sc_stable_rates.nd (x_call (ok_traffic W) hr (by decide) net (a_cons (x_var (i := 0)) a_nil) rfl ⟨ok, op⟩)) (ss_if (t_val (x_all (bs := (List.range (stationCount net)).map fun i => lt (utilizationIn net (Lrx4.traffic net) i) one) (W.t.frees _ (by decide +kernel)) (x_eq (x_lc (n := (((List.range (stationCount net)).map (utilizationIn net (Lrx4.traffic net))).map (rF K)).length) (is := [2]) (own := [("one", 2)]) (fun i => rB (lt (utilizationIn net (Lrx4.traffic net) i) one)) sc_stable_rates.nd
      (i_list (x_call (ok_utilizations W) hr (by decide) (net, Lrx4.traffic net) (a_cons (x_var (i := 0)) (a_cons (x_var (i := 1)) a_nil)) rfl ⟨ok, rt⟩)) (blkOk_by (N := N_stable_rates) (sc := defScope s_stable_rates) (by decide +kernel)) rfl .one (fun _ _ _ _ _ => g_one sc_stable_rates.nd) (fun s' H' C' cl fp i hi => ?_) (by rw [rlf_len, List.length_map, List.length_range]; omega)) ?_))) (fun q => ?_) (fun q => ?_))
    · rw [rlf_len, List.length_map, List.length_range] at hi
      rw [getD_rF (by rw [List.length_map, List.length_range]; exact hi), getD_map_range hi]
      exact x_call (ok_is_less W) hr (by decide) (utilizationIn net (Lrx4.traffic net) i, one) (a_cons (x_var (i := 2)) (a_cons (x_ONE W.t) a_nil)) rfl ⟨okf_util ok rt hi, okf_one⟩
    · rw [rlf_len, List.length_map, List.length_range]
      exact congrArg rL range_b
    · refine ss_one (s_ret (x_eq (x_var (i := 1)) ?_))
      unfold rStable
      rw [stable_of op, q]
      rfl
    · refine ss_one (s_ret (x_eq x_non ?_))
      unfold rStable
      rw [stable_of op, q]
      rfl
theorem ok_departures (W : Wd P w K mg base) : FnG P w K mg base "departures" 43 (fun x : NR => [rN x.1, rLF K x.2]) (fun x => NetOk x.1 ∧ Rt x.1 x.2) (fun x => rLF K ((places x.1).map fun p => mul (entry x.2 p) (leave x.1 p))) := by
  refine mk_departures W.t 42 (fun _ => rfl) fun cdv A outer s H E x0 hc hr => ?_
  obtain ⟨net, r⟩ := x0
  obtain ⟨ok, rt⟩ : NetOk net ∧ Rt net r := hc
  have n15 := ok.n1.2
  refine ss_one (s_ret (x_eq (x_lc (n := placeCount net) (is := [2]) (own := [("place", 2)]) (fun p => rF K (mul (entry r p) (leave net p))) sc_departures.nd (i_range1 (W.t.frees _ (by decide +kernel)) (x_meth0 (ok_place_count W) W.t.cl hr (by decide) (x_var (i := 0)) net rfl ok)) (blkOk_by (N := N_departures) (sc := defScope s_departures) (by decide +kernel)) rfl .one (fun _ _ _ _ _ => g_one sc_departures.nd) (fun s' H' C' cl fp p hp => ?_)) ?_))
  · exact x_call (ok_times W) hr (by decide) (entry r p, leave net p) (a_cons (x_ix (x_var (i := 1)) (x_var (i := 2)) (at_rLF (by rw [rt.len]; exact hp))) (a_cons (x_call (ok_leave_chance W) hr (by decide) (net, p) (a_cons (x_var (i := 0)) (a_cons (x_var (i := 2)) a_nil)) rfl ⟨ok, hp⟩) a_nil)) rfl ⟨okf_entry rt p, cn_leave p, (sz_leave ok p).mono (by decide)⟩
  · exact congrArg rL range_rF
end
end OQ
/-! queues.py -/
namespace OQ
open PySem PySem.Spec PyProof.Rows L2
open Lrx1 (Fraction add sub mul divide whole zero one reduce lt le sum entry isZero)
open Lrx4 (Network Station stationCount placeCount places stationOf place placesOf getStation arrival service leaveWeight routeWeight weightSum route leave leadsOut loadIn stationLoadIn stationRateIn utilizationIn)
theorem Fb.okf {b : Nat} {q : Fraction} (h : Fb b q) (l : b ≤ 60000000 := by decide) : Okf q := ⟨h.1, h.2.mono l⟩
abbrev FQ : Type := Fraction × Nat
section
variable {P : Program} {w : World} {K : PySem.W.Frag} {mg : Str → Option Value} {base : Heap}
theorem ok_blocked (W : Wd P w K mg base) : FnG P w K mg base "blocked" 43 (fun x : FQ => [rF K x.1, rZ (x.2 : Int)]) (fun x => Fb 1700 x.1 ∧ 0 ≤ val x.1 ∧ x.2 ≤ 20) (fun x => rF K (Lrx2.erlangB x.1 x.2)) := by
  refine mk_blocked W.t 42 (fun _ => rfl) fun cdv A outer s H E x0 hc hr => ?_
  obtain ⟨q, c⟩ := x0
  obtain ⟨hq, h0, hc⟩ : Fb 1700 q ∧ 0 ≤ val q ∧ c ≤ 20 := hc
  refine ss_cons (s_set (i := 2) sc_blocked.nd (x_ONE W.t)) (ss_cons (s_for (n := c) (is := [3]) (fun k => [some (rF K q), some (rZ (c : Int)), some (rF K (Lrx2.erlangB q k)), none, none]) (i_range2 (lo := 1) (W.t.frees _ (by decide +kernel)) x_int (x_eq (x_add (x_var (i := 1)) x_int) (congrArg rZ (by omega)))) .one (g_one sc_blocked.nd) (le_eq rfl) fun k hk => ?_) (ss_one (s_ret (x_var (i := 2)))))
  have fe := fb_erl hq h0 (k := k) (by omega)
  have fo := fb_mul hq fe
  have fs : Fb 5 (whole ((1 + k : Nat) : Int)) := fb_nat (by omega)
  have pos : 0 < (add (whole ((1 + k : Nat) : Int)) (mul q (Lrx2.erlangB q k))).num := by
    rw [num_pos_iff (cn_add _ _), val_add (cn_whole _) (cn_mul _ _), val_mul hq.1 (cn_erl q k), val_nat, Nat.add_comm]
    have := @nat_pos k
    have := Rat.mul_nonneg h0 (erl_in hq.1 h0 k).1
    grind
  refine ss_out (ss_cons (s_set (i := 4) sc_blocked.nd (x_call (ok_times W) hr (by decide) (q, Lrx2.erlangB q k) (a_cons (x_var (i := 0)) (a_cons (x_var (i := 2)) a_nil)) rfl ⟨hq.okf, fe.okf⟩))
    (ss_one (s_set (i := 2) sc_blocked.nd (x_call (ok_over W) hr (by decide) (mul q (Lrx2.erlangB q k), add (whole ((1 + k : Nat) : Int)) (mul q (Lrx2.erlangB q k))) (a_cons (x_var (i := 4)) (a_cons (x_call (ok_plus W) hr (by decide) (whole ((1 + k : Nat) : Int), mul q (Lrx2.erlangB q k)) (a_cons (x_call (ok_whole W) hr (by decide) ((1 + k : Nat) : Int) (a_cons (x_var (i := 3)) a_nil) rfl trivial) (a_cons (x_var (i := 4)) a_nil)) rfl ⟨fs.okf, fo.okf⟩) a_nil)) rfl ⟨⟨fo.okf, (fb_add fs fo).okf⟩, pos⟩)))) ?_
  refine le_same (le_same (le_imp (fun v G z => ?_) (le_drop (le_drop le_nil))))
  have e : Lrx2.erlangB q (k + 1) = divide (mul q (Lrx2.erlangB q k)) (add (whole ((1 + k : Nat) : Int)) (mul q (Lrx2.erlangB q k))) := by
    rw [Nat.add_comm 1 k]
    rfl
  rw [e]
  exact z
theorem ok_waiting_chance (W : Wd P w K mg base) : FnG P w K mg base "waiting_chance" 44 (fun x : FQ => [rF K x.1, rZ (x.2 : Int)]) (fun x => Ld x.1 x.2) (fun x => rF K (Lrx2.erlangC x.1 x.2)) := by
  refine mk_waiting_chance W.t 43 (fun _ => rfl) fun cdv A outer s H E x0 hc hr => ?_
  obtain ⟨q, c⟩ := x0
  have l : Ld q c := hc
  have c1 := l.c1
  have c20 := l.c20
  have fc : Fb 5 (whole (c : Int)) := fb_nat (by omega)
  have f1 := fb_sub fb_one l.fbe
  exact ss_cons (s_set (i := 2) sc_waiting_chance.nd (x_call (ok_over W) hr (by decide) (q, whole (c : Int)) (a_cons (x_var (i := 0)) (a_cons (x_call (ok_whole W) hr (by decide) (c : Int) (a_cons (x_var (i := 1)) a_nil) rfl trivial) a_nil)) rfl ⟨⟨l.fb.okf, fc.okf⟩, whole_pos (by omega)⟩))
    (ss_cons (s_set (i := 3) sc_waiting_chance.nd (x_call (ok_blocked W) hr (by decide) (q, c) (a_cons (x_var (i := 0)) (a_cons (x_var (i := 1)) a_nil)) rfl ⟨l.fb, l.nn, l.c20⟩))
    (ss_one (s_ret (x_call (ok_over W) hr (by decide) (Lrx2.erlangB q c, sub one (mul (useF q c) (sub one (Lrx2.erlangB q c)))) (a_cons (x_var (i := 3)) (a_cons (x_call (ok_minus W) hr (by decide) (one, mul (useF q c) (sub one (Lrx2.erlangB q c))) (a_cons (x_ONE W.t) (a_cons (x_call (ok_times W) hr (by decide) (useF q c, sub one (Lrx2.erlangB q c)) (a_cons (x_var (i := 2)) (a_cons (x_call (ok_minus W) hr (by decide) (one, Lrx2.erlangB q c) (a_cons (x_ONE W.t) (a_cons (x_var (i := 3)) a_nil)) rfl ⟨okf_one, l.fbe.okf⟩) a_nil)) rfl ⟨l.fbu.okf, f1.okf⟩) a_nil)) rfl ⟨okf_one, (fb_mul l.fbu f1).okf⟩) a_nil)) rfl ⟨⟨l.fbe.okf, l.fbd.okf⟩, l.den⟩))))
theorem ok_queue (W : Wd P w K mg base) : FnG P w K mg base "queue" 45 (fun x : FQ => [rF K x.1, rZ (x.2 : Int)]) (fun x => Ld x.1 x.2) (fun x => rF K (queueF x.1 x.2)) := by
  refine mk_queue W.t 44 (fun _ => rfl) fun cdv A outer s H E x0 hc hr => ?_
  obtain ⟨q, c⟩ := x0
  have l : Ld q c := hc
  have c1 := l.c1
  have c20 := l.c20
  have fc : Fb 5 (whole (c : Int)) := fb_nat (by omega)
  exact ss_cons (s_set (i := 2) sc_queue.nd (x_call (ok_over W) hr (by decide) (q, whole (c : Int)) (a_cons (x_var (i := 0)) (a_cons (x_call (ok_whole W) hr (by decide) (c : Int) (a_cons (x_var (i := 1)) a_nil) rfl trivial) a_nil)) rfl ⟨⟨l.fb.okf, fc.okf⟩, whole_pos (by omega)⟩))
    (ss_one (s_ret (x_call (ok_over W) hr (by decide) (mul (Lrx2.erlangC q c) (useF q c), sub one (useF q c)) (a_cons (x_call (ok_times W) hr (by decide) (Lrx2.erlangC q c, useF q c) (a_cons (x_call (ok_waiting_chance W) hr (by decide) (q, c) (a_cons (x_var (i := 0)) (a_cons (x_var (i := 1)) a_nil)) rfl l) (a_cons (x_var (i := 2)) a_nil)) rfl ⟨l.fbc.okf, l.fbu.okf⟩) (a_cons (x_call (ok_minus W) hr (by decide) (one, useF q c) (a_cons (x_ONE W.t) (a_cons (x_var (i := 2)) a_nil)) rfl ⟨okf_one, l.fbu.okf⟩) a_nil)) rfl ⟨⟨(fb_mul l.fbc l.fbu).okf, (fb_sub fb_one l.fbu).okf⟩, l.rest⟩)))
theorem x_server {X : Cx} {Γ : Ctx} {a e : Expr} {p1 p2 : Pos} {net : Network} {i : Nat} (T : Tx X.K X.mg) (ok : NetOk net) (hi : i < stationCount net) (h : XE X e Γ (rN net)) (ha : XE X a Γ (rZ (i : Int))) (hba : attributeBase e "servers" X.env (eval e X.env) = eval e X.env := by rfl)
    (hs : PlainIx a := by exact fun _ _ => rfl) : XE X (.Subscript (.Attribute e "servers" p1) a p2) Γ (rZ ((Lrx4.servers net i : Nat) : Int)) := by
  have lv : (net.stations.map (·.servers)).length = stationCount net := List.length_map _
  exact x_eq (x_ix (x_servers T h hba) ha (at_nat (d := 1) (by rw [lv]; exact hi)) hs) (by rw [servers_at, servers_eq ok])
theorem x_kind {X : Cx} {Γ : Ctx} {a e : Expr} {p1 p2 : Pos} {net : Network} {i : Nat} (T : Tx X.K X.mg) (hi : i < stationCount net) (h : XE X e Γ (rN net)) (ha : XE X a Γ (rZ (i : Int))) (hba : attributeBase e "kinds" X.env (eval e X.env) = eval e X.env := by rfl)
    (hs : PlainIx a := by exact fun _ _ => rfl) : XE X (.Subscript (.Attribute e "kinds" p1) a p2) Γ (rZ (((getStation net i).kind : Nat) : Int)) := by
  have lv : (net.stations.map (·.kind)).length = stationCount net := List.length_map _
  exact x_eq (x_ix (x_kinds T h hba) ha (at_nat (d := 0) (by rw [lv]; exact hi)) hs) (by rw [kinds_at])
theorem ok_station_queue (W : Wd P w K mg base) : FnG P w K mg base "station_queue" 46 (fun x : NRP => [rN x.1, rLF K x.2.1, rZ (x.2.2 : Int)]) (fun x => Sta x.1 x.2.1 ∧ x.2.2 < stationCount x.1 ∧ (getStation x.1 x.2.2).kind ≠ 2) (fun x => rF K (queueF (stationLoadIn x.1 x.2.1 x.2.2) (Lrx4.servers x.1 x.2.2))) := by
  refine mk_station_queue W.t 45 (fun _ => rfl) fun cdv A outer s H E x0 hc hr => ?_
  obtain ⟨net, r, i⟩ := x0
  obtain ⟨st, hi, hk⟩ : Sta net r ∧ i < stationCount net ∧ (getStation net i).kind ≠ 2 := hc
  exact ss_one (s_ret (x_call (ok_queue W) hr (by decide) (stationLoadIn net r i, Lrx4.servers net i) (a_cons (x_call (ok_station_load W) hr (by decide) (net, r, i) (a_cons (x_var (i := 0)) (a_cons (x_var (i := 1)) (a_cons (x_var (i := 2)) a_nil))) rfl ⟨st.ok, st.rt, hi⟩) (a_cons (x_server W.t st.ok hi (x_var (i := 0)) (x_var (i := 2))) a_nil)) rfl (st.ld hi hk)))
theorem ok_unused (W : Wd P w K mg base) : FnG P w K mg base "unused" 46 (fun x : NRP => [rN x.1, rLF K x.2.1, rZ (x.2.2 : Int)]) (fun x => Sta x.1 x.2.1 ∧ x.2.2 < stationCount x.1) (fun x => rF K (sub one (utilizationIn x.1 x.2.1 x.2.2))) := by
  refine mk_unused W.t 45 (fun _ => rfl) fun cdv A outer s H E x0 hc hr => ?_
  obtain ⟨net, r, i⟩ := x0
  obtain ⟨st, hi⟩ : Sta net r ∧ i < stationCount net := hc
  exact ss_one (s_ret (x_call (ok_minus W) hr (by decide) (one, utilizationIn net r i) (a_cons (x_ONE W.t) (a_cons (x_call (ok_utilization W) hr (by decide) (net, r, i) (a_cons (x_var (i := 0)) (a_cons (x_var (i := 1)) (a_cons (x_var (i := 2)) a_nil))) rfl ⟨st.ok, st.rt, hi⟩) a_nil)) rfl ⟨okf_one, okf_util st.ok st.rt hi⟩))
theorem ok_wait_at (W : Wd P w K mg base) : FnG P w K mg base "wait_at" 47 (fun x : NRP => [rN x.1, rLF K x.2.1, rZ (x.2.2 : Int)]) (fun x => Sta x.1 x.2.1 ∧ x.2.2 < stationCount x.1 ∧ (getStation x.1 x.2.2).kind ≠ 2) (fun x => rF K (waitM x.1 x.2.1 x.2.2)) := by
  refine mk_wait_at W.t 46 (fun _ => rfl) fun cdv A outer s H E x0 hc hr => ?_
  obtain ⟨net, r, i⟩ := x0
  obtain ⟨st, hi, hk⟩ : Sta net r ∧ i < stationCount net ∧ (getStation net i).kind ≠ 2 := hc
  refine ss_cons (s_set (i := 3) sc_wait_at.nd (x_call (ok_station_rate W) hr (by decide) (net, r, i) (a_cons (x_var (i := 0)) (a_cons (x_var (i := 1)) (a_cons (x_var (i := 2)) a_nil))) rfl ⟨st.ok, st.rt, hi⟩)) (ss_if (t_eqF hr (x_var (i := 3)) (x_NOTHING W.t)) (fun h => ?_) (fun h => ?_))
  · have h1 : stationRateIn net r i = zero := of_decide_eq_true h
    refine ss_one (s_ret (x_eq (x_NOTHING W.t) ?_))
    show rF K zero = rF K (waitM net r i)
    unfold waitM
    rw [if_pos h1]
  · have h1 : ¬ stationRateIn net r i = zero := of_decide_eq_false h
    have l := st.ld hi hk
    have f := fb_rate st hi
    have pos : 0 < (stationRateIn net r i).num := by
      rw [num_pos_iff f.1]
      have h2 := srate_nonneg st.rt i
      have h3 : val (stationRateIn net r i) ≠ 0 := fun z => h1 (eq_zero_of f.1 z)
      grind
    refine ss_one (s_ret (x_eq (x_call (ok_over W) hr (by decide) (queueF (stationLoadIn net r i) (Lrx4.servers net i), stationRateIn net r i) (a_cons (x_call (ok_station_queue W) hr (by decide) (net, r, i) (a_cons (x_var (i := 0)) (a_cons (x_var (i := 1)) (a_cons (x_var (i := 2)) a_nil))) rfl ⟨st, hi, hk⟩) (a_cons (x_var (i := 3)) a_nil)) rfl ⟨⟨l.fbq.okf, f.okf⟩, pos⟩) ?_))
    show rF K _ = rF K (waitM net r i)
    unfold waitM
    rw [if_neg h1]
theorem rest_pos {net : Network} {r : Lrx1.Row} (st : Sta net r) {i : Nat} (hi : i < stationCount net) : 0 < (sub one (utilizationIn net r i)).num := by
  rw [num_pos_iff (cn_sub _ _), val_sub cn_one (cn_util i), val_one]
  have := st.u1 i hi
  grind
theorem ok_number_at (W : Wd P w K mg base) : FnG P w K mg base "number_at" 48 (fun x : NRP => [rN x.1, rLF K x.2.1, rZ (x.2.2 : Int)]) (fun x => Sta x.1 x.2.1 ∧ x.2.2 < placeCount x.1) (fun x => rF K (numberM x.1 x.2.1 x.2.2)) := by
  refine mk_number_at W.t 47 (fun _ => rfl) fun cdv A outer s H E x0 hc hr => ?_
  obtain ⟨net, r, p⟩ := x0
  obtain ⟨st, hp⟩ : Sta net r ∧ p < placeCount net := hc
  have hi := stationOf_lt st.ok p
  refine ss_cons (s_set (i := 3) sc_number_at.nd (x_meth (ok_station_of W) W.t.cl hr (by decide) (x_var (i := 0)) (net, p) (a_cons (x_var (i := 2)) a_nil) rfl st.ok))
    (ss_cons (s_set (i := 4) sc_number_at.nd (x_call (ok_place_load W) hr (by decide) (net, r, p) (a_cons (x_var (i := 0)) (a_cons (x_var (i := 1)) (a_cons (x_var (i := 2)) a_nil))) rfl ⟨st.ok, st.rt, hp⟩))
    (ss_if (t_imp (t_eqI (x_kind W.t hi (x_var (i := 0)) (x_var (i := 3))) (x_globI (W.t.zs "FOR_EVERYBODY" 2 (by decide +kernel)))) (dec_eq _ 2)) (fun h => ?_) (fun h => ss_if (t_imp (t_eqI (x_kind W.t hi (x_var (i := 0)) (x_var (i := 3))) (x_globI (W.t.zs "IN_ORDER" 0 (by decide +kernel)))) (dec_eq _ 0)) (fun h2 => ?_) (fun h2 => ?_))))
  · have k2 : (getStation net (stationOf net p)).kind = 2 := of_decide_eq_true h
    refine ss_one (s_ret (x_eq (x_var (i := 4)) ?_))
    show rF K (loadIn net r p) = rF K (numberM net r p)
    unfold numberM
    rw [if_pos k2]
  · have k2 : ¬ (getStation net (stationOf net p)).kind = 2 := of_decide_eq_false h
    have k0 : (getStation net (stationOf net p)).kind = 0 := of_decide_eq_true h2
    have fw := fb_wait st hi k2
    have fe := fb_entry st.rt p
    have fl := fb_load st.ok st.rt p
    refine ss_one (s_ret (x_eq (x_call (ok_plus W) hr (by decide) (loadIn net r p, mul (waitM net r (stationOf net p)) (entry r p)) (a_cons (x_var (i := 4)) (a_cons (x_call (ok_times W) hr (by decide) (waitM net r (stationOf net p), entry r p) (a_cons (x_call (ok_wait_at W) hr (by decide) (net, r, stationOf net p) (a_cons (x_var (i := 0)) (a_cons (x_var (i := 1)) (a_cons (x_var (i := 3)) a_nil))) rfl ⟨st, hi, k2⟩) (a_cons (x_ix (x_var (i := 1)) (x_var (i := 2)) (at_rLF (by rw [st.rt.len]; exact hp))) a_nil)) rfl ⟨fw.okf, fe.okf⟩) a_nil)) rfl ⟨fl.okf, (fb_mul fw fe).okf⟩) ?_))
    show rF K _ = rF K (numberM net r p)
    unfold numberM
    rw [if_neg k2, if_pos k0]
  · have k2 : ¬ (getStation net (stationOf net p)).kind = 2 := of_decide_eq_false h
    have k0 : ¬ (getStation net (stationOf net p)).kind = 0 := of_decide_eq_false h2
    have fl := fb_load st.ok st.rt p
    have fu := fb_sub fb_one (fb_util st hi)
    refine ss_one (s_ret (x_eq (x_call (ok_over W) hr (by decide) (loadIn net r p, sub one (utilizationIn net r (stationOf net p))) (a_cons (x_var (i := 4)) (a_cons (x_call (ok_unused W) hr (by decide) (net, r, stationOf net p) (a_cons (x_var (i := 0)) (a_cons (x_var (i := 1)) (a_cons (x_var (i := 3)) a_nil))) rfl ⟨st, hi⟩) a_nil)) rfl ⟨⟨fl.okf, fu.okf⟩, rest_pos st hi⟩) ?_))
    show rF K _ = rF K (numberM net r p)
    unfold numberM
    rw [if_neg k2, if_neg k0]
theorem ok_time_at (W : Wd P w K mg base) : FnG P w K mg base "time_at" 48 (fun x : NRP => [rN x.1, rLF K x.2.1, rZ (x.2.2 : Int)]) (fun x => Sta x.1 x.2.1 ∧ x.2.2 < placeCount x.1) (fun x => rF K (timeM x.1 x.2.1 x.2.2)) := by
  refine mk_time_at W.t 47 (fun _ => rfl) fun cdv A outer s H E x0 hc hr => ?_
  obtain ⟨net, r, p⟩ := x0
  obtain ⟨st, hp⟩ : Sta net r ∧ p < placeCount net := hc
  have hi := stationOf_lt st.ok p
  have sv := st.ok.ser p
  have fs := fb_serv st p
  refine ss_cons (s_set (i := 3) sc_time_at.nd (x_meth (ok_station_of W) W.t.cl hr (by decide) (x_var (i := 0)) (net, p) (a_cons (x_var (i := 2)) a_nil) rfl st.ok))
    (ss_cons (s_set (i := 4) sc_time_at.nd (x_call (ok_over W) hr (by decide) (one, whole (service net p : Int)) (a_cons (x_ONE W.t) (a_cons (x_call (ok_whole W) hr (by decide) ((service net p : Nat) : Int) (a_cons (x_ix (x_services W.t (x_var (i := 0))) (x_var (i := 2)) (at_nat (d := 1) (by rw [st.ok.ls]; exact hp))) a_nil) rfl trivial) a_nil)) rfl ⟨⟨okf_one, okf_whole (by omega)⟩, whole_pos (by omega)⟩))
    (ss_if (t_imp (t_eqI (x_kind W.t hi (x_var (i := 0)) (x_var (i := 3))) (x_globI (W.t.zs "FOR_EVERYBODY" 2 (by decide +kernel)))) (dec_eq _ 2)) (fun h => ?_) (fun h => ss_if (t_imp (t_eqI (x_kind W.t hi (x_var (i := 0)) (x_var (i := 3))) (x_globI (W.t.zs "IN_ORDER" 0 (by decide +kernel)))) (dec_eq _ 0)) (fun h2 => ?_) (fun h2 => ?_))))
  · have k2 : (getStation net (stationOf net p)).kind = 2 := of_decide_eq_true h
    refine ss_one (s_ret (x_eq (x_var (i := 4)) ?_))
    show rF K (divide one (whole (service net p : Int))) = rF K (timeM net r p)
    unfold timeM
    rw [if_pos k2]
  · have k2 : ¬ (getStation net (stationOf net p)).kind = 2 := of_decide_eq_false h
    have k0 : (getStation net (stationOf net p)).kind = 0 := of_decide_eq_true h2
    have fw := fb_wait st hi k2
    refine ss_one (s_ret (x_eq (x_call (ok_plus W) hr (by decide) (divide one (whole (service net p : Int)), waitM net r (stationOf net p)) (a_cons (x_var (i := 4)) (a_cons (x_call (ok_wait_at W) hr (by decide) (net, r, stationOf net p) (a_cons (x_var (i := 0)) (a_cons (x_var (i := 1)) (a_cons (x_var (i := 3)) a_nil))) rfl ⟨st, hi, k2⟩) a_nil)) rfl ⟨fs.okf, fw.okf⟩) ?_))
    show rF K _ = rF K (timeM net r p)
    unfold timeM
    rw [if_neg k2, if_pos k0]
  · have k2 : ¬ (getStation net (stationOf net p)).kind = 2 := of_decide_eq_false h
    have k0 : ¬ (getStation net (stationOf net p)).kind = 0 := of_decide_eq_false h2
    have fu := fb_sub fb_one (fb_util st hi)
    refine ss_one (s_ret (x_eq (x_call (ok_over W) hr (by decide) (divide one (whole (service net p : Int)), sub one (utilizationIn net r (stationOf net p))) (a_cons (x_var (i := 4)) (a_cons (x_call (ok_unused W) hr (by decide) (net, r, stationOf net p) (a_cons (x_var (i := 0)) (a_cons (x_var (i := 1)) (a_cons (x_var (i := 3)) a_nil))) rfl ⟨st, hi⟩) a_nil)) rfl ⟨⟨fs.okf, fu.okf⟩, rest_pos st hi⟩) ?_))
    show rF K _ = rF K (timeM net r p)
    unfold timeM
    rw [if_neg k2, if_neg k0]
theorem ok_station_number (W : Wd P w K mg base) : FnG P w K mg base "station_number" 49 (fun x : NRP => [rN x.1, rLF K x.2.1, rZ (x.2.2 : Int)]) (fun x => Sta x.1 x.2.1 ∧ x.2.2 < stationCount x.1) (fun x => rF K (stNumM x.1 x.2.1 x.2.2)) := by
  refine mk_station_number W.t 48 (fun _ => rfl) fun cdv A outer s H E x0 hc hr => ?_
  obtain ⟨net, r, i⟩ := x0
  obtain ⟨st, hi⟩ : Sta net r ∧ i < stationCount net := hc
  have ln : ((placesOf net i).map fun (n : Nat) => rV (V.int (n : Int))).length = (placesOf net i).length := List.length_map _
  have l3 := st.ok.cl.2
  have pl := placesOf_len (net := net) hi
  refine ss_one (s_ret (x_call (ok_total W) hr (by decide) ((placesOf net i).map (numberM net r)) (a_cons (x_eq (x_lc (n := ((placesOf net i).map fun (n : Nat) => rV (V.int (n : Int))).length) (is := [3]) (own := [("place", 3)]) (fun k => rF K (numberM net r ((placesOf net i).getD k 0))) sc_station_number.nd (i_list (x_meth (ok_places_of W) W.t.cl hr (by decide) (x_var (i := 0)) (net, i) (a_cons (x_var (i := 2)) a_nil) rfl ⟨st.ok, hi⟩)) (blkOk_by (N := N_station_number) (sc := defScope s_station_number) (by decide +kernel)) rfl .one (fun _ _ _ _ _ => g_one sc_station_number.nd) (fun s' H' C' cl fp k hk => ?_) (by rw [ln, pl]; omega)) ?_) a_nil) rfl ⟨76200, fun q hq => ?_, ?_⟩))
  · rw [ln] at hk
    rw [getD_natR hk]
    exact x_call (ok_number_at W) hr (by decide) (net, r, (placesOf net i).getD k 0) (a_cons (x_var (i := 0)) (a_cons (x_var (i := 1)) (a_cons (x_var (i := 3)) a_nil))) rfl ⟨st, placesOf_mem (getD_mem hk)⟩
  · rw [ln, range_rF, range_getD (d := 0) (f := numberM net r)]
    rfl
  · obtain ⟨p, _, rfl⟩ := List.mem_map.mp hq
    exact fb_number st p
  · rw [List.length_map, pl]
    omega
theorem ok_station_numbers (W : Wd P w K mg base) : FnG P w K mg base "station_numbers" 50 (fun x : NR => [rN x.1, rLF K x.2]) (fun x => Sta x.1 x.2) (fun x => rLF K ((List.range (stationCount x.1)).map (stNumM x.1 x.2))) := by
  refine mk_station_numbers W.t 49 (fun _ => rfl) fun cdv A outer s H E x0 hc hr => ?_
  obtain ⟨net, r⟩ := x0
  have st : Sta net r := hc
  have s5 := st.ok.st.2
  refine ss_one (s_ret (x_eq (x_lc (n := stationCount net) (is := [2]) (own := [("station", 2)]) (fun i => rF K (stNumM net r i)) sc_station_numbers.nd (i_range1 (W.t.frees _ (by decide +kernel)) (x_stations W.t (x_var (i := 0)))) (blkOk_by (N := N_station_numbers) (sc := defScope s_station_numbers) (by decide +kernel)) rfl .one (fun _ _ _ _ _ => g_one sc_station_numbers.nd) (fun s' H' C' cl fp i hi => ?_)) ?_))
  · exact x_call (ok_station_number W) hr (by decide) (net, r, i) (a_cons (x_var (i := 0)) (a_cons (x_var (i := 1)) (a_cons (x_var (i := 2)) a_nil))) rfl ⟨st, hi⟩
  · exact congrArg rL range_rF
theorem ok_time_from (W : Wd P w K mg base) : FnG P w K mg base "time_from" 49 (fun x : NRP => [rN x.1, rLF K x.2.1, rZ (x.2.2 : Int)]) (fun x => Sta x.1 x.2.1 ∧ Lrx4.isOpen x.1 = true) (fun x => rF K (timeFromM x.1 x.2.1 x.2.2)) := by
  refine mk_time_from W.t 48 (fun _ => rfl) fun cdv A outer s H E x0 hc hr => ?_
  obtain ⟨net, r, p⟩ := x0
  obtain ⟨st, op⟩ : Sta net r ∧ Lrx4.isOpen net = true := hc
  have n15 := st.ok.n1.2
  have vr := visits_rt st.ok op p
  refine ss_cons (s_set (i := 3) sc_time_from.nd (x_call (ok_visits_from W) hr (by decide) (net, p) (a_cons (x_var (i := 0)) (a_cons (x_var (i := 2)) a_nil)) rfl ⟨st.ok, op⟩))
    (ss_one (s_ret (x_call (ok_total W) hr (by decide) ((places net).map fun q => mul (entry (Lrx4.visitsFrom net p) q) (timeM net r q)) (a_cons (x_eq (x_lc (n := placeCount net) (is := [4]) (own := [("place", 4)]) (fun q => rF K (mul (entry (Lrx4.visitsFrom net p) q) (timeM net r q))) sc_time_from.nd (i_range1 (W.t.frees _ (by decide +kernel)) (x_meth0 (ok_place_count W) W.t.cl hr (by decide) (x_var (i := 0)) net rfl st.ok)) (blkOk_by (N := N_time_from) (sc := defScope s_time_from) (by decide +kernel)) rfl .one (fun _ _ _ _ _ => g_one sc_time_from.nd) (fun s' H' C' cl fp q hq => ?_)) ?_) a_nil) rfl ⟨76740, fun y hy => ?_, ?_⟩)))
  · exact x_call (ok_times W) hr (by decide) (entry (Lrx4.visitsFrom net p) q, timeM net r q) (a_cons (x_ix (x_var (i := 3)) (x_var (i := 4)) (at_rLF (by rw [vr.len]; exact hq))) (a_cons (x_call (ok_time_at W) hr (by decide) (net, r, q) (a_cons (x_var (i := 0)) (a_cons (x_var (i := 1)) (a_cons (x_var (i := 4)) a_nil))) rfl ⟨st, hq⟩) a_nil)) rfl ⟨(fb_entry vr q).okf, (fb_time st q).okf⟩
  · exact congrArg rL range_rF
  · obtain ⟨q, _, rfl⟩ := List.mem_map.mp hy
    exact (fb_mul (fb_entry vr q) (fb_time st q)).mono (by decide)
  · unfold places
    rw [List.length_map, List.length_range]
    omega
theorem ok_factorial (W : Wd P w K mg base) : FnG P w K mg base "factorial" 1 (fun x : Nat => [rZ (x : Int)]) (fun x => x ≤ 20) (fun x => rZ ((fac x : Nat) : Int)) := by
  refine mk_factorial W.t 0 (fun _ => rfl) fun cdv A outer s H E n hc hr => ?_
  have hn : n ≤ 20 := hc
  refine ss_cons (s_set (i := 1) sc_factorial.nd x_int) (ss_cons (s_for (n := n) (is := [2]) (fun k => [some (rZ (n : Int)), some (rZ ((fac k : Nat) : Int)), none]) (i_range2 (lo := 1) (W.t.frees _ (by decide +kernel)) x_int (x_eq (x_add (x_var (i := 0)) x_int) (congrArg rZ (by omega)))) .one (g_one sc_factorial.nd) (le_eq rfl) fun k hk => ?_) (ss_one (s_ret (x_var (i := 1)))))
  have f := (fac_lt k (by omega)).1
  have m : IntMulOk ((fac k : Nat) : Int) ((1 + k : Nat) : Int) := mul_ok (a := 5 * k + 1) (b := 5) (by rw [Int.natAbs_natCast]; exact f) (by rw [Int.natAbs_natCast]; omega) (by omega)
  refine ss_out (ss_one (s_set (i := 1) sc_factorial.nd (x_mul (x_var (i := 1)) (x_var (i := 2)) m))) ?_
  have e : ((fac k : Nat) : Int) * ((1 + k : Nat) : Int) = ((fac (k + 1) : Nat) : Int) := by
    show _ = ((fac k * (k + 1) : Nat) : Int)
    rw [Int.natCast_mul, Nat.add_comm]
  show Le [_, some (rZ (((fac k : Nat) : Int) * ((1 + k : Nat) : Int))), _] _
  rw [e]
  exact le_same (le_same (le_drop le_nil))
theorem fac_whole {n : Nat} (hn : n ≤ 20) : Fb 101 (whole (fac n : Int)) := fb_nat (Nat.lt_of_lt_of_le (fac_lt n hn).1 (Nat.pow_le_pow_right (by decide) (by omega)))
theorem ok_share (W : Wd P w K mg base) : FnG P w K mg base "share" 43 (fun x : FQ => [rF K x.1, rZ (x.2 : Int)]) (fun x => Fb 1700 x.1 ∧ x.2 ≤ 20) (fun x => rF K (shareF x.1 x.2)) := by
  refine mk_share W.t 42 (fun _ => rfl) fun cdv A outer s H E x0 hc hr => ?_
  obtain ⟨q, n⟩ := x0
  obtain ⟨hq, hn⟩ : Fb 1700 q ∧ n ≤ 20 := hc
  exact ss_one (s_ret (x_call (ok_over W) hr (by decide) (fpow q n, whole (fac n : Int)) (a_cons (x_call (ok_power W) hr (by decide) (q, n) (a_cons (x_var (i := 0)) (a_cons (x_var (i := 1)) a_nil)) rfl ⟨1700, by decide, hq.2, by show 1700 * n + 1 ≤ 60000000; omega, by decide, by show n ≤ 1000; omega⟩) (a_cons (x_call (ok_whole W) hr (by decide) ((fac n : Nat) : Int) (a_cons (x_call (ok_factorial W) hr (by decide) n (a_cons (x_var (i := 1)) a_nil) rfl hn) a_nil) rfl trivial) a_nil)) rfl ⟨⟨(fb_pow hq (by decide) hn).okf, (fac_whole hn).okf⟩, whole_pos (fac_lt n hn).2⟩))
theorem ok_weight (W : Wd P w K mg base) : FnG P w K mg base "weight" 44 (fun x : Fraction × Nat × Nat => [rF K x.1, rZ (x.2.1 : Int), rZ (x.2.2 : Int)]) (fun x => Ld x.1 x.2.1 ∧ x.2.2 ≤ 60) (fun x => rF K (weightF x.1 x.2.1 x.2.2)) := by
  refine mk_weight W.t 43 (fun _ => rfl) fun cdv A outer s H E x0 hc hr => ?_
  obtain ⟨q, c, n⟩ := x0
  obtain ⟨l, hn⟩ : Ld q c ∧ n ≤ 60 := hc
  have c1 := l.c1
  have c20 := l.c20
  have fc : Fb 5 (whole (c : Int)) := fb_nat (by omega)
  refine ss_if (t_le (x_var (i := 2)) (x_var (i := 1))) (fun h => ?_) (fun h => ?_)
  · have h1 : (n : Int) ≤ (c : Int) := of_decide_eq_true h
    have h2 : n ≤ c := by omega
    refine ss_one (s_ret (x_eq (x_call (ok_share W) hr (by decide) (q, n) (a_cons (x_var (i := 0)) (a_cons (x_var (i := 2)) a_nil)) rfl ⟨l.fb, by show n ≤ 20; omega⟩) ?_))
    show rF K (shareF q n) = rF K (weightF q c n)
    unfold weightF
    rw [if_pos h2]
  · have h1 : ¬ (n : Int) ≤ (c : Int) := of_decide_eq_false h
    have h2 : ¬ n ≤ c := by omega
    refine ss_cons (s_set (i := 3) sc_weight.nd (x_call (ok_over W) hr (by decide) (q, whole (c : Int)) (a_cons (x_var (i := 0)) (a_cons (x_call (ok_whole W) hr (by decide) (c : Int) (a_cons (x_var (i := 1)) a_nil) rfl trivial) a_nil)) rfl ⟨⟨l.fb.okf, fc.okf⟩, whole_pos (by omega)⟩))
      (ss_one (s_ret (x_eq (x_call (ok_times W) hr (by decide) (shareF q c, fpow (useF q c) (n - c)) (a_cons (x_call (ok_share W) hr (by decide) (q, c) (a_cons (x_var (i := 0)) (a_cons (x_var (i := 1)) a_nil)) rfl ⟨l.fb, c20⟩) (a_cons (x_call (ok_power W) hr (by decide) (useF q c, n - c) (a_cons (x_var (i := 3)) (a_cons (x_eq (x_sub (x_var (i := 2)) (x_var (i := 1))) (congrArg rZ (show (n : Int) - (c : Int) = ((n - c : Nat) : Int) by omega))) a_nil)) rfl ⟨1705, by decide, l.fbu.2, by show 1705 * (n - c) + 1 ≤ 60000000; omega, by decide, by show n - c ≤ 1000; omega⟩) a_nil)) rfl ⟨(fb_share l.fb c20).okf, (fb_pow (m := 60) l.fbu (by decide) (by omega)).okf⟩) ?_)))
    show rF K _ = rF K (weightF q c n)
    unfold weightF
    rw [if_neg h2]
theorem ok_all_weights (W : Wd P w K mg base) : FnG P w K mg base "all_weights" 44 (fun x : FQ => [rF K x.1, rZ (x.2 : Int)]) (fun x => Ld x.1 x.2) (fun x => rF K (allF x.1 x.2)) := by
  refine mk_all_weights W.t 43 (fun _ => rfl) fun cdv A outer s H E x0 hc hr => ?_
  obtain ⟨q, c⟩ := x0
  have l : Ld q c := hc
  have c1 := l.c1
  have c20 := l.c20
  have fc : Fb 5 (whole (c : Int)) := fb_nat (by omega)
  have fr := fb_sub fb_one l.fbu
  refine ss_cons (s_set (i := 2) sc_all_weights.nd (x_call (ok_over W) hr (by decide) (q, whole (c : Int)) (a_cons (x_var (i := 0)) (a_cons (x_call (ok_whole W) hr (by decide) (c : Int) (a_cons (x_var (i := 1)) a_nil) rfl trivial) a_nil)) rfl ⟨⟨l.fb.okf, fc.okf⟩, whole_pos (by omega)⟩))
    (ss_cons (s_set (i := 3) sc_all_weights.nd (x_call (ok_times W) hr (by decide) (shareF q c, divide (useF q c) (sub one (useF q c))) (a_cons (x_call (ok_share W) hr (by decide) (q, c) (a_cons (x_var (i := 0)) (a_cons (x_var (i := 1)) a_nil)) rfl ⟨l.fb, c20⟩) (a_cons (x_call (ok_over W) hr (by decide) (useF q c, sub one (useF q c)) (a_cons (x_var (i := 2)) (a_cons (x_call (ok_minus W) hr (by decide) (one, useF q c) (a_cons (x_ONE W.t) (a_cons (x_var (i := 2)) a_nil)) rfl ⟨okf_one, l.fbu.okf⟩) a_nil)) rfl ⟨⟨l.fbu.okf, fr.okf⟩, l.rest⟩) a_nil)) rfl ⟨(fb_share l.fb c20).okf, (fb_div l.fbu fr).okf⟩))
    (ss_one (s_ret (x_call (ok_plus W) hr (by decide) (sum ((List.range (c + 1)).map (shareF q)), beyondF q c) (a_cons (x_call (ok_total W) hr (by decide) ((List.range (c + 1)).map (shareF q)) (a_cons (x_eq (x_lc (n := c + 1) (is := [4]) (own := [("many", 4)]) (fun n => rF K (shareF q n)) sc_all_weights.nd (i_range1 (W.t.frees _ (by decide +kernel)) (x_eq (x_add (x_var (i := 1)) x_int) (congrArg rZ (show (c : Int) + 1 = ((c + 1 : Nat) : Int) by omega)))) (blkOk_by (N := N_all_weights) (sc := defScope s_all_weights) (by decide +kernel)) rfl .one (fun _ _ _ _ _ => g_one sc_all_weights.nd) (fun s' H' C' cl fp n hn => ?_)) ?_) a_nil) rfl ⟨34102, fun y hy => share_all l y hy, ?_⟩) (a_cons (x_var (i := 3)) a_nil)) rfl ⟨l.fbs.okf, l.fby.okf⟩))))
  · exact x_call (ok_share W) hr (by decide) (q, n) (a_cons (x_var (i := 0)) (a_cons (x_var (i := 4)) a_nil)) rfl ⟨l.fb, by show n ≤ 20; omega⟩
  · exact congrArg rL range_rF
  · rw [List.length_map, List.length_range]
    omega
theorem ok_number_chance (W : Wd P w K mg base) : FnG P w K mg base "number_chance" 45 (fun x : Network × Row × Nat × Nat => [rN x.1, rLF K x.2.1, rZ (x.2.2.1 : Int), rZ (x.2.2.2 : Int)]) (fun x => Sta x.1 x.2.1 ∧ x.2.2.1 < stationCount x.1 ∧ (getStation x.1 x.2.2.1).kind ≠ 2 ∧ x.2.2.2 ≤ 60) (fun x => rF K (chanceM x.1 x.2.1 x.2.2.1 x.2.2.2)) := by
  refine mk_number_chance W.t 44 (fun _ => rfl) fun cdv A outer s H E x0 hc hr => ?_
  obtain ⟨net, r, i, n⟩ := x0
  obtain ⟨st, hi, hk, hn⟩ : Sta net r ∧ i < stationCount net ∧ (getStation net i).kind ≠ 2 ∧ n ≤ 60 := hc
  have l := st.ld hi hk
  have f1 : Okf (weightF (stationLoadIn net r i) (Lrx4.servers net i) n) := (l.fbw hn).okf
  have f2 : Okf (allF (stationLoadIn net r i) (Lrx4.servers net i)) := l.fba.okf
  have f3 := l.all_pos
  refine ss_cons (s_set (i := 4) sc_number_chance.nd (x_call (ok_station_load W) hr (by decide) (net, r, i) (a_cons (x_var (i := 0)) (a_cons (x_var (i := 1)) (a_cons (x_var (i := 2)) a_nil))) rfl ⟨st.ok, st.rt, hi⟩))
    (ss_cons (s_set (i := 5) sc_number_chance.nd (x_server W.t st.ok hi (x_var (i := 0)) (x_var (i := 2)))) ?_)
  show XSs _ _ [some (rN net), some (rLF K r), some (rZ (i : Int)), some (rZ (n : Int)), some (rF K (stationLoadIn net r i)), some (rZ ((Lrx4.servers net i : Nat) : Int))] (.ret (rF K (chanceF (stationLoadIn net r i) (Lrx4.servers net i) n)))
  generalize stationLoadIn net r i = q at *
  generalize Lrx4.servers net i = c at *
  exact (ss_one (s_ret (x_call (ok_over W) hr (by decide) (weightF q c n, allF q c) (a_cons (x_call (ok_weight W) hr (by decide) (q, c, n) (a_cons (x_var (i := 4)) (a_cons (x_var (i := 5)) (a_cons (x_var (i := 3)) a_nil))) rfl ⟨l, hn⟩) (a_cons (x_call (ok_all_weights W) hr (by decide) (q, c) (a_cons (x_var (i := 4)) (a_cons (x_var (i := 5)) a_nil)) rfl l) a_nil)) rfl ⟨⟨(l.fbw hn).okf, l.fba.okf⟩, l.all_pos⟩)))
theorem ok_state_chance (W : Wd P w K mg base) : FnG P w K mg base "state_chance" 46 (fun x : Network × Row × List Nat => [rN x.1, rLF K x.2.1, rLN x.2.2]) (fun x => Sta x.1 x.2.1 ∧ x.2.2.length = stationCount x.1 ∧ (∀ i, i < stationCount x.1 → (getStation x.1 i).kind ≠ 2) ∧ ∀ n ∈ x.2.2, n ≤ 60) (fun x => rF K (fprod (stateL x.1 x.2.1 x.2.2))) := by
  refine mk_state_chance W.t 45 (fun _ => rfl) fun cdv A outer s H E x0 hc hr => ?_
  obtain ⟨net, r, ns⟩ := x0
  obtain ⟨st, hl, hk, hn⟩ : Sta net r ∧ ns.length = stationCount net ∧ (∀ i, i < stationCount net → (getStation net i).kind ≠ 2) ∧ ∀ n ∈ ns, n ≤ 60 := hc
  have s5 := st.ok.st.2
  have ln : (ns.map fun (n : Nat) => rV (V.int (n : Int))).length = ns.length := List.length_map _
  refine ss_one (s_ret (x_call (ok_product W) hr (by decide) (stateL net r ns) (a_cons (x_eq (x_lc (n := (ns.map fun (n : Nat) => rV (V.int (n : Int))).length) (is := [3, 4]) (own := [("station", 3), ("many", 4)]) (fun i => rF K (chanceM net r i (ns.getD i 0))) sc_state_chance.nd (i_enum (W.t.frees _ (by decide +kernel)) (x_var (i := 2))) (blkOk_by (N := N_state_chance) (sc := defScope s_state_chance) (by decide +kernel)) rfl .two (fun _ _ _ _ _ => g_two sc_state_chance.nd) (fun s' H' C' cl fp i hi => ?_) (by rw [ln, hl]; omega)) ?_) a_nil) rfl ⟨890568, fun q hq => ?_, ?_⟩))
  · rw [ln] at hi
    rw [getD_natR hi]
    exact x_call (ok_number_chance W) hr (by decide) (net, r, i, ns.getD i 0) (a_cons (x_var (i := 0)) (a_cons (x_var (i := 1)) (a_cons (x_var (i := 3)) (a_cons (x_var (i := 4)) a_nil)))) rfl ⟨st, by show i < stationCount net; omega, hk i (by omega), hn _ (getD_mem hi)⟩
  · rw [ln]
    exact congrArg rL range_rF
  · obtain ⟨i, hi, rfl⟩ := List.mem_map.mp hq
    have hi := List.mem_range.mp hi
    exact (st.ld (by omega) (hk i (by omega))).fbp (hn _ (getD_mem hi))
  · unfold stateL
    rw [List.length_map, List.length_range]
    omega
end
end OQ
/-! a list of one's own that grows: what is spoken of does not hold it -/
namespace OQ
open PySem PySem.Spec PyProof.Rows L2
open Lrx1 (Fraction zero)
structure Ow (p : Addr) (G0 H0 G H : Hp) (rs : List Rp) : Prop where
  free : H0 p = none
  base : Ex G0 H0
  sub : Ex G H
  np : G p = none
  old : Ex G0 G
  kept : Ex H0 H
  new : ∀ b o, G b = some o → G0 b = some o ∨ H0 b = none
  at_ : ∃ vs, H p = some (.lst vs) ∧ All rs vs G
theorem Ow.gr {p : Addr} {G0 H0 G H G' H' : Hp} {rs : List Rp} (o : Ow p G0 H0 G H rs) (g : Gr G H G' H') : Ow p G0 H0 G' H' rs := by
  obtain ⟨vs, h1, h2⟩ := o.at_
  refine ⟨o.free, o.base, g.sub, ?_, o.old.trans g.old, o.kept.trans g.kept, fun b u hb => ?_, vs, g.kept _ _ h1, h2.up g.old⟩
  · cases q : G' p with
    | none => rfl
    | some u =>
      rcases g.new p u q with z | z
      · rw [o.np] at z; cases z
      · rw [h1] at z; cases z
  · rcases g.new b u hb with z | z
    · exact o.new b u z
    · exact .inr (o.kept.free z)
theorem Ow.up {p : Addr} {G0 H0 G H H' : Hp} {rs : List Rp} (o : Ow p G0 H0 G H rs) (e : Ex H H') : Ow p G0 H0 G H' rs := by
  obtain ⟨vs, h1, h2⟩ := o.at_
  exact ⟨o.free, o.base, o.sub.trans e, o.np, o.old, o.kept.trans e, o.new, vs, e _ _ h1, h2⟩
theorem Ow.put {p : Addr} {G0 H0 G H : Hp} {rs qs : List Rp} {vs : List V} (o : Ow p G0 H0 G H rs) (h : All qs vs G) : Ow p G0 H0 G (upd H p (.lst vs)) qs := by
  refine ⟨o.free, o.base, fun a u e => ?_, o.np, o.old, fun a u e => ?_, o.new, vs, upd_same, h⟩
  · rw [upd_ne (ne_of_none e o.np)]
    exact o.sub a u e
  · rw [upd_ne (ne_of_none e o.free)]
    exact o.kept a u e
/-- the end: the list is given away -/
theorem Ow.give {p : Addr} {G0 H0 G H : Hp} {rs : List Rp} (o : Ow p G0 H0 G H rs) : ∃ G', Gr G0 H0 G' H ∧ (rL rs).r (.ref p) G' := by
  obtain ⟨vs, h1, h2⟩ := o.at_
  have e : Ex G (upd G p (.lst vs)) := Ex.new o.np
  refine ⟨upd G p (.lst vs), ⟨fun a u h => ?_, o.old.trans e, o.kept, fun b u h => ?_⟩, p, vs, rfl, upd_same, h2.up e⟩
  · by_cases q : a = p
    · subst q
      rw [upd_same] at h
      rw [h1]
      exact h
    · rw [upd_ne q] at h
      exact o.sub a u h
  · by_cases q : b = p
    · subst q
      exact .inr o.free
    · rw [upd_ne q] at h
      exact o.new b u h
def tOw (p : Addr) (G0 H0 : Hp) (Γ : Ctx) (rs : List Rp) (Γ' : Ctx) (rs' : List Rp) : TS := fun D σ H => ∃ G, Ow p G0 H0 G H rs ∧ En Γ σ G ∧ ∀ σ' G' H', Ow p G0 H0 G' H' rs' → Ex G G' → En Γ' σ' G' → D.nx σ' H'
abbrev OS (X : Cx) (p : Addr) (G0 H0 : Hp) (st : Stmt) (Γ : Ctx) (rs : List Rp) (Γ' : Ctx) (rs' : List Rp) : Prop := PS X st (tOw p G0 H0 Γ rs Γ' rs')
abbrev OSs (X : Cx) (p : Addr) (G0 H0 : Hp) (st : List Stmt) (Γ : Ctx) (rs : List Rp) (Γ' : Ctx) (rs' : List Rp) : Prop := PSs X st (tOw p G0 H0 Γ rs Γ' rs')
section
variable {X : Cx} {p : Addr} {G0 H0 : Hp} {Γ Γ' Γ'' : Ctx} {rs rs' rs'' qs : List Rp} {st : Stmt} {rest body : List Stmt} {e c : Expr} {R : Rp} {i : Nat} {x : Str} {pos apos cpos np : Pos}
theorem o_lift (h : XS X st Γ (.nxt Γ')) : OS X p G0 H0 st Γ rs Γ' rs := PS.of h fun D σ H ⟨G, o, en, q⟩ => ⟨G, o.sub, en, fun σ' G' H' g e' => q σ' G' H' (o.gr g) g.old e'⟩
theorem o_nil : OSs X p G0 H0 [] Γ rs Γ rs := PSs.of pss_nil fun D σ H ⟨G, o, en, q⟩ => q σ G H o (Ex.refl _) en
theorem o_cons (h1 : OS X p G0 H0 st Γ rs Γ' rs') (h2 : OSs X p G0 H0 rest Γ' rs' Γ'' rs'') : OSs X p G0 H0 (st :: rest) Γ rs Γ'' rs'' :=
  PSs.of (pss_cons h1 h2) fun D σ H ⟨G, o, en, q⟩ => ⟨G, o, en, fun σ' G' H' o' ex e' => ⟨G', o', e', fun σ2 G2 H2 o2 ex2 e2 => q σ2 G2 H2 o2 (ex.trans ex2) e2⟩⟩
theorem o_le (h : Le Γ' Γ'') (h1 : OSs X p G0 H0 rest Γ rs Γ' rs') : OSs X p G0 H0 rest Γ rs Γ'' rs' := PSs.of h1 fun D σ H ⟨G, o, en, q⟩ => ⟨G, o, en, fun σ' G' H' o' ex e' => q σ' G' H' o' ex (h _ _ e')⟩
theorem o_eq (h1 : OSs X p G0 H0 rest Γ rs Γ' rs') (w : rs' = rs'') : OSs X p G0 H0 rest Γ rs Γ' rs'' := w ▸ h1
/-- found.append(e) -/
theorem o_append (hi : Γ[i]? = some (some (rV (.ref p)))) (he : XE X e Γ R) (hl : rs.length < 10000000) (hN : X.N[i]? = some x := by rfl) (hv : Vis X.env.scope x := by first | exact Or.inl rfl | exact Or.inr (Or.inl rfl) | exact Or.inr (Or.inr rfl))
    (hd : (x == ("__debug__" : Str)) = false := by decide) (hcd : (x == ("__classdict__" : Str)) = false := by decide)
    (hbase : attributeBase (.Name x np) "append" X.env (eval (.Name x np) X.env) = eval (.Name x np) X.env := by rfl)
    (hfew : ((backTo cpos (starEach [e] X.env)).all (fun x => !x.1) && (backToKw cpos (keywordEach [] X.env)).all (fun x => x.1.isSome)
      && decide ([e].length + ([] : List Keyword).length + (if ([] : List Keyword).isEmpty then 0 else 1) < 30)) = true := by rfl)
    (hline : (apos.endLine == cpos.line) = true := by rfl) (hs : starEach [e] X.env = (false, eval e X.env) :: starEach [] X.env := by rfl) (hplain : (backTo cpos (starEach [] X.env)).any (·.1) = false := by rfl)
    (hsw : swapsWith (.Call (.Attribute (.Name x np) "append" apos) [e] [] cpos) none pos.line X.env = pure false := by rfl) :
    OS X p G0 H0 (.Expr (.Call (.Attribute (.Name x np) "append" apos) [e] [] cpos) pos) Γ rs Γ (rs ++ [R]) := by
  refine PS.of (ps_expr (pe_bm PySem.F.plainAttrs_list PySem.F.slot_list_append PySem.F.type_list_append mt_append (x_var (Γ := Γ) (R := rV (.ref p)) hi hN hv hd hcd) (a_cons he a_nil hs) hbase hfew hline hs hplain) hsw) fun D σ H ⟨G, o, en, q⟩ => ?_
  refine ⟨G, o.sub, en, fun v G1 H1 g1 r1 => ?_⟩
  have r1 : v = .ref p := r1
  subst r1
  have o1 := o.gr g1
  obtain ⟨vs1, hvs1, _⟩ := o1.at_
  refine ⟨?_, G1, o1.sub, en.up g1.old, fun ws G2 H2 g2 r2 => ?_⟩
  · exact .inl ⟨rfl, _, SqL.of hvs1⟩
  · have o2 := o1.gr g2
    obtain ⟨vs, h1, h2⟩ := o2.at_
    match ws, r2 with
    | [w], ⟨k1, _⟩ =>
      refine ⟨p, vs, w, rfl, rfl, h1, ?_, ?_⟩
      · rw [h2.len]
        exact Nat.lt_of_lt_of_le hl (by decide)
      · exact q σ G2 _ (o2.put (h2.snoc k1)) (g1.old.trans g2.old) ((en.up g1.old).up g2.old)
/-- found.extend(e) -/
theorem o_extend (hi : Γ[i]? = some (some (rV (.ref p)))) (he : XE X e Γ (rL qs)) (hl : rs.length + qs.length ≤ 10000000) (hN : X.N[i]? = some x := by rfl) (hv : Vis X.env.scope x := by first | exact Or.inl rfl | exact Or.inr (Or.inl rfl) | exact Or.inr (Or.inr rfl))
    (hd : (x == ("__debug__" : Str)) = false := by decide) (hcd : (x == ("__classdict__" : Str)) = false := by decide)
    (hbase : attributeBase (.Name x np) "extend" X.env (eval (.Name x np) X.env) = eval (.Name x np) X.env := by rfl)
    (hfew : ((backTo cpos (starEach [e] X.env)).all (fun x => !x.1) && (backToKw cpos (keywordEach [] X.env)).all (fun x => x.1.isSome)
      && decide ([e].length + ([] : List Keyword).length + (if ([] : List Keyword).isEmpty then 0 else 1) < 30)) = true := by rfl)
    (hline : (apos.endLine == cpos.line) = true := by rfl) (hs : starEach [e] X.env = (false, eval e X.env) :: starEach [] X.env := by rfl) (hplain : (backTo cpos (starEach [] X.env)).any (·.1) = false := by rfl)
    (hsw : swapsWith (.Call (.Attribute (.Name x np) "extend" apos) [e] [] cpos) none pos.line X.env = pure false := by rfl) :
    OS X p G0 H0 (.Expr (.Call (.Attribute (.Name x np) "extend" apos) [e] [] cpos) pos) Γ rs Γ (rs ++ qs) := by
  refine PS.of (ps_expr (pe_bm PySem.F.plainAttrs_list PySem.F.slot_list_extend PySem.F.type_list_extend mt_extend (x_var (Γ := Γ) (R := rV (.ref p)) hi hN hv hd hcd) (a_cons he a_nil hs) hbase hfew hline hs hplain) hsw) fun D σ H ⟨G, o, en, q⟩ => ?_
  refine ⟨G, o.sub, en, fun v G1 H1 g1 r1 => ?_⟩
  have r1 : v = .ref p := r1
  subst r1
  have o1 := o.gr g1
  obtain ⟨vs1, hvs1, _⟩ := o1.at_
  refine ⟨?_, G1, o1.sub, en.up g1.old, fun ws G2 H2 g2 r2 => ?_⟩
  · exact .inl ⟨rfl, _, SqL.of hvs1⟩
  · have o2 := o1.gr g2
    obtain ⟨vs, h1, h2⟩ := o2.at_
    match ws, r2 with
    | [w], ⟨⟨b, us, k1, k2, k3⟩, _⟩ =>
      refine ⟨p, b, vs, us, rfl, by rw [k1], h1, o2.sub _ _ k2, ?_, ?_⟩
      · rw [h2.len, k3.len]
        exact Nat.le_trans hl (by decide)
      · exact q σ G2 _ (o2.put (h2.app k3)) (g1.old.trans g2.old) ((en.up g1.old).up g2.old)
/-- what a target's store does with an item -/
def StO (g : TG) (B : Itm) (Γ Γ' : Ctx) : Prop := ∀ (x : V) (σ : St) (G H H' : Hp) (Q : St → Hp → Prop), B.r G H x H' → Ex G H → En Γ σ G → (∀ σ', En Γ' σ' G → Ex H H' → Q σ' H') → g x σ H' Q
theorem sto_one {K : PySem.W.Frag} {is : List Nat} {g : TG} (h : TgSh K is g) {I : Itm} {Γ : Ctx} (hf : I.fits is = true) : StO g I Γ (I.put is Γ) := fun x σ G H H' Q hr ex en q => h.store (into_put hf) hr ex en fun σ' e _ ex2 => q σ' e ex2
/-- a pair that stands in the list -/
def rPair (K : PySem.W.Frag) (R1 R2 : Rp) : Rp := ⟨fun v H => ∃ a y z, v = .ref a ∧ SqT K H a [y, z] ∧ R1.r y H ∧ R2.r z H, fun e ⟨a, y, z, h1, h2, h3, h4⟩ => ⟨a, y, z, h1, e.t h2, R1.up e h3, R2.up e h4⟩⟩
theorem rF_pair {K : PySem.W.Frag} {q : Fraction} : ∀ v G, (rF K q).r v G → (rPair K (rZ q.num) (rZ (q.den : Int))).r v G := fun v G ⟨a, h1, h2⟩ => ⟨a, _, _, h1, h2, rfl, rfl⟩
theorem sto_pair {K : PySem.W.Frag} {i j : Nat} {B R1 R2 : Rp} {Γ : Ctx} (w : ∀ v G, B.r v G → (rPair K R1 R2).r v G) : StO (gTup K 2 (gCons (gName i) (gCons (gName j) gNil))) (.one B) Γ ((Γ.set i (some R1)).set j (some R2)) := fun x σ G H H' Q hr ex en q => by
  obtain ⟨h1, h2⟩ := hr
  subst h1
  obtain ⟨a, y, z, e1, e2, e3, e4⟩ := w _ _ h2
  exact ⟨a, [y, z], e1, ex.t e2, rfl, y, [z], rfl, z, [], rfl, rfl, q _ ((en.set e3).set e4) (Ex.refl _)⟩
theorem o_for {tg iter : Expr} {n : Nat} {B : Nat → Itm} {g : TG} (Γf Γb : Nat → Ctx) (rf : Nat → List Rp) (hi : XI X tg iter Γ n B) (hg : PG X tg g) (h0 : Le Γ (Γf 0)) (hst : ∀ i, i < n → StO g (B i) (Γf i) (Γb i)) (hb : ∀ i, i < n → OSs X p G0 H0 body (Γb i) (rf i) (Γf (i + 1)) (rf (i + 1)))
    (hp : PassesOwn (model X.prog X.w) X.A X.env X.xe := by exact PassesOwn.never) (hc : X.calm = true := by rfl) (hs : ∀ x, foldedSetIterable iter X.env x = pure x := by intro _; rfl) : OS X p G0 H0 (.For tg iter body [] pos) Γ (rf 0) (Γf n) (rf n) := by
  let tb : TS := fun D σ H => ∃ i, i < n ∧ tOw p G0 H0 (Γb i) (rf i) (Γf (i + 1)) (rf (i + 1)) D σ H
  refine PS.of (ps_for hp hc hi hg (tb := tb) ⟨fun pins s σ H D I h => ?_⟩ hs) fun D σ H h => ?_
  · obtain ⟨i, hlt, h⟩ := h
    exact (hb i hlt).run pins s σ H D I h
  · obtain ⟨G, o, en, q⟩ := h
    refine ⟨G, o.sub, en, fun J G1 H1 g1 wk => ?_⟩
    refine for_it wk (fun i σ Hc => ∃ Gc, Ow p G0 H0 Gc Hc (rf i) ∧ Ex G1 Gc ∧ En (Γf i) σ Gc) ⟨G1, o.gr g1, Ex.refl _, h0 _ _ (en.up g1.old)⟩ (fun i σ Hc _ ⟨Gc, h1, h2, _⟩ => h2.trans h1.sub) ?_ ?_
    · rintro i x σ2 Hc Hc' hlt ⟨Gc, h1, h2, h3⟩ yi
      have yi' : (B i).r Gc Hc x Hc' := by
        generalize hB : B i = I at *
        cases I with
        | one B1 => exact ⟨yi.1, B1.up h2 yi.2⟩
        | two B1 B2 =>
          obtain ⟨T, y, z, k1, k2, k3, k4, k5⟩ := yi
          exact ⟨T, y, z, k1, k2, k3, B1.up h2 k4, B2.up h2 k5⟩
      refine hst i hlt x σ2 Gc Hc Hc' _ yi' h1.sub h3 fun σ' e1 ex2 => ?_
      exact ⟨i, hlt, Gc, h1.up ex2, e1, fun σ3 G3 H3 o3 ex3 e3 => ⟨G3, o3, h2.trans ex3, e3⟩⟩
    · rintro σ2 Hc ⟨Gc, h1, h2, h3⟩
      exact q σ2 Gc Hc h1 (g1.old.trans h2) h3
theorem o_while {β : Type} (Γf : β → Ctx) (rf : β → List Rp) (Pr : β → Prop) (k : β → Bool) (m : β → Nat) (s0 se : β) (h0 : Pr s0) (hΓ : Le Γ (Γf s0)) (ht : ∀ s, Pr s → XT X c (Γf s) (k s)) (hb : ∀ s, Pr s → k s = true → ∃ s', Pr s' ∧ m s' < m s ∧ OSs X p G0 H0 body (Γf s) (rf s) (Γf s') (rf s')) (he : ∀ s, Pr s → k s = false → Le (Γf s) Γ' ∧ rf s = rs')
    (hp : PassesOwn (model X.prog X.w) X.A X.env X.xe := by exact PassesOwn.never) : OS X p G0 H0 (.While c body [] pos) Γ (rf s0) Γ' rs' := by
  let tc : TT := fun σ H Q => ∃ s, Pr s ∧ tXT (Γf s) (k s) σ H Q
  let tb : TS := fun D σ H => ∃ s s', OSs X p G0 H0 body (Γf s) (rf s) (Γf s') (rf s') ∧ tOw p G0 H0 (Γf s) (rf s) (Γf s') (rf s') D σ H
  refine PS.of (ps_while hp (tc := tc) (tb := tb) ⟨fun pins s σ H Q I h => ?_⟩ ⟨fun pins s σ H D I h => ?_⟩) fun D σ H h => ?_
  · obtain ⟨z, h1, h2⟩ := h
    exact (ht z h1).run pins s σ H Q I h2
  · obtain ⟨z, z', h3, h4⟩ := h
    exact h3.run pins s σ H D I h4
  · obtain ⟨G, o, en, q⟩ := h
    refine ⟨fun mm σ Hc => ∃ z Gc, Pr z ∧ m z = mm ∧ Ow p G0 H0 Gc Hc (rf z) ∧ Ex G Gc ∧ En (Γf z) σ Gc, ⟨m s0, s0, G, h0, rfl, o, Ex.refl _, hΓ _ _ en⟩, ?_⟩
    rintro mm σ1 Hc ⟨z, Gc, h1, rfl, h3, h3', h4⟩
    refine ⟨z, h1, Gc, h3.sub, h4, fun G1 H1 g1 => ?_⟩
    cases hk : k z with
    | true =>
      rw [if_pos rfl]
      obtain ⟨z', p1, p2, p3⟩ := hb z h1 hk
      refine ⟨fun σ' H' => ∃ Gc', Ow p G0 H0 Gc' H' (rf z') ∧ Ex G Gc' ∧ En (Γf z') σ' Gc', fun σ' H' ⟨Gc', q1, q3, q2⟩ => ⟨m z', p2, z', Gc', p1, rfl, q1, q3, q2⟩, z, z', p3, G1, h3.gr g1, h4.up g1.old, fun σ' G2 H2 g2 ex2 e2 => ⟨G2, g2, (h3'.trans g1.old).trans ex2, e2⟩⟩
    | false =>
      rw [if_neg Bool.false_ne_true]
      obtain ⟨w1, w2⟩ := he z h1 hk
      exact q σ1 G1 H1 (w2 ▸ h3.gr g1) (h3'.trans g1.old) (w1 _ _ (h4.up g1.old))
def tOr (p : Addr) (G0 H0 : Hp) (Γ : Ctx) (rs rs' : List Rp) : TS := fun D σ H => ∃ G, Ow p G0 H0 G H rs ∧ En Γ σ G ∧ ∀ v G' H', Gr G0 H0 G' H' → (rL rs').r v G' → D.rt v H'
abbrev ORs (X : Cx) (p : Addr) (G0 H0 : Hp) (st : List Stmt) (Γ : Ctx) (rs rs' : List Rp) : Prop := PSs X st (tOr p G0 H0 Γ rs rs')
theorem or_cons (h1 : OS X p G0 H0 st Γ rs Γ' rs') (h2 : ORs X p G0 H0 rest Γ' rs' rs'') : ORs X p G0 H0 (st :: rest) Γ rs rs'' :=
  PSs.of (pss_cons h1 h2) fun D σ H ⟨G, o, en, q⟩ => ⟨G, o, en, fun σ' G' H' o' ex e' => ⟨G', o', e', q⟩⟩
/-- return found -/
theorem or_ret (hi : Γ[i]? = some (some (rV (.ref p)))) (hN : X.N[i]? = some x := by rfl) (hv : Vis X.env.scope x := by first | exact Or.inl rfl | exact Or.inr (Or.inl rfl) | exact Or.inr (Or.inr rfl))
    (hd : (x == ("__debug__" : Str)) = false := by decide) (hcd : (x == ("__classdict__" : Str)) = false := by decide) : ORs X p G0 H0 [.Return (some (.Name x np)) pos] Γ rs rs :=
  PSs.of (pss_one (ps_ret (x_var (Γ := Γ) (R := rV (.ref p)) hi hN hv hd hcd))) fun D σ H ⟨G, o, en, q⟩ => ⟨G, o.sub, en, fun v G2 H2 g2 r2 => by
    have r2 : v = .ref p := r2
    subst r2
    obtain ⟨G3, g3, r3⟩ := (o.gr g2).give
    exact q _ G3 H2 g3 r3⟩
theorem or_eq (h1 : ORs X p G0 H0 rest Γ rs rs') (w : rs' = rs'') : ORs X p G0 H0 rest Γ rs rs'' := w ▸ h1
/-- found = [..]; .. -/
theorem o_all {es : List Expr} {lpos : Pos} (ha : XA X es Γ rs) (hl : rs.length ≤ 1000) (hN : X.N.Nodup) (h : ∀ p G0 H0, ORs X p G0 H0 rest (Γ.set i (some (rV (.ref p)))) rs rs') (hi : X.N[i]? = some x := by rfl)
    (hx : Loc X.env.scope x := by first | exact Or.inl rfl | exact Or.inr rfl) (hs : swapsWith (.List es lpos) (some (.Name x np)) pos.line X.env = pure false := by rfl)
    (hf : X.fn x = true ∨ X.env.scope.names.lookup x = some .local := by first | exact .inl rfl | exact .inr rfl) :
    XSs X (.Assign [.Name x np] (.List es lpos) pos :: rest) Γ (.ret (rL rs')) := by
  let t2 : TS := fun D σ H => ∃ (p : Addr) (G0 H0 : Hp), tOr p G0 H0 (Γ.set i (some (rV (.ref p)))) rs rs' D σ H
  have hr : PSs X rest t2 := ⟨fun pins s σ H D I ⟨p, G0, H0, h2⟩ => (h p G0 H0).run pins s σ H D I h2⟩
  refine PSs.of (pss_cons (ps_set hN hi hx (pe_lst ha) hs hf) hr) fun D σ H ⟨G, ex, en, q⟩ => ⟨G, ex, en, fun vs G1 H1 g1 r1 => ⟨by rw [r1.len]; exact Nat.le_trans hl (by decide), fun p hp => ?_⟩⟩
  have gp : G1 p = none := g1.sub.free hp
  refine ⟨p, G1, H1, G1, ⟨hp, g1.sub, g1.sub.trans (Ex.new hp), gp, Ex.refl _, Ex.new hp, fun b u hb => .inl hb, vs, upd_same, r1⟩, ?_, fun v G' H' g' r' => q v G' H' (g1.trans g') r'⟩
  exact (en.up g1.old).set rfl
end
end OQ
/-! a list's items to names -/
namespace OQ
open PySem PySem.Spec PyProof.Rows L2
section
variable {X : Cx} {Γ : Ctx} {e : Expr} {pos : Pos}
theorem s_un2 {j0 j1 : Nat} {x0 x1 : Str} {p0 p1 pt : Pos} {kt} {R0 R1 : Rp} (hN : X.N.Nodup) (he : XE X e Γ (rL [R0, R1]))
    (hi0 : X.N[j0]? = some x0 := by rfl) (hx0 : Loc X.env.scope x0 := by first | exact Or.inl rfl | exact Or.inr rfl) (hf0 : X.fn x0 = true ∨ X.env.scope.names.lookup x0 = some .local := by first | exact .inl rfl | exact .inr rfl)
    (hi1 : X.N[j1]? = some x1 := by rfl) (hx1 : Loc X.env.scope x1 := by first | exact Or.inl rfl | exact Or.inr rfl) (hf1 : X.fn x1 = true ∨ X.env.scope.names.lookup x1 = some .local := by first | exact .inl rfl | exact .inr rfl)
    (m0 : (assignEach [.Name x0 p0, .Name x1 p1] X.env).map (·.2) = assign (.Name x0 p0) X.env :: (assignEach [.Name x1 p1] X.env).map (·.2) := by rfl)
    (m1 : (assignEach [.Name x1 p1] X.env).map (·.2) = assign (.Name x1 p1) X.env :: (assignEach [] X.env).map (·.2) := by rfl)
    (hc : X.calm = true := by rfl) (hn : (assignEach [.Name x0 p0, .Name x1 p1] X.env).length = 2 := by rfl) (hst : (assignEach [.Name x0 p0, .Name x1 p1] X.env).findIdx? (·.1) = none := by rfl)
    (hs : swapsWithSole [(.Tuple [.Name x0 p0, .Name x1 p1] kt pt)] e pos.line X.env = pure false := by rfl) (hw : swappedStores [(.Tuple [.Name x0 p0, .Name x1 p1] kt pt)] e X.env = pure none := by rfl) (h1 : (assignEach [(.Tuple [.Name x0 p0, .Name x1 p1] kt pt)] X.env).map (·.2) = [assign (.Tuple [.Name x0 p0, .Name x1 p1] kt pt) X.env] := by rfl) :
    XS X (.Assign [(.Tuple [.Name x0 p0, .Name x1 p1] kt pt)] e pos) Γ (.nxt ((Γ.set j0 (some R0)).set j1 (some R1))) :=
  PS.of (ps_asg he (pg_lst hc (pgs_cons (pg_name hN hi0 hx0 hf0) (pgs_cons (pg_name hN hi1 hx1 hf1) pgs_nil m1) m0) hn hst) hs hw h1) fun D σ H ⟨G, ex, en, q⟩ => ⟨G, ex, en, fun v G1 H1 g1 ⟨a, vs, h1, h2, h3⟩ => by
    match vs, h3 with
    | [u0, u1], ⟨k0, k1, _⟩ =>
      exact ⟨a, [u0, u1], h1, SqL.of (g1.sub _ _ h2), rfl, ⟨u0, [u1], rfl, ⟨u1, [], rfl, rfl, q _ G1 H1 g1 (((en.up g1.old).set k0).set k1)⟩⟩⟩⟩
theorem s_un3 {j0 j1 j2 : Nat} {x0 x1 x2 : Str} {p0 p1 p2 pt : Pos} {kt} {R0 R1 R2 : Rp} (hN : X.N.Nodup) (he : XE X e Γ (rL [R0, R1, R2]))
    (hi0 : X.N[j0]? = some x0 := by rfl) (hx0 : Loc X.env.scope x0 := by first | exact Or.inl rfl | exact Or.inr rfl) (hf0 : X.fn x0 = true ∨ X.env.scope.names.lookup x0 = some .local := by first | exact .inl rfl | exact .inr rfl)
    (hi1 : X.N[j1]? = some x1 := by rfl) (hx1 : Loc X.env.scope x1 := by first | exact Or.inl rfl | exact Or.inr rfl) (hf1 : X.fn x1 = true ∨ X.env.scope.names.lookup x1 = some .local := by first | exact .inl rfl | exact .inr rfl)
    (hi2 : X.N[j2]? = some x2 := by rfl) (hx2 : Loc X.env.scope x2 := by first | exact Or.inl rfl | exact Or.inr rfl) (hf2 : X.fn x2 = true ∨ X.env.scope.names.lookup x2 = some .local := by first | exact .inl rfl | exact .inr rfl)
    (m0 : (assignEach [.Name x0 p0, .Name x1 p1, .Name x2 p2] X.env).map (·.2) = assign (.Name x0 p0) X.env :: (assignEach [.Name x1 p1, .Name x2 p2] X.env).map (·.2) := by rfl)
    (m1 : (assignEach [.Name x1 p1, .Name x2 p2] X.env).map (·.2) = assign (.Name x1 p1) X.env :: (assignEach [.Name x2 p2] X.env).map (·.2) := by rfl)
    (m2 : (assignEach [.Name x2 p2] X.env).map (·.2) = assign (.Name x2 p2) X.env :: (assignEach [] X.env).map (·.2) := by rfl)
    (hc : X.calm = true := by rfl) (hn : (assignEach [.Name x0 p0, .Name x1 p1, .Name x2 p2] X.env).length = 3 := by rfl) (hst : (assignEach [.Name x0 p0, .Name x1 p1, .Name x2 p2] X.env).findIdx? (·.1) = none := by rfl)
    (hs : swapsWithSole [(.Tuple [.Name x0 p0, .Name x1 p1, .Name x2 p2] kt pt)] e pos.line X.env = pure false := by rfl) (hw : swappedStores [(.Tuple [.Name x0 p0, .Name x1 p1, .Name x2 p2] kt pt)] e X.env = pure none := by rfl) (h1 : (assignEach [(.Tuple [.Name x0 p0, .Name x1 p1, .Name x2 p2] kt pt)] X.env).map (·.2) = [assign (.Tuple [.Name x0 p0, .Name x1 p1, .Name x2 p2] kt pt) X.env] := by rfl) :
    XS X (.Assign [(.Tuple [.Name x0 p0, .Name x1 p1, .Name x2 p2] kt pt)] e pos) Γ (.nxt (((Γ.set j0 (some R0)).set j1 (some R1)).set j2 (some R2))) :=
  PS.of (ps_asg he (pg_lst hc (pgs_cons (pg_name hN hi0 hx0 hf0) (pgs_cons (pg_name hN hi1 hx1 hf1) (pgs_cons (pg_name hN hi2 hx2 hf2) pgs_nil m2) m1) m0) hn hst) hs hw h1) fun D σ H ⟨G, ex, en, q⟩ => ⟨G, ex, en, fun v G1 H1 g1 ⟨a, vs, h1, h2, h3⟩ => by
    match vs, h3 with
    | [u0, u1, u2], ⟨k0, k1, k2, _⟩ =>
      exact ⟨a, [u0, u1, u2], h1, SqL.of (g1.sub _ _ h2), rfl, ⟨u0, [u1, u2], rfl, ⟨u1, [u2], rfl, ⟨u2, [], rfl, rfl, q _ G1 H1 g1 ((((en.up g1.old).set k0).set k1).set k2)⟩⟩⟩⟩⟩
theorem s_un4 {j0 j1 j2 j3 : Nat} {x0 x1 x2 x3 : Str} {p0 p1 p2 p3 pt : Pos} {kt} {R0 R1 R2 R3 : Rp} (hN : X.N.Nodup) (he : XE X e Γ (rL [R0, R1, R2, R3]))
    (hi0 : X.N[j0]? = some x0 := by rfl) (hx0 : Loc X.env.scope x0 := by first | exact Or.inl rfl | exact Or.inr rfl) (hf0 : X.fn x0 = true ∨ X.env.scope.names.lookup x0 = some .local := by first | exact .inl rfl | exact .inr rfl)
    (hi1 : X.N[j1]? = some x1 := by rfl) (hx1 : Loc X.env.scope x1 := by first | exact Or.inl rfl | exact Or.inr rfl) (hf1 : X.fn x1 = true ∨ X.env.scope.names.lookup x1 = some .local := by first | exact .inl rfl | exact .inr rfl)
    (hi2 : X.N[j2]? = some x2 := by rfl) (hx2 : Loc X.env.scope x2 := by first | exact Or.inl rfl | exact Or.inr rfl) (hf2 : X.fn x2 = true ∨ X.env.scope.names.lookup x2 = some .local := by first | exact .inl rfl | exact .inr rfl)
    (hi3 : X.N[j3]? = some x3 := by rfl) (hx3 : Loc X.env.scope x3 := by first | exact Or.inl rfl | exact Or.inr rfl) (hf3 : X.fn x3 = true ∨ X.env.scope.names.lookup x3 = some .local := by first | exact .inl rfl | exact .inr rfl)
    (m0 : (assignEach [.Name x0 p0, .Name x1 p1, .Name x2 p2, .Name x3 p3] X.env).map (·.2) = assign (.Name x0 p0) X.env :: (assignEach [.Name x1 p1, .Name x2 p2, .Name x3 p3] X.env).map (·.2) := by rfl)
    (m1 : (assignEach [.Name x1 p1, .Name x2 p2, .Name x3 p3] X.env).map (·.2) = assign (.Name x1 p1) X.env :: (assignEach [.Name x2 p2, .Name x3 p3] X.env).map (·.2) := by rfl)
    (m2 : (assignEach [.Name x2 p2, .Name x3 p3] X.env).map (·.2) = assign (.Name x2 p2) X.env :: (assignEach [.Name x3 p3] X.env).map (·.2) := by rfl)
    (m3 : (assignEach [.Name x3 p3] X.env).map (·.2) = assign (.Name x3 p3) X.env :: (assignEach [] X.env).map (·.2) := by rfl)
    (hc : X.calm = true := by rfl) (hn : (assignEach [.Name x0 p0, .Name x1 p1, .Name x2 p2, .Name x3 p3] X.env).length = 4 := by rfl) (hst : (assignEach [.Name x0 p0, .Name x1 p1, .Name x2 p2, .Name x3 p3] X.env).findIdx? (·.1) = none := by rfl)
    (hs : swapsWithSole [(.Tuple [.Name x0 p0, .Name x1 p1, .Name x2 p2, .Name x3 p3] kt pt)] e pos.line X.env = pure false := by rfl) (hw : swappedStores [(.Tuple [.Name x0 p0, .Name x1 p1, .Name x2 p2, .Name x3 p3] kt pt)] e X.env = pure none := by rfl) (h1 : (assignEach [(.Tuple [.Name x0 p0, .Name x1 p1, .Name x2 p2, .Name x3 p3] kt pt)] X.env).map (·.2) = [assign (.Tuple [.Name x0 p0, .Name x1 p1, .Name x2 p2, .Name x3 p3] kt pt) X.env] := by rfl) :
    XS X (.Assign [(.Tuple [.Name x0 p0, .Name x1 p1, .Name x2 p2, .Name x3 p3] kt pt)] e pos) Γ (.nxt ((((Γ.set j0 (some R0)).set j1 (some R1)).set j2 (some R2)).set j3 (some R3))) :=
  PS.of (ps_asg he (pg_lst hc (pgs_cons (pg_name hN hi0 hx0 hf0) (pgs_cons (pg_name hN hi1 hx1 hf1) (pgs_cons (pg_name hN hi2 hx2 hf2) (pgs_cons (pg_name hN hi3 hx3 hf3) pgs_nil m3) m2) m1) m0) hn hst) hs hw h1) fun D σ H ⟨G, ex, en, q⟩ => ⟨G, ex, en, fun v G1 H1 g1 ⟨a, vs, h1, h2, h3⟩ => by
    match vs, h3 with
    | [u0, u1, u2, u3], ⟨k0, k1, k2, k3, _⟩ =>
      exact ⟨a, [u0, u1, u2, u3], h1, SqL.of (g1.sub _ _ h2), rfl, ⟨u0, [u1, u2, u3], rfl, ⟨u1, [u2, u3], rfl, ⟨u2, [u3], rfl, ⟨u3, [], rfl, rfl, q _ G1 H1 g1 (((((en.up g1.old).set k0).set k1).set k2).set k3)⟩⟩⟩⟩⟩⟩
theorem s_un5 {j0 j1 j2 j3 j4 : Nat} {x0 x1 x2 x3 x4 : Str} {p0 p1 p2 p3 p4 pt : Pos} {kt} {R0 R1 R2 R3 R4 : Rp} (hN : X.N.Nodup) (he : XE X e Γ (rL [R0, R1, R2, R3, R4]))
    (hi0 : X.N[j0]? = some x0 := by rfl) (hx0 : Loc X.env.scope x0 := by first | exact Or.inl rfl | exact Or.inr rfl) (hf0 : X.fn x0 = true ∨ X.env.scope.names.lookup x0 = some .local := by first | exact .inl rfl | exact .inr rfl)
    (hi1 : X.N[j1]? = some x1 := by rfl) (hx1 : Loc X.env.scope x1 := by first | exact Or.inl rfl | exact Or.inr rfl) (hf1 : X.fn x1 = true ∨ X.env.scope.names.lookup x1 = some .local := by first | exact .inl rfl | exact .inr rfl)
    (hi2 : X.N[j2]? = some x2 := by rfl) (hx2 : Loc X.env.scope x2 := by first | exact Or.inl rfl | exact Or.inr rfl) (hf2 : X.fn x2 = true ∨ X.env.scope.names.lookup x2 = some .local := by first | exact .inl rfl | exact .inr rfl)
    (hi3 : X.N[j3]? = some x3 := by rfl) (hx3 : Loc X.env.scope x3 := by first | exact Or.inl rfl | exact Or.inr rfl) (hf3 : X.fn x3 = true ∨ X.env.scope.names.lookup x3 = some .local := by first | exact .inl rfl | exact .inr rfl)
    (hi4 : X.N[j4]? = some x4 := by rfl) (hx4 : Loc X.env.scope x4 := by first | exact Or.inl rfl | exact Or.inr rfl) (hf4 : X.fn x4 = true ∨ X.env.scope.names.lookup x4 = some .local := by first | exact .inl rfl | exact .inr rfl)
    (m0 : (assignEach [.Name x0 p0, .Name x1 p1, .Name x2 p2, .Name x3 p3, .Name x4 p4] X.env).map (·.2) = assign (.Name x0 p0) X.env :: (assignEach [.Name x1 p1, .Name x2 p2, .Name x3 p3, .Name x4 p4] X.env).map (·.2) := by rfl)
    (m1 : (assignEach [.Name x1 p1, .Name x2 p2, .Name x3 p3, .Name x4 p4] X.env).map (·.2) = assign (.Name x1 p1) X.env :: (assignEach [.Name x2 p2, .Name x3 p3, .Name x4 p4] X.env).map (·.2) := by rfl)
    (m2 : (assignEach [.Name x2 p2, .Name x3 p3, .Name x4 p4] X.env).map (·.2) = assign (.Name x2 p2) X.env :: (assignEach [.Name x3 p3, .Name x4 p4] X.env).map (·.2) := by rfl)
    (m3 : (assignEach [.Name x3 p3, .Name x4 p4] X.env).map (·.2) = assign (.Name x3 p3) X.env :: (assignEach [.Name x4 p4] X.env).map (·.2) := by rfl)
    (m4 : (assignEach [.Name x4 p4] X.env).map (·.2) = assign (.Name x4 p4) X.env :: (assignEach [] X.env).map (·.2) := by rfl)
    (hc : X.calm = true := by rfl) (hn : (assignEach [.Name x0 p0, .Name x1 p1, .Name x2 p2, .Name x3 p3, .Name x4 p4] X.env).length = 5 := by rfl) (hst : (assignEach [.Name x0 p0, .Name x1 p1, .Name x2 p2, .Name x3 p3, .Name x4 p4] X.env).findIdx? (·.1) = none := by rfl)
    (hs : swapsWithSole [(.Tuple [.Name x0 p0, .Name x1 p1, .Name x2 p2, .Name x3 p3, .Name x4 p4] kt pt)] e pos.line X.env = pure false := by rfl) (hw : swappedStores [(.Tuple [.Name x0 p0, .Name x1 p1, .Name x2 p2, .Name x3 p3, .Name x4 p4] kt pt)] e X.env = pure none := by rfl) (h1 : (assignEach [(.Tuple [.Name x0 p0, .Name x1 p1, .Name x2 p2, .Name x3 p3, .Name x4 p4] kt pt)] X.env).map (·.2) = [assign (.Tuple [.Name x0 p0, .Name x1 p1, .Name x2 p2, .Name x3 p3, .Name x4 p4] kt pt) X.env] := by rfl) :
    XS X (.Assign [(.Tuple [.Name x0 p0, .Name x1 p1, .Name x2 p2, .Name x3 p3, .Name x4 p4] kt pt)] e pos) Γ (.nxt (((((Γ.set j0 (some R0)).set j1 (some R1)).set j2 (some R2)).set j3 (some R3)).set j4 (some R4))) :=
  PS.of (ps_asg he (pg_lst hc (pgs_cons (pg_name hN hi0 hx0 hf0) (pgs_cons (pg_name hN hi1 hx1 hf1) (pgs_cons (pg_name hN hi2 hx2 hf2) (pgs_cons (pg_name hN hi3 hx3 hf3) (pgs_cons (pg_name hN hi4 hx4 hf4) pgs_nil m4) m3) m2) m1) m0) hn hst) hs hw h1) fun D σ H ⟨G, ex, en, q⟩ => ⟨G, ex, en, fun v G1 H1 g1 ⟨a, vs, h1, h2, h3⟩ => by
    match vs, h3 with
    | [u0, u1, u2, u3, u4], ⟨k0, k1, k2, k3, k4, _⟩ =>
      exact ⟨a, [u0, u1, u2, u3, u4], h1, SqL.of (g1.sub _ _ h2), rfl, ⟨u0, [u1, u2, u3, u4], rfl, ⟨u1, [u2, u3, u4], rfl, ⟨u2, [u3, u4], rfl, ⟨u3, [u4], rfl, ⟨u4, [], rfl, rfl, q _ G1 H1 g1 ((((((en.up g1.old).set k0).set k1).set k2).set k3).set k4)⟩⟩⟩⟩⟩⟩⟩
end
end OQ
/-! asks.py -/
namespace OQ
open PySem PySem.Spec PyProof.Rows L2
open Lrx1 (Fraction add sub mul divide whole zero one reduce lt le sum entry isZero)
open Lrx4 (Network Station stationCount placeCount places stationOf place placesOf getStation arrival service leaveWeight routeWeight weightSum route leave leadsOut loadIn stationLoadIn stationRateIn utilizationIn)
abbrev NA : Type := Network × List Nat
def askC : Nat → List Nat → Lrx4.Call
  | 8, a => .routeProbability (a.getD 0 0) (a.getD 1 0) (a.getD 2 0) (a.getD 3 0)
  | 9, a => .leaveProbability (a.getD 0 0) (a.getD 1 0)
  | 10, _ => .isOpen
  | 11, _ => .traffic
  | 12, a => .visits (a.getD 0 0) (a.getD 1 0)
  | 13, _ => .utilizations
  | 14, _ => .isStable
  | 15, _ => .bottleneck
  | 16, _ => .numbers
  | 17, a => .placeNumber (a.getD 0 0) (a.getD 1 0)
  | 18, a => .visitTime (a.getD 0 0) (a.getD 1 0)
  | 19, a => .timeFrom (a.getD 0 0) (a.getD 1 0)
  | 20, _ => .networkTime
  | 21, _ => .departures
  | 22, a => .numberProbability (a.getD 0 0) (a.getD 1 0)
  | 23, a => .stateProbability a
  | 24, _ => .growth
  | _, _ => .summary
theorem len2 {l : List Nat} (h : l.length = 2) : ∃ a b, l = [a, b] := by
  match l, h with
  | [a, b], _ => exact ⟨a, b, rfl⟩
theorem len4 {l : List Nat} (h : l.length = 4) : ∃ a b c d, l = [a, b, c, d] := by
  match l, h with
  | [a, b, c, d], _ => exact ⟨a, b, c, d, rfl⟩
theorem place_of {net : Network} {i c : Nat} (h : Lrx4.isPlace net i c = true) : i < stationCount net ∧ c < net.classCount := by
  unfold Lrx4.isPlace at h
  rw [Bool.and_eq_true] at h
  exact ⟨of_decide_eq_true h.1, of_decide_eq_true h.2⟩
def listedZ (l : List Fraction) : List Int := resR (Lrx4.fractionsResult l)
section
variable {P : Program} {w : World} {K : PySem.W.Frag} {mg : Str → Option Value} {base : Heap}
theorem xi_n {X : Cx} {tg iter : Expr} {Γ : Ctx} {n m : Nat} {B : Nat → Itm} (h : XI X tg iter Γ n B) (e : n = m) : XI X tg iter Γ m B := e ▸ h
theorem ok_single (W : Wd P w K mg base) : FnG P w K mg base "single" 1 (fun x : Fraction => [rF K x]) (fun _ => True) (fun x => rLZ (resR (Lrx4.fractionResult x))) := by
  refine mk_single W.t 0 (fun _ => rfl) fun cdv A outer s H E q hc hr => ?_
  exact ss_one (s_ret (x_eq (x_lst (a_cons x_int (a_cons (x_num (x_var (i := 0))) (a_cons (x_den (x_var (i := 0))) a_nil)))) rfl))
theorem flat_take {l : List Fraction} {i : Nat} (h : i < l.length) : (l.take (i + 1)).flatMap Lrx4.ints = (l.take i).flatMap Lrx4.ints ++ [(l.getD i zero).num, ((l.getD i zero).den : Int)] := by
  rw [take_getD h, List.flatMap_append, List.flatMap_singleton]
  rfl
theorem flat_len : ∀ (l : List Fraction), (l.flatMap Lrx4.ints).length = 2 * l.length
  | [] => rfl
  | q :: l => by
    rw [List.flatMap_cons, List.length_append, flat_len l, List.length_cons]
    show 2 + 2 * l.length = 2 * (l.length + 1)
    omega
def lsR (l : List Fraction) (i : Nat) : List Rp := rZ (l.length : Int) :: ((l.take i).flatMap Lrx4.ints).map fun n => rV (.int n)
theorem lsR_succ {l : List Fraction} {i : Nat} (h : i < l.length) : lsR l i ++ [rZ (l.getD i zero).num] ++ [rZ ((l.getD i zero).den : Int)] = lsR l (i + 1) := by
  unfold lsR
  rw [flat_take h, List.map_append, List.cons_append, List.cons_append, List.append_assoc]
  rfl
theorem lsR_len {l : List Fraction} {i : Nat} (h : i ≤ l.length) : (lsR l i).length ≤ 2 * l.length + 1 := by
  unfold lsR
  rw [List.length_cons, List.length_map, flat_len, List.length_take]
  omega
theorem ok_listed (W : Wd P w K mg base) : FnG P w K mg base "listed" 1 (fun x : List Fraction => [rLF K x]) (fun x => x.length ≤ 1000) (fun x => rLZ (listedZ x)) := by
  refine mk_listed W.t 0 (fun _ => rfl) fun cdv A outer s H E l hc hr => ?_
  have hl : l.length ≤ 1000 := hc
  have e : rL (lsR l l.length) = rLZ (listedZ l) := by
    unfold lsR
    rw [List.take_length]
    rfl
  show XSs _ _ _ (.ret (rLZ (listedZ l)))
  rw [← e]
  have ln : (l.map (rF K)).length = l.length := List.length_map _
  refine o_all (rs := lsR l 0) (i := 1) (a_cons (x_eq (x_len (W.t.frees _ (by decide +kernel)) (x_var (i := 0))) (by rw [rlf_len])) a_nil) (by show 1 ≤ 1000; decide) sc_listed.nd fun p G0 H0 => ?_
  refine or_cons (Γ' := [some (rLF K l), some (rV (.ref p)), none, none]) (rs' := lsR l l.length) (o_for (n := l.length) (fun _ => [some (rLF K l), some (rV (.ref p)), none, none])
    (fun i => [some (rLF K l), some (rV (.ref p)), some (rZ (l.getD i zero).num), some (rZ ((l.getD i zero).den : Int))]) (fun i => lsR l i) (xi_n (i_list (x_var (i := 0))) ln) (g_two (i := 2) (j := 3) sc_listed.nd) (Le.refl _) (fun i hi => ?_) (fun i hi => ?_)) (or_ret (i := 1) rfl)
  · rw [getD_rF hi]
    exact sto_pair rF_pair
  · have z := lsR_len (l := l) (i := i) (by omega)
    rw [← lsR_succ hi]
    exact o_cons (o_append (i := 1) rfl (x_var (i := 2)) (by omega)) (o_cons (o_append (i := 1) rfl (x_var (i := 3)) (by rw [List.length_append]; show _ + 1 < _; omega)) (o_le (le_same (le_same (le_drop (le_drop le_nil)))) o_nil))
end
end OQ
/-! asks.py: the questions -/
namespace OQ
open PySem PySem.Spec PyProof.Rows L2
open Lrx1 (Fraction add sub mul divide whole zero one reduce lt le sum entry isZero)
open Lrx4 (Network Station stationCount placeCount places stationOf place placesOf getStation arrival service leaveWeight routeWeight weightSum route leave leadsOut loadIn stationLoadIn stationRateIn utilizationIn)
theorem not_true {b : Bool} (h : (!b) = true) : b = false := by cases b <;> first | rfl | cases h
theorem not_false2 {b : Bool} (h : (!b) = false) : b = true := by cases b <;> first | rfl | cases h
theorem ff_ne {b : Bool} (h : b = true) : ¬ b = false := fun e => by rw [h] at e; cases e
def utilL (net : Network) : Lrx1.Row := (List.range (stationCount net)).map (utilizationIn net (Lrx4.traffic net))
theorem utilL_len {net : Network} : (utilL net).length = stationCount net := by unfold utilL; rw [List.length_map, List.length_range]
theorem utilL_at {net : Network} {i : Nat} (h : i < stationCount net) : entry (utilL net) i = utilizationIn net (Lrx4.traffic net) i := getD_map_range h
theorem best_eq {net : Network} : bestTo (utilL net) (stationCount net) = Lrx4.bottleneck net := by rfl
theorem best_lt {net : Network} (ok : NetOk net) : Lrx4.bottleneck net < stationCount net := by
  have := ok.st.1
  rw [← best_eq]
  rcases bestTo_lt (utilL net) (stationCount net) with h | h <;> omega
theorem okf_utilL {net : Network} (ok : NetOk net) (op : Lrx4.isOpen net = true) : ∀ q ∈ utilL net, Okf q := fun q hq => by
  obtain ⟨i, hi, rfl⟩ := List.mem_map.mp hq
  exact okf_util ok (traffic_rt ok op) (List.mem_range.mp hi)
section
variable {P : Program} {w : World} {K : PySem.W.Frag} {mg : Str → Option Value} {base : Heap}
theorem ok_tell_route (W : Wd P w K mg base) : FnG P w K mg base "tell_route" 52 (fun x : NA => [rN x.1, rLN x.2]) (fun x => NetOk x.1 ∧ x.2.length = 4) (fun x => rLZ (res (askC 8 x.2) x.1)) := by
  refine mk_tell_route W.t 51 (fun _ => rfl) fun cdv A outer s H E x0 hc hr => ?_
  obtain ⟨net, args⟩ := x0
  obtain ⟨ok, ha⟩ : NetOk net ∧ args.length = 4 := hc
  obtain ⟨i, c, j, d, rfl⟩ := len4 ha
  refine ss_cons (s_un4 (j0 := 2) (j1 := 3) (j2 := 4) (j3 := 5) (R0 := rZ (i : Int)) (R1 := rZ (c : Int)) (R2 := rZ (j : Int)) (R3 := rZ (d : Int)) sc_tell_route.nd (x_var (i := 1))) (ss_if (PW.pt (w_or (t_not (t_val (x_meth (ok_has_place W) W.t.cl hr (by decide) (x_var (i := 0)) (net, i, c) (a_cons (x_var (i := 2)) (a_cons (x_var (i := 3)) a_nil)) rfl trivial))) fun _ => w_or1 (t_not (t_val (x_meth (ok_has_place W) W.t.cl hr (by decide) (x_var (i := 0)) (net, j, d) (a_cons (x_var (i := 4)) (a_cons (x_var (i := 5)) a_nil)) rfl trivial))))) (fun h => ?_) (fun h => ?_))
  · refine ss_one (s_ret (x_eq (x_lst (a_cons (x_globI (W.t.zs "NO_PLACE" (-2) (by decide +kernel))) a_nil)) ?_))
    show rLZ [-2] = rLZ (resR (if Lrx4.isPlace net i c = false ∨ Lrx4.isPlace net j d = false then Lrx4.error (-2) else Lrx4.fractionResult (route net (place net i c) (place net j d))))
    rw [if_pos]
    · rfl
    · rcases Bool.or_eq_true _ _ |>.mp h with q | q
      · exact .inl (not_true q)
      · exact .inr (not_true q)
  · have q := Bool.or_eq_false_iff.mp h
    have q1 : Lrx4.isPlace net i c = true := not_false2 q.1
    have q2 : Lrx4.isPlace net j d = true := not_false2 q.2
    have p1 := place_of q1
    have p2 := place_of q2
    refine ss_one (s_ret (x_eq (x_call (ok_single W) hr (by decide) (route net (place net i c) (place net j d)) (a_cons (x_call (ok_move_chance W) hr (by decide) (net, place net i c, place net j d) (a_cons (x_var (i := 0)) (a_cons (x_meth (ok_place_at W) W.t.cl hr (by decide) (x_var (i := 0)) (net, i, c) (a_cons (x_var (i := 2)) (a_cons (x_var (i := 3)) a_nil)) rfl ⟨ok, by have := ok.cl.2; have := p1.2; show c ≤ 1000; omega⟩) (a_cons (x_meth (ok_place_at W) W.t.cl hr (by decide) (x_var (i := 0)) (net, j, d) (a_cons (x_var (i := 4)) (a_cons (x_var (i := 5)) a_nil)) rfl ⟨ok, by have := ok.cl.2; have := p2.2; show d ≤ 1000; omega⟩) a_nil))) rfl ⟨ok, place_lt p1.1 p1.2, place_lt p2.1 p2.2⟩) a_nil) rfl trivial) ?_))
    show rLZ (resR (Lrx4.fractionResult (route net (place net i c) (place net j d)))) = rLZ (resR (if Lrx4.isPlace net i c = false ∨ Lrx4.isPlace net j d = false then Lrx4.error (-2) else Lrx4.fractionResult (route net (place net i c) (place net j d))))
    rw [if_neg]
    rintro (z | z)
    · exact ff_ne q1 z
    · exact ff_ne q2 z
theorem ok_tell_leave (W : Wd P w K mg base) : FnG P w K mg base "tell_leave" 52 (fun x : NA => [rN x.1, rLN x.2]) (fun x => NetOk x.1 ∧ x.2.length = 2) (fun x => rLZ (res (askC 9 x.2) x.1)) := by
  refine mk_tell_leave W.t 51 (fun _ => rfl) fun cdv A outer s H E x0 hc hr => ?_
  obtain ⟨net, args⟩ := x0
  obtain ⟨ok, ha⟩ : NetOk net ∧ args.length = 2 := hc
  obtain ⟨i, c, rfl⟩ := len2 ha
  refine ss_cons (s_un2 (j0 := 2) (j1 := 3) (R0 := rZ (i : Int)) (R1 := rZ (c : Int)) sc_tell_leave.nd (x_var (i := 1))) (ss_if (t_not (t_val (x_meth (ok_has_place W) W.t.cl hr (by decide) (x_var (i := 0)) (net, i, c) (a_cons (x_var (i := 2)) (a_cons (x_var (i := 3)) a_nil)) rfl trivial))) (fun h => ?_) (fun h => ?_))
  · refine ss_one (s_ret (x_eq (x_lst (a_cons (x_globI (W.t.zs "NO_PLACE" (-2) (by decide +kernel))) a_nil)) ?_))
    show rLZ [-2] = rLZ (resR (if Lrx4.isPlace net i c = false then Lrx4.error (-2) else Lrx4.fractionResult (leave net (place net i c))))
    rw [if_pos (not_true h)]
    rfl
  · have q1 : Lrx4.isPlace net i c = true := not_false2 h
    have p1 := place_of q1
    refine ss_one (s_ret (x_eq (x_call (ok_single W) hr (by decide) (leave net (place net i c)) (a_cons (x_call (ok_leave_chance W) hr (by decide) (net, place net i c) (a_cons (x_var (i := 0)) (a_cons (x_meth (ok_place_at W) W.t.cl hr (by decide) (x_var (i := 0)) (net, i, c) (a_cons (x_var (i := 2)) (a_cons (x_var (i := 3)) a_nil)) rfl ⟨ok, by have := ok.cl.2; have := p1.2; show c ≤ 1000; omega⟩) a_nil)) rfl ⟨ok, place_lt p1.1 p1.2⟩) a_nil) rfl trivial) ?_))
    show rLZ (resR (Lrx4.fractionResult (leave net (place net i c)))) = rLZ (resR (if Lrx4.isPlace net i c = false then Lrx4.error (-2) else Lrx4.fractionResult (leave net (place net i c))))
    rw [if_neg (ff_ne q1)]
theorem ok_tell_open (W : Wd P w K mg base) : FnG P w K mg base "tell_open" 52 (fun x : NA => [rN x.1, rLN x.2]) (fun x => NetOk x.1) (fun x => rLZ (res (askC 10 x.2) x.1)) := by
  refine mk_tell_open W.t 51 (fun _ => rfl) fun cdv A outer s H E x0 hc hr => ?_
  obtain ⟨net, args⟩ := x0
  have ok : NetOk net := hc
  refine ss_one (s_ret (x_eq (x_lst (a_cons (x_intB (W.t.frees _ (by decide +kernel)) (x_call (ok_is_open W) hr (by decide) net (a_cons (x_var (i := 0)) a_nil) rfl ok)) a_nil)) ?_))
  rfl
theorem ok_tell_traffic (W : Wd P w K mg base) : FnG P w K mg base "tell_traffic" 52 (fun x : NA => [rN x.1, rLN x.2]) (fun x => NetOk x.1) (fun x => rLZ (res (askC 11 x.2) x.1)) := by
  refine mk_tell_traffic W.t 51 (fun _ => rfl) fun cdv A outer s H E x0 hc hr => ?_
  obtain ⟨net, args⟩ := x0
  have ok : NetOk net := hc
  refine ss_if (t_not (t_val (x_call (ok_is_open W) hr (by decide) net (a_cons (x_var (i := 0)) a_nil) rfl ok))) (fun h => ?_) (fun h => ?_)
  · refine ss_one (s_ret (x_eq (x_lst (a_cons (x_globI (W.t.zs "NO_RESULT" (-33) (by decide +kernel))) a_nil)) ?_))
    show rLZ [-33] = rLZ (resR (if Lrx4.isOpen net = false then Lrx4.error (-33) else Lrx4.fractionsResult (Lrx4.traffic net)))
    rw [if_pos (not_true h)]
    rfl
  · have op := not_false2 h
    have rt := traffic_rt ok op
    have n15 := ok.n1.2
    have s5 := ok.st.2
    refine ss_one (s_ret (x_eq (x_call (ok_listed W) hr (by decide) (Lrx4.traffic net) (a_cons (x_call (ok_traffic W) hr (by decide) net (a_cons (x_var (i := 0)) a_nil) rfl ⟨ok, op⟩) a_nil) rfl (by show (Lrx4.traffic net).length ≤ 1000; rw [rt.len]; omega)) ?_))
    show rLZ (listedZ (Lrx4.traffic net)) = rLZ (resR (if Lrx4.isOpen net = false then Lrx4.error (-33) else Lrx4.fractionsResult (Lrx4.traffic net)))
    rw [if_neg (ff_ne op)]
    rfl
theorem ok_tell_visits (W : Wd P w K mg base) : FnG P w K mg base "tell_visits" 52 (fun x : NA => [rN x.1, rLN x.2]) (fun x => NetOk x.1 ∧ x.2.length = 2) (fun x => rLZ (res (askC 12 x.2) x.1)) := by
  refine mk_tell_visits W.t 51 (fun _ => rfl) fun cdv A outer s H E x0 hc hr => ?_
  obtain ⟨net, args⟩ := x0
  obtain ⟨ok, ha⟩ : NetOk net ∧ args.length = 2 := hc
  obtain ⟨i, c, rfl⟩ := len2 ha
  refine ss_cons (s_un2 (j0 := 2) (j1 := 3) (R0 := rZ (i : Int)) (R1 := rZ (c : Int)) sc_tell_visits.nd (x_var (i := 1))) (ss_if (t_not (t_val (x_meth (ok_has_place W) W.t.cl hr (by decide) (x_var (i := 0)) (net, i, c) (a_cons (x_var (i := 2)) (a_cons (x_var (i := 3)) a_nil)) rfl trivial))) (fun h => ?_) (fun h => ss_if (t_not (t_val (x_call (ok_is_open W) hr (by decide) net (a_cons (x_var (i := 0)) a_nil) rfl ok))) (fun h2 => ?_) (fun h2 => ?_)))
  · refine ss_one (s_ret (x_eq (x_lst (a_cons (x_globI (W.t.zs "NO_PLACE" (-2) (by decide +kernel))) a_nil)) ?_))
    show rLZ [-2] = rLZ (resR (if Lrx4.isPlace net i c = false then Lrx4.error (-2) else (if Lrx4.isOpen net = false then Lrx4.error (-33) else Lrx4.fractionsResult (Lrx4.visitsFrom net (place net i c)))))
    rw [if_pos (not_true h)]
    rfl
  · refine ss_one (s_ret (x_eq (x_lst (a_cons (x_globI (W.t.zs "NO_RESULT" (-33) (by decide +kernel))) a_nil)) ?_))
    show rLZ [-33] = rLZ (resR (if Lrx4.isPlace net i c = false then Lrx4.error (-2) else (if Lrx4.isOpen net = false then Lrx4.error (-33) else Lrx4.fractionsResult (Lrx4.visitsFrom net (place net i c)))))
    rw [if_neg (ff_ne (not_false2 h)), if_pos (not_true h2)]
    rfl
  · have q1 : Lrx4.isPlace net i c = true := not_false2 h
    have p1 := place_of q1
    have op := not_false2 h2
    have n15 := ok.n1.2
    have vr := visits_rt ok op (place net i c)
    refine ss_one (s_ret (x_eq (x_call (ok_listed W) hr (by decide) (Lrx4.visitsFrom net (place net i c)) (a_cons (x_call (ok_visits_from W) hr (by decide) (net, place net i c) (a_cons (x_var (i := 0)) (a_cons (x_meth (ok_place_at W) W.t.cl hr (by decide) (x_var (i := 0)) (net, i, c) (a_cons (x_var (i := 2)) (a_cons (x_var (i := 3)) a_nil)) rfl ⟨ok, by have := ok.cl.2; have := p1.2; show c ≤ 1000; omega⟩) a_nil)) rfl ⟨ok, op⟩) a_nil) rfl (by show (Lrx4.visitsFrom net (place net i c)).length ≤ 1000; rw [vr.len]; omega)) ?_))
    show rLZ (listedZ (Lrx4.visitsFrom net (place net i c))) = rLZ (resR (if Lrx4.isPlace net i c = false then Lrx4.error (-2) else (if Lrx4.isOpen net = false then Lrx4.error (-33) else Lrx4.fractionsResult (Lrx4.visitsFrom net (place net i c)))))
    rw [if_neg (ff_ne q1), if_neg (ff_ne op)]
    rfl
theorem ok_tell_utilizations (W : Wd P w K mg base) : FnG P w K mg base "tell_utilizations" 52 (fun x : NA => [rN x.1, rLN x.2]) (fun x => NetOk x.1) (fun x => rLZ (res (askC 13 x.2) x.1)) := by
  refine mk_tell_utilizations W.t 51 (fun _ => rfl) fun cdv A outer s H E x0 hc hr => ?_
  obtain ⟨net, args⟩ := x0
  have ok : NetOk net := hc
  refine ss_if (t_not (t_val (x_call (ok_is_open W) hr (by decide) net (a_cons (x_var (i := 0)) a_nil) rfl ok))) (fun h => ?_) (fun h => ?_)
  · refine ss_one (s_ret (x_eq (x_lst (a_cons (x_globI (W.t.zs "NO_RESULT" (-33) (by decide +kernel))) a_nil)) ?_))
    show rLZ [-33] = rLZ (resR (if Lrx4.isOpen net = false then Lrx4.error (-33) else Lrx4.fractionsResult (Lrx4.utilizations net)))
    rw [if_pos (not_true h)]
    rfl
  · have op := not_false2 h
    have rt := traffic_rt ok op
    have n15 := ok.n1.2
    have s5 := ok.st.2
    refine ss_one (s_ret (x_eq (x_call (ok_listed W) hr (by decide) (utilL net) (a_cons (x_call (ok_utilizations W) hr (by decide) (net, Lrx4.traffic net) (a_cons (x_var (i := 0)) (a_cons (x_call (ok_traffic W) hr (by decide) net (a_cons (x_var (i := 0)) a_nil) rfl ⟨ok, op⟩) a_nil)) rfl ⟨ok, rt⟩) a_nil) rfl (by show (utilL net).length ≤ 1000; rw [utilL_len]; omega)) ?_))
    show rLZ (listedZ (utilL net)) = rLZ (resR (if Lrx4.isOpen net = false then Lrx4.error (-33) else Lrx4.fractionsResult (Lrx4.utilizations net)))
    rw [if_neg (ff_ne op)]
    rfl
theorem stable_non {K : PySem.W.Frag} {net : Network} : ∀ v G, (rStable K net).r v G → (!decide (v = V.non)) = Lrx4.isStable net := fun v G h => by
  unfold rStable at h
  cases hs : Lrx4.isStable net with
  | true =>
    rw [hs] at h
    obtain ⟨a, vs, e, _⟩ := h
    rw [e]
    rfl
  | false =>
    rw [hs] at h
    have e : v = V.non := h
    rw [e]
    rfl
theorem stable_non2 {K : PySem.W.Frag} {net : Network} : ∀ v G, (rStable K net).r v G → decide (v = V.non) = !Lrx4.isStable net := fun v G h => by
  rw [← stable_non v G h, Bool.not_not]
theorem stable_yes {K : PySem.W.Frag} {net : Network} (h : Lrx4.isStable net = true) : ∀ v G, (rStable K net).r v G → (rLF K (Lrx4.traffic net)).r v G := fun v G q => by
  unfold rStable at q
  rw [h] at q
  exact q
theorem ok_tell_stable (W : Wd P w K mg base) : FnG P w K mg base "tell_stable" 52 (fun x : NA => [rN x.1, rLN x.2]) (fun x => NetOk x.1) (fun x => rLZ (res (askC 14 x.2) x.1)) := by
  refine mk_tell_stable W.t 51 (fun _ => rfl) fun cdv A outer s H E x0 hc hr => ?_
  obtain ⟨net, args⟩ := x0
  have ok : NetOk net := hc
  refine ss_one (s_ret (x_eq (x_lst (a_cons (x_intB (W.t.frees _ (by decide +kernel)) (x_notNP (x_call (ok_stable_rates W) hr (by decide) net (a_cons (x_var (i := 0)) a_nil) rfl ok) stable_non)) a_nil)) ?_))
  rfl
theorem ok_tell_bottleneck (W : Wd P w K mg base) : FnG P w K mg base "tell_bottleneck" 52 (fun x : NA => [rN x.1, rLN x.2]) (fun x => NetOk x.1) (fun x => rLZ (res (askC 15 x.2) x.1)) := by
  refine mk_tell_bottleneck W.t 51 (fun _ => rfl) fun cdv A outer s H E x0 hc hr => ?_
  obtain ⟨net, args⟩ := x0
  have ok : NetOk net := hc
  refine ss_if (t_not (t_val (x_call (ok_is_open W) hr (by decide) net (a_cons (x_var (i := 0)) a_nil) rfl ok))) (fun h => ?_) (fun h => ?_)
  · refine ss_one (s_ret (x_eq (x_lst (a_cons (x_globI (W.t.zs "NO_RESULT" (-33) (by decide +kernel))) a_nil)) ?_))
    show rLZ [-33] = rLZ (resR (if Lrx4.isOpen net = false then Lrx4.error (-33) else ⟨(Lrx4.bottleneck net : Int), Lrx4.ints (Lrx4.utilization net (Lrx4.bottleneck net))⟩))
    rw [if_pos (not_true h)]
    rfl
  · have op := not_false2 h
    have rt := traffic_rt ok op
    have s5 := ok.st.2
    refine ss_cons (s_set (i := 2) (R := rLF K (utilL net)) sc_tell_bottleneck.nd (x_call (ok_utilizations W) hr (by decide) (net, Lrx4.traffic net) (a_cons (x_var (i := 0)) (a_cons (x_call (ok_traffic W) hr (by decide) net (a_cons (x_var (i := 0)) a_nil) rfl ⟨ok, op⟩) a_nil)) rfl ⟨ok, rt⟩)) (ss_cons (s_set (i := 3) sc_tell_bottleneck.nd (x_eq (x_call (ok_busiest W) hr (by decide) (utilL net) (a_cons (x_var (i := 2)) a_nil) rfl ⟨okf_utilL ok op, by rw [utilL_len]; omega⟩) (show rZ ((bestTo (utilL net) (utilL net).length : Nat) : Int) = rZ ((Lrx4.bottleneck net : Nat) : Int) by rw [utilL_len, best_eq]))) (ss_one (s_ret (x_eq (x_lst (a_cons (x_var (i := 3)) (a_cons (x_num (x_eq (x_ix (x_var (i := 2)) (x_var (i := 3)) (at_rLF (l := utilL net) (i := Lrx4.bottleneck net) (by rw [utilL_len]; exact best_lt ok))) (congrArg (rF K) (utilL_at (best_lt ok))))) (a_cons (x_den (x_eq (x_ix (x_var (i := 2)) (x_var (i := 3)) (at_rLF (l := utilL net) (i := Lrx4.bottleneck net) (by rw [utilL_len]; exact best_lt ok))) (congrArg (rF K) (utilL_at (best_lt ok))))) a_nil)))) ?_))))
    show rLZ [((Lrx4.bottleneck net : Nat) : Int), (utilizationIn net (Lrx4.traffic net) (Lrx4.bottleneck net)).num, ((utilizationIn net (Lrx4.traffic net) (Lrx4.bottleneck net)).den : Int)] = rLZ (resR (if Lrx4.isOpen net = false then Lrx4.error (-33) else ⟨(Lrx4.bottleneck net : Int), Lrx4.ints (Lrx4.utilization net (Lrx4.bottleneck net))⟩))
    rw [if_neg (ff_ne op)]
    rfl
theorem ok_tell_numbers (W : Wd P w K mg base) : FnG P w K mg base "tell_numbers" 52 (fun x : NA => [rN x.1, rLN x.2]) (fun x => NetOk x.1) (fun x => rLZ (res (askC 16 x.2) x.1)) := by
  refine mk_tell_numbers W.t 51 (fun _ => rfl) fun cdv A outer s H E x0 hc hr => ?_
  obtain ⟨net, args⟩ := x0
  have ok : NetOk net := hc
  refine ss_cons (s_set (i := 2) sc_tell_numbers.nd (x_call (ok_stable_rates W) hr (by decide) net (a_cons (x_var (i := 0)) a_nil) rfl ok)) (ss_if (t_isNP (x_var (i := 2)) stable_non2) (fun hs => ?_) (fun hs => ?_))
  · refine ss_one (s_ret (x_eq (x_lst (a_cons (x_globI (W.t.zs "NO_RESULT" (-33) (by decide +kernel))) a_nil)) ?_))
    show rLZ [-33] = rLZ (resR (if Lrx4.isStable net = false then Lrx4.error (-33) else Lrx4.fractionsResult ((List.range (stationCount net)).map (Lrx4.stationNumberIn net (Lrx4.traffic net)) ++ [sum ((List.range (stationCount net)).map (Lrx4.stationNumberIn net (Lrx4.traffic net)))])))
    rw [if_pos (not_true hs)]
    rfl
  · have hst := not_false2 hs
    obtain ⟨st, op⟩ := sta_of ok hst
    have s5 := ok.st.2
    have e1 : (List.range (stationCount net)).map (Lrx4.stationNumberIn net (Lrx4.traffic net)) = ((List.range (stationCount net)).map (stNumM net (Lrx4.traffic net))) := List.map_congr_left fun i _ => (stNum_eq st i).symm
    have l1 : ((List.range (stationCount net)).map (stNumM net (Lrx4.traffic net))).length = stationCount net := by rw [List.length_map, List.length_range]
    refine ss_cons (s_set (i := 3) (R := rLF K ((List.range (stationCount net)).map (stNumM net (Lrx4.traffic net)))) sc_tell_numbers.nd (x_call (ok_station_numbers W) hr (by decide) (net, Lrx4.traffic net) (a_cons (x_var (i := 0)) (a_cons (x_imp (x_var (i := 2)) (stable_yes hst)) a_nil)) rfl st)) (ss_one (s_ret (x_eq (x_call (ok_listed W) hr (by decide) (((List.range (stationCount net)).map (stNumM net (Lrx4.traffic net))) ++ [sum ((List.range (stationCount net)).map (stNumM net (Lrx4.traffic net)))]) (a_cons (x_eq (x_cat (x_var (i := 3)) (x_lst (a_cons (x_call (ok_total W) hr (by decide) ((List.range (stationCount net)).map (stNumM net (Lrx4.traffic net))) (a_cons (x_var (i := 3)) a_nil) rfl ⟨228604, fun q hq => ?_, ?_⟩) a_nil)) ?_) ?_) a_nil) rfl ?_) ?_)))
    · obtain ⟨i, hi, rfl⟩ := List.mem_map.mp hq
      exact fb_stNum st (List.mem_range.mp hi)
    · rw [l1]
      omega
    · rw [rlf_len, l1]
      show stationCount net + 1 ≤ 1000
      omega
    · show _ = rL (List.map _ (_ ++ [_]))
      rw [List.map_append]
      rfl
    · show (_ ++ [_]).length ≤ 1000
      rw [List.length_append, l1]
      show stationCount net + 1 ≤ 1000
      omega
    · show rLZ (listedZ (((List.range (stationCount net)).map (stNumM net (Lrx4.traffic net))) ++ [sum ((List.range (stationCount net)).map (stNumM net (Lrx4.traffic net)))])) = rLZ (resR (if Lrx4.isStable net = false then Lrx4.error (-33) else Lrx4.fractionsResult ((List.range (stationCount net)).map (Lrx4.stationNumberIn net (Lrx4.traffic net)) ++ [sum ((List.range (stationCount net)).map (Lrx4.stationNumberIn net (Lrx4.traffic net)))])))
      rw [if_neg (ff_ne hst), e1]
      rfl
theorem ok_tell_place_number (W : Wd P w K mg base) : FnG P w K mg base "tell_place_number" 52 (fun x : NA => [rN x.1, rLN x.2]) (fun x => NetOk x.1 ∧ x.2.length = 2) (fun x => rLZ (res (askC 17 x.2) x.1)) := by
  refine mk_tell_place_number W.t 51 (fun _ => rfl) fun cdv A outer s H E x0 hc hr => ?_
  obtain ⟨net, args⟩ := x0
  obtain ⟨ok, ha⟩ : NetOk net ∧ args.length = 2 := hc
  obtain ⟨i, c, rfl⟩ := len2 ha
  refine ss_cons (s_un2 (j0 := 2) (j1 := 3) (R0 := rZ (i : Int)) (R1 := rZ (c : Int)) sc_tell_place_number.nd (x_var (i := 1))) (ss_if (t_not (t_val (x_meth (ok_has_place W) W.t.cl hr (by decide) (x_var (i := 0)) (net, i, c) (a_cons (x_var (i := 2)) (a_cons (x_var (i := 3)) a_nil)) rfl trivial))) (fun h => ?_) (fun h => ss_cons (s_set (i := 4) sc_tell_place_number.nd (x_call (ok_stable_rates W) hr (by decide) net (a_cons (x_var (i := 0)) a_nil) rfl ok)) (ss_if (t_isNP (x_var (i := 4)) stable_non2) (fun hs => ?_) (fun hs => ?_))))
  · refine ss_one (s_ret (x_eq (x_lst (a_cons (x_globI (W.t.zs "NO_PLACE" (-2) (by decide +kernel))) a_nil)) ?_))
    show rLZ [-2] = rLZ (resR (if Lrx4.isPlace net i c = false then Lrx4.error (-2) else (if Lrx4.isStable net = false then Lrx4.error (-33) else Lrx4.fractionResult (Lrx4.placeNumber net (place net i c)))))
    rw [if_pos (not_true h)]
    rfl
  · refine ss_one (s_ret (x_eq (x_lst (a_cons (x_globI (W.t.zs "NO_RESULT" (-33) (by decide +kernel))) a_nil)) ?_))
    show rLZ [-33] = rLZ (resR (if Lrx4.isPlace net i c = false then Lrx4.error (-2) else (if Lrx4.isStable net = false then Lrx4.error (-33) else Lrx4.fractionResult (Lrx4.placeNumber net (place net i c)))))
    rw [if_neg (ff_ne (not_false2 h)), if_pos (not_true hs)]
    rfl
  · have hst := not_false2 hs
    obtain ⟨st, op⟩ := sta_of ok hst
    have s5 := ok.st.2
    have q1 : Lrx4.isPlace net i c = true := not_false2 h
    have p1 := place_of q1
    have pl := place_lt p1.1 p1.2
    refine ss_one (s_ret (x_eq (x_call (ok_single W) hr (by decide) (numberM net (Lrx4.traffic net) (place net i c)) (a_cons (x_call (ok_number_at W) hr (by decide) (net, Lrx4.traffic net, place net i c) (a_cons (x_var (i := 0)) (a_cons (x_imp (x_var (i := 4)) (stable_yes hst)) (a_cons (x_meth (ok_place_at W) W.t.cl hr (by decide) (x_var (i := 0)) (net, i, c) (a_cons (x_var (i := 2)) (a_cons (x_var (i := 3)) a_nil)) rfl ⟨ok, by have := ok.cl.2; have := p1.2; show c ≤ 1000; omega⟩) a_nil))) rfl ⟨st, pl⟩) a_nil) rfl trivial) ?_))
    show rLZ (resR (Lrx4.fractionResult (numberM net (Lrx4.traffic net) (place net i c)))) = rLZ (resR (if Lrx4.isPlace net i c = false then Lrx4.error (-2) else (if Lrx4.isStable net = false then Lrx4.error (-33) else Lrx4.fractionResult (Lrx4.placeNumber net (place net i c)))))
    rw [if_neg (ff_ne q1), if_neg (ff_ne hst), number_eq st pl]
    first | done | rfl
theorem ok_tell_visit_time (W : Wd P w K mg base) : FnG P w K mg base "tell_visit_time" 52 (fun x : NA => [rN x.1, rLN x.2]) (fun x => NetOk x.1 ∧ x.2.length = 2) (fun x => rLZ (res (askC 18 x.2) x.1)) := by
  refine mk_tell_visit_time W.t 51 (fun _ => rfl) fun cdv A outer s H E x0 hc hr => ?_
  obtain ⟨net, args⟩ := x0
  obtain ⟨ok, ha⟩ : NetOk net ∧ args.length = 2 := hc
  obtain ⟨i, c, rfl⟩ := len2 ha
  refine ss_cons (s_un2 (j0 := 2) (j1 := 3) (R0 := rZ (i : Int)) (R1 := rZ (c : Int)) sc_tell_visit_time.nd (x_var (i := 1))) (ss_if (t_not (t_val (x_meth (ok_has_place W) W.t.cl hr (by decide) (x_var (i := 0)) (net, i, c) (a_cons (x_var (i := 2)) (a_cons (x_var (i := 3)) a_nil)) rfl trivial))) (fun h => ?_) (fun h => ss_cons (s_set (i := 4) sc_tell_visit_time.nd (x_call (ok_stable_rates W) hr (by decide) net (a_cons (x_var (i := 0)) a_nil) rfl ok)) (ss_if (t_isNP (x_var (i := 4)) stable_non2) (fun hs => ?_) (fun hs => ?_))))
  · refine ss_one (s_ret (x_eq (x_lst (a_cons (x_globI (W.t.zs "NO_PLACE" (-2) (by decide +kernel))) a_nil)) ?_))
    show rLZ [-2] = rLZ (resR (if Lrx4.isPlace net i c = false then Lrx4.error (-2) else (if Lrx4.isStable net = false then Lrx4.error (-33) else Lrx4.fractionResult (Lrx4.visitTime net (place net i c)))))
    rw [if_pos (not_true h)]
    rfl
  · refine ss_one (s_ret (x_eq (x_lst (a_cons (x_globI (W.t.zs "NO_RESULT" (-33) (by decide +kernel))) a_nil)) ?_))
    show rLZ [-33] = rLZ (resR (if Lrx4.isPlace net i c = false then Lrx4.error (-2) else (if Lrx4.isStable net = false then Lrx4.error (-33) else Lrx4.fractionResult (Lrx4.visitTime net (place net i c)))))
    rw [if_neg (ff_ne (not_false2 h)), if_pos (not_true hs)]
    rfl
  · have hst := not_false2 hs
    obtain ⟨st, op⟩ := sta_of ok hst
    have s5 := ok.st.2
    have q1 : Lrx4.isPlace net i c = true := not_false2 h
    have p1 := place_of q1
    have pl := place_lt p1.1 p1.2
    refine ss_one (s_ret (x_eq (x_call (ok_single W) hr (by decide) (timeM net (Lrx4.traffic net) (place net i c)) (a_cons (x_call (ok_time_at W) hr (by decide) (net, Lrx4.traffic net, place net i c) (a_cons (x_var (i := 0)) (a_cons (x_imp (x_var (i := 4)) (stable_yes hst)) (a_cons (x_meth (ok_place_at W) W.t.cl hr (by decide) (x_var (i := 0)) (net, i, c) (a_cons (x_var (i := 2)) (a_cons (x_var (i := 3)) a_nil)) rfl ⟨ok, by have := ok.cl.2; have := p1.2; show c ≤ 1000; omega⟩) a_nil))) rfl ⟨st, pl⟩) a_nil) rfl trivial) ?_))
    show rLZ (resR (Lrx4.fractionResult (timeM net (Lrx4.traffic net) (place net i c)))) = rLZ (resR (if Lrx4.isPlace net i c = false then Lrx4.error (-2) else (if Lrx4.isStable net = false then Lrx4.error (-33) else Lrx4.fractionResult (Lrx4.visitTime net (place net i c)))))
    rw [if_neg (ff_ne q1), if_neg (ff_ne hst), time_eq st]
    first | done | rfl
theorem ok_tell_time_from (W : Wd P w K mg base) : FnG P w K mg base "tell_time_from" 52 (fun x : NA => [rN x.1, rLN x.2]) (fun x => NetOk x.1 ∧ x.2.length = 2) (fun x => rLZ (res (askC 19 x.2) x.1)) := by
  refine mk_tell_time_from W.t 51 (fun _ => rfl) fun cdv A outer s H E x0 hc hr => ?_
  obtain ⟨net, args⟩ := x0
  obtain ⟨ok, ha⟩ : NetOk net ∧ args.length = 2 := hc
  obtain ⟨i, c, rfl⟩ := len2 ha
  refine ss_cons (s_un2 (j0 := 2) (j1 := 3) (R0 := rZ (i : Int)) (R1 := rZ (c : Int)) sc_tell_time_from.nd (x_var (i := 1))) (ss_if (t_not (t_val (x_meth (ok_has_place W) W.t.cl hr (by decide) (x_var (i := 0)) (net, i, c) (a_cons (x_var (i := 2)) (a_cons (x_var (i := 3)) a_nil)) rfl trivial))) (fun h => ?_) (fun h => ss_cons (s_set (i := 4) sc_tell_time_from.nd (x_call (ok_stable_rates W) hr (by decide) net (a_cons (x_var (i := 0)) a_nil) rfl ok)) (ss_if (t_isNP (x_var (i := 4)) stable_non2) (fun hs => ?_) (fun hs => ?_))))
  · refine ss_one (s_ret (x_eq (x_lst (a_cons (x_globI (W.t.zs "NO_PLACE" (-2) (by decide +kernel))) a_nil)) ?_))
    show rLZ [-2] = rLZ (resR (if Lrx4.isPlace net i c = false then Lrx4.error (-2) else (if Lrx4.isStable net = false then Lrx4.error (-33) else Lrx4.fractionResult (Lrx4.timeFrom net (place net i c)))))
    rw [if_pos (not_true h)]
    rfl
  · refine ss_one (s_ret (x_eq (x_lst (a_cons (x_globI (W.t.zs "NO_RESULT" (-33) (by decide +kernel))) a_nil)) ?_))
    show rLZ [-33] = rLZ (resR (if Lrx4.isPlace net i c = false then Lrx4.error (-2) else (if Lrx4.isStable net = false then Lrx4.error (-33) else Lrx4.fractionResult (Lrx4.timeFrom net (place net i c)))))
    rw [if_neg (ff_ne (not_false2 h)), if_pos (not_true hs)]
    rfl
  · have hst := not_false2 hs
    obtain ⟨st, op⟩ := sta_of ok hst
    have s5 := ok.st.2
    have q1 : Lrx4.isPlace net i c = true := not_false2 h
    have p1 := place_of q1
    have pl := place_lt p1.1 p1.2
    refine ss_one (s_ret (x_eq (x_call (ok_single W) hr (by decide) (timeFromM net (Lrx4.traffic net) (place net i c)) (a_cons (x_call (ok_time_from W) hr (by decide) (net, Lrx4.traffic net, place net i c) (a_cons (x_var (i := 0)) (a_cons (x_imp (x_var (i := 4)) (stable_yes hst)) (a_cons (x_meth (ok_place_at W) W.t.cl hr (by decide) (x_var (i := 0)) (net, i, c) (a_cons (x_var (i := 2)) (a_cons (x_var (i := 3)) a_nil)) rfl ⟨ok, by have := ok.cl.2; have := p1.2; show c ≤ 1000; omega⟩) a_nil))) rfl ⟨st, op⟩) a_nil) rfl trivial) ?_))
    show rLZ (resR (Lrx4.fractionResult (timeFromM net (Lrx4.traffic net) (place net i c)))) = rLZ (resR (if Lrx4.isPlace net i c = false then Lrx4.error (-2) else (if Lrx4.isStable net = false then Lrx4.error (-33) else Lrx4.fractionResult (Lrx4.timeFrom net (place net i c)))))
    rw [if_neg (ff_ne q1), if_neg (ff_ne hst), timeFrom_eq st]
    first | done | rfl
theorem ok_tell_network_time (W : Wd P w K mg base) : FnG P w K mg base "tell_network_time" 52 (fun x : NA => [rN x.1, rLN x.2]) (fun x => NetOk x.1) (fun x => rLZ (res (askC 20 x.2) x.1)) := by
  refine mk_tell_network_time W.t 51 (fun _ => rfl) fun cdv A outer s H E x0 hc hr => ?_
  obtain ⟨net, args⟩ := x0
  have ok : NetOk net := hc
  refine ss_cons (s_set (i := 2) (R := rZ ((net.arrivals.sum : Nat) : Int)) sc_tell_network_time.nd (x_eq (x_sum (W.t.frees _ (by decide +kernel)) (x_eq (x_arrivals W.t (x_var (i := 0))) (rlz_rln _).symm)) (by rw [sum_cast]))) (ss_if (t_imp (t_eqI (x_var (i := 2)) x_int) (dec_eq _ 0)) (fun h => ?_) (fun h => ss_cons (s_set (i := 3) sc_tell_network_time.nd (x_call (ok_stable_rates W) hr (by decide) net (a_cons (x_var (i := 0)) a_nil) rfl ok)) (ss_if (t_isNP (x_var (i := 3)) stable_non2) (fun hs => ?_) (fun hs => ?_))))
  · have hz : isZero (Lrx4.externalRate net) = decide (net.arrivals.sum = 0) := by
      rw [external_eq ok]
      show ((net.arrivals.sum : Int) == 0) = _
      rw [Bool.eq_iff_iff, beq_iff_eq, decide_eq_true_eq]
      omega
    refine ss_one (s_ret (x_eq (x_lst (a_cons (x_globI (W.t.zs "NO_ARRIVALS" (-6) (by decide +kernel))) a_nil)) ?_))
    show rLZ [-6] = rLZ (resR (if isZero (Lrx4.externalRate net) = true then Lrx4.error (-6) else (if Lrx4.isStable net = false then Lrx4.error (-33) else Lrx4.fractionResult (divide (Lrx4.totalNumber net) (Lrx4.externalRate net)))))
    rw [if_pos (hz.trans h)]
    rfl
  · have hz : isZero (Lrx4.externalRate net) = decide (net.arrivals.sum = 0) := by
      rw [external_eq ok]
      show ((net.arrivals.sum : Int) == 0) = _
      rw [Bool.eq_iff_iff, beq_iff_eq, decide_eq_true_eq]
      omega
    refine ss_one (s_ret (x_eq (x_lst (a_cons (x_globI (W.t.zs "NO_RESULT" (-33) (by decide +kernel))) a_nil)) ?_))
    show rLZ [-33] = rLZ (resR (if isZero (Lrx4.externalRate net) = true then Lrx4.error (-6) else (if Lrx4.isStable net = false then Lrx4.error (-33) else Lrx4.fractionResult (divide (Lrx4.totalNumber net) (Lrx4.externalRate net)))))
    rw [if_neg (by rw [hz]; exact fun e => of_decide_eq_false h (of_decide_eq_true e)), if_pos (not_true hs)]
    rfl
  · have hz : isZero (Lrx4.externalRate net) = decide (net.arrivals.sum = 0) := by
      rw [external_eq ok]
      show ((net.arrivals.sum : Int) == 0) = _
      rw [Bool.eq_iff_iff, beq_iff_eq, decide_eq_true_eq]
      omega
    have hst := not_false2 hs
    obtain ⟨st, op⟩ := sta_of ok hst
    have s5 := ok.st.2
    have l1 : ((List.range (stationCount net)).map (stNumM net (Lrx4.traffic net))).length = stationCount net := by rw [List.length_map, List.length_range]
    have pos : 0 < net.arrivals.sum := by have := of_decide_eq_false h; omega
    have big : net.arrivals.sum < 2 ^ 60 := by
      have b : ∀ l : List Nat, (∀ a ∈ l, a ≤ 100000) → l.sum ≤ l.length * 100000 := fun l => by
        induction l with
        | nil => intro _; exact Nat.le_refl _
        | cons a l ih =>
          intro hl
          have q1 := hl a List.mem_cons_self
          have q2 := ih fun b hb => hl b (List.mem_cons_of_mem _ hb)
          rw [List.sum_cons, List.length_cons, Nat.succ_mul]
          omega
      have b2 := b net.arrivals ok.ba
      have n15 := ok.n1.2
      rw [ok.la] at b2
      omega
    have all : ∀ q ∈ ((List.range (stationCount net)).map (stNumM net (Lrx4.traffic net))), Fb 228604 q := fun q hq => by
      obtain ⟨i, hi, rfl⟩ := List.mem_map.mp hq
      exact fb_stNum st (List.mem_range.mp hi)
    refine ss_one (s_ret (x_eq (x_call (ok_single W) hr (by decide) (divide (sum ((List.range (stationCount net)).map (stNumM net (Lrx4.traffic net)))) (whole ((net.arrivals.sum : Nat) : Int))) (a_cons (x_call (ok_over W) hr (by decide) (sum ((List.range (stationCount net)).map (stNumM net (Lrx4.traffic net))), whole ((net.arrivals.sum : Nat) : Int)) (a_cons (x_call (ok_total W) hr (by decide) ((List.range (stationCount net)).map (stNumM net (Lrx4.traffic net))) (a_cons (x_call (ok_station_numbers W) hr (by decide) (net, Lrx4.traffic net) (a_cons (x_var (i := 0)) (a_cons (x_imp (x_var (i := 3)) (stable_yes hst)) a_nil)) rfl st) a_nil) rfl ⟨228604, all, by rw [l1]; omega⟩) (a_cons (x_call (ok_whole W) hr (by decide) ((net.arrivals.sum : Nat) : Int) (a_cons (x_var (i := 2)) a_nil) rfl trivial) a_nil)) rfl ⟨⟨((fb_sum all).mono (by rw [l1]; omega) : Fb 10000000 _).okf, okf_whole big⟩, whole_pos pos⟩) a_nil) rfl trivial) ?_))
    · show rLZ (resR (Lrx4.fractionResult (divide (sum ((List.range (stationCount net)).map (stNumM net (Lrx4.traffic net)))) (whole ((net.arrivals.sum : Nat) : Int))))) = rLZ (resR (if isZero (Lrx4.externalRate net) = true then Lrx4.error (-6) else (if Lrx4.isStable net = false then Lrx4.error (-33) else Lrx4.fractionResult (divide (Lrx4.totalNumber net) (Lrx4.externalRate net)))))
      rw [if_neg (by rw [hz]; exact fun e => of_decide_eq_false h (of_decide_eq_true e)), if_neg (ff_ne hst), external_eq ok, total_eq st]
theorem ok_tell_departures (W : Wd P w K mg base) : FnG P w K mg base "tell_departures" 52 (fun x : NA => [rN x.1, rLN x.2]) (fun x => NetOk x.1) (fun x => rLZ (res (askC 21 x.2) x.1)) := by
  refine mk_tell_departures W.t 51 (fun _ => rfl) fun cdv A outer s H E x0 hc hr => ?_
  obtain ⟨net, args⟩ := x0
  have ok : NetOk net := hc
  refine ss_if (t_not (t_val (x_call (ok_is_open W) hr (by decide) net (a_cons (x_var (i := 0)) a_nil) rfl ok))) (fun h => ?_) (fun h => ?_)
  · refine ss_one (s_ret (x_eq (x_lst (a_cons (x_globI (W.t.zs "NO_RESULT" (-33) (by decide +kernel))) a_nil)) ?_))
    show rLZ [-33] = rLZ (resR (if Lrx4.isOpen net = false then Lrx4.error (-33) else Lrx4.fractionsResult ((places net).map fun p => mul (entry (Lrx4.traffic net) p) (leave net p))))
    rw [if_pos (not_true h)]
    rfl
  · have op := not_false2 h
    have rt := traffic_rt ok op
    have n15 := ok.n1.2
    have s5 := ok.st.2
    refine ss_one (s_ret (x_eq (x_call (ok_listed W) hr (by decide) ((places net).map fun p => mul (entry (Lrx4.traffic net) p) (leave net p)) (a_cons (x_call (ok_departures W) hr (by decide) (net, Lrx4.traffic net) (a_cons (x_var (i := 0)) (a_cons (x_call (ok_traffic W) hr (by decide) net (a_cons (x_var (i := 0)) a_nil) rfl ⟨ok, op⟩) a_nil)) rfl ⟨ok, rt⟩) a_nil) rfl (by unfold places; rw [List.length_map, List.length_range]; omega)) ?_))
    show rLZ (listedZ ((places net).map fun p => mul (entry (Lrx4.traffic net) p) (leave net p))) = rLZ (resR (if Lrx4.isOpen net = false then Lrx4.error (-33) else Lrx4.fractionsResult ((places net).map fun p => mul (entry (Lrx4.traffic net) p) (leave net p))))
    rw [if_neg (ff_ne op)]
    rfl
theorem ok_tell_number_chance (W : Wd P w K mg base) : FnG P w K mg base "tell_number_chance" 52 (fun x : NA => [rN x.1, rLN x.2]) (fun x => NetOk x.1 ∧ x.2.length = 2) (fun x => rLZ (res (askC 22 x.2) x.1)) := by
  refine mk_tell_number_chance W.t 51 (fun _ => rfl) fun cdv A outer s H E x0 hc hr => ?_
  obtain ⟨net, args⟩ := x0
  obtain ⟨ok, ha⟩ : NetOk net ∧ args.length = 2 := hc
  obtain ⟨i, c, rfl⟩ := len2 ha
  refine ss_cons (s_un2 (j0 := 2) (j1 := 3) (R0 := rZ (i : Int)) (R1 := rZ (c : Int)) sc_tell_number_chance.nd (x_var (i := 1))) (ss_if (t_not (t_val (x_meth (ok_has_station W) W.t.cl hr (by decide) (x_var (i := 0)) (net, i) (a_cons (x_var (i := 2)) a_nil) rfl trivial))) (fun h => ?_) (fun h => ss_if (t_gt (x_var (i := 3)) (x_globI (W.t.zs "MOST_CUSTOMERS" 60 (by decide +kernel)))) (fun h2 => ?_) (fun h2 => ?_)))
  · refine ss_one (s_ret (x_eq (x_lst (a_cons (x_globI (W.t.zs "NO_PLACE" (-2) (by decide +kernel))) a_nil)) ?_))
    show rLZ [-2] = rLZ (resR (if stationCount net ≤ i then Lrx4.error (-2) else (if 60 < c then Lrx4.error (-22) else (if (getStation net i).kind = 2 then Lrx4.error (-33) else (if Lrx4.isStable net = false then Lrx4.error (-33) else Lrx4.fractionResult (Lrx4.numberProbability net i c))))))
    rw [if_pos (by have := of_decide_eq_false (not_true h); have q : ¬ i < stationCount net := this; omega)]
    rfl
  · have q1 : i < stationCount net := of_decide_eq_true (not_false2 h)
    have q2 : (60 : Int) < (c : Int) := of_decide_eq_true h2
    refine ss_one (s_ret (x_eq (x_lst (a_cons (x_globI (W.t.zs "OUTSIDE" (-22) (by decide +kernel))) a_nil)) ?_))
    show rLZ [-22] = rLZ (resR (if stationCount net ≤ i then Lrx4.error (-2) else (if 60 < c then Lrx4.error (-22) else (if (getStation net i).kind = 2 then Lrx4.error (-33) else (if Lrx4.isStable net = false then Lrx4.error (-33) else Lrx4.fractionResult (Lrx4.numberProbability net i c))))))
    rw [if_neg (by omega), if_pos (by omega)]
    rfl
  · have q1 : i < stationCount net := of_decide_eq_true (not_false2 h)
    have q2 : ¬ (60 : Int) < (c : Int) := of_decide_eq_false h2
    refine ss_if (t_imp (t_eqI (x_kind W.t q1 (x_var (i := 0)) (x_var (i := 2))) (x_globI (W.t.zs "FOR_EVERYBODY" 2 (by decide +kernel)))) (dec_eq _ 2)) (fun h3 => ?_) (fun h3 => ss_cons (s_set (i := 4) sc_tell_number_chance.nd (x_call (ok_stable_rates W) hr (by decide) net (a_cons (x_var (i := 0)) a_nil) rfl ok)) (ss_if (t_isNP (x_var (i := 4)) stable_non2) (fun hs => ?_) (fun hs => ?_)))
    · refine ss_one (s_ret (x_eq (x_lst (a_cons (x_globI (W.t.zs "NO_RESULT" (-33) (by decide +kernel))) a_nil)) ?_))
      show rLZ [-33] = rLZ (resR (if stationCount net ≤ i then Lrx4.error (-2) else (if 60 < c then Lrx4.error (-22) else (if (getStation net i).kind = 2 then Lrx4.error (-33) else (if Lrx4.isStable net = false then Lrx4.error (-33) else Lrx4.fractionResult (Lrx4.numberProbability net i c))))))
      rw [if_neg (by omega), if_neg (by omega), if_pos (of_decide_eq_true h3)]
      rfl
    · refine ss_one (s_ret (x_eq (x_lst (a_cons (x_globI (W.t.zs "NO_RESULT" (-33) (by decide +kernel))) a_nil)) ?_))
      show rLZ [-33] = rLZ (resR (if stationCount net ≤ i then Lrx4.error (-2) else (if 60 < c then Lrx4.error (-22) else (if (getStation net i).kind = 2 then Lrx4.error (-33) else (if Lrx4.isStable net = false then Lrx4.error (-33) else Lrx4.fractionResult (Lrx4.numberProbability net i c))))))
      rw [if_neg (by omega), if_neg (by omega), if_neg (of_decide_eq_false h3), if_pos (not_true hs)]
      rfl
    · have hst := not_false2 hs
      obtain ⟨st, op⟩ := sta_of ok hst
      have hk : (getStation net i).kind ≠ 2 := of_decide_eq_false h3
      have eq := chance_eq st q1 hk c
      refine ss_one (s_ret (x_eq (x_call (ok_single W) hr (by decide) (chanceM net (Lrx4.traffic net) i c) (a_cons (x_call (ok_number_chance W) hr (by decide) (net, Lrx4.traffic net, i, c) (a_cons (x_var (i := 0)) (a_cons (x_imp (x_var (i := 4)) (stable_yes hst)) (a_cons (x_var (i := 2)) (a_cons (x_var (i := 3)) a_nil)))) rfl ⟨st, q1, hk, by show c ≤ 60; omega⟩) a_nil) rfl trivial) ?_))
      show rLZ (resR (Lrx4.fractionResult (chanceM net (Lrx4.traffic net) i c))) = rLZ (resR (if stationCount net ≤ i then Lrx4.error (-2) else (if 60 < c then Lrx4.error (-22) else (if (getStation net i).kind = 2 then Lrx4.error (-33) else (if Lrx4.isStable net = false then Lrx4.error (-33) else Lrx4.fractionResult (Lrx4.numberProbability net i c))))))
      rw [if_neg (by omega), if_neg (by omega), if_neg hk, if_neg (ff_ne hst), ← eq]
      rfl
theorem ok_tell_state_chance (W : Wd P w K mg base) : FnG P w K mg base "tell_state_chance" 52 (fun x : NA => [rN x.1, rLN x.2]) (fun x => NetOk x.1 ∧ x.2.length ≤ 1000) (fun x => rLZ (res (askC 23 x.2) x.1)) := by
  refine mk_tell_state_chance W.t 51 (fun _ => rfl) fun cdv A outer s H E x0 hc hr => ?_
  obtain ⟨net, args⟩ := x0
  obtain ⟨ok, hl⟩ : NetOk net ∧ args.length ≤ 1000 := hc
  have s5 := ok.st.2
  have ln : (args.map fun (n : Nat) => rV (V.int (n : Int))).length = args.length := List.length_map _
  refine ss_if (PW.pt (w_or (t_neI (x_eq (x_len (W.t.frees _ (by decide +kernel)) (x_var (i := 1))) (congrArg rZ (congrArg Int.ofNat ln))) (x_stations W.t (x_var (i := 0)))) fun _ => w_or1 (t_val (x_any (bs := args.map fun n => decide (60 < n)) (W.t.frees _ (by decide +kernel)) (x_eq (x_lc (n := args.length) (is := [3]) (own := [("many", 3)]) (fun i => rB (decide (60 < args.getD i 0))) sc_tell_state_chance.nd (xi_n (i_list (x_var (i := 1))) ln) (blkOk_by (N := N_tell_state_chance) (sc := defScope s_tell_state_chance) (by decide +kernel)) rfl .one (fun _ _ _ _ _ => g_one sc_tell_state_chance.nd) (fun s' H' C' cl fp i hi => ?_)) ?_))))) (fun h => ?_) (fun h => ?_)
  · rw [getD_natR hi]
    exact x_eq (x_gt (x_var (i := 3)) (x_globI (W.t.zs "MOST_CUSTOMERS" 60 (by decide +kernel)))) (congrArg rB (dec_lt 60 _))
  · rw [range_b (f := fun i => decide (60 < args.getD i 0)), range_getD (d := 0) (f := fun n => decide (60 < n))]
  · refine ss_one (s_ret (x_eq (x_lst (a_cons (x_globI (W.t.zs "OUTSIDE" (-22) (by decide +kernel))) a_nil)) ?_))
    show rLZ [-22] = rLZ (resR (if args.length ≠ stationCount net ∨ (args.all fun n => decide (n ≤ 60)) = false then Lrx4.error (-22) else (if (net.stations.any fun s => s.kind == 2) = true then Lrx4.error (-33) else (if Lrx4.isStable net = false then Lrx4.error (-33) else Lrx4.fractionResult (Lrx4.stateProbability net args)))))
    rw [if_pos]
    · rfl
    · rcases Bool.or_eq_true _ _ |>.mp h with q | q
      · left
        have := of_decide_eq_false (not_true q)
        intro e
        exact this (congrArg Int.ofNat e)
      · right
        rw [List.any_map] at q
        obtain ⟨n, hn, q2⟩ := List.any_eq_true.mp q
        have q3 : 60 < n := of_decide_eq_true q2
        refine List.all_eq_false.mpr ⟨n, hn, ?_⟩
        intro e
        have := of_decide_eq_true e
        omega
  · have q := Bool.or_eq_false_iff.mp h
    have q1 : args.length = stationCount net := by
      have := of_decide_eq_true (not_false2 q.1)
      exact Int.ofNat.inj this
    have q2 : ∀ n ∈ args, n ≤ 60 := fun n hn => by
      have z := q.2
      rw [List.any_map] at z
      have z1 := List.any_eq_false.mp z n hn
      have z2 : ¬ decide (60 < n) = true := z1
      have z3 : ¬ 60 < n := fun e => z2 (decide_eq_true e)
      omega
    have q3 : ¬ (args.length ≠ stationCount net ∨ (args.all fun n => decide (n ≤ 60)) = false) := by
      rintro (z | z)
      · exact z q1
      · obtain ⟨n, hn, z⟩ := List.all_eq_false.mp z
        exact z (decide_eq_true (q2 n hn))
    have hk : ((net.stations.map (·.kind)).map fun (n : Nat) => (n : Int)).contains 2 = net.stations.any fun s => s.kind == 2 := by
      rw [Bool.eq_iff_iff, List.contains_iff_mem, List.any_eq_true]
      constructor
      · intro m
        obtain ⟨k, hk, e⟩ := List.mem_map.mp m
        obtain ⟨s, hs, rfl⟩ := List.mem_map.mp hk
        exact ⟨s, hs, beq_iff_eq.mpr (by omega)⟩
      · rintro ⟨s, hs, e⟩
        have e := beq_iff_eq.mp e
        exact List.mem_map.mpr ⟨s.kind, List.mem_map.mpr ⟨s, hs, rfl⟩, by rw [e]; rfl⟩
    refine ss_if (t_imp (t_inI (x_globI (W.t.zs "FOR_EVERYBODY" 2 (by decide +kernel))) (x_eq (x_kinds W.t (x_var (i := 0))) (rlz_rln _).symm)) hk) (fun h3 => ?_) (fun h3 => ss_cons (s_set (i := 2) sc_tell_state_chance.nd (x_call (ok_stable_rates W) hr (by decide) net (a_cons (x_var (i := 0)) a_nil) rfl ok)) (ss_if (t_isNP (x_var (i := 2)) stable_non2) (fun hs => ?_) (fun hs => ?_)))
    · refine ss_one (s_ret (x_eq (x_lst (a_cons (x_globI (W.t.zs "NO_RESULT" (-33) (by decide +kernel))) a_nil)) ?_))
      show rLZ [-33] = rLZ (resR (if args.length ≠ stationCount net ∨ (args.all fun n => decide (n ≤ 60)) = false then Lrx4.error (-22) else (if (net.stations.any fun s => s.kind == 2) = true then Lrx4.error (-33) else (if Lrx4.isStable net = false then Lrx4.error (-33) else Lrx4.fractionResult (Lrx4.stateProbability net args)))))
      rw [if_neg q3, if_pos h3]
      rfl
    · refine ss_one (s_ret (x_eq (x_lst (a_cons (x_globI (W.t.zs "NO_RESULT" (-33) (by decide +kernel))) a_nil)) ?_))
      show rLZ [-33] = rLZ (resR (if args.length ≠ stationCount net ∨ (args.all fun n => decide (n ≤ 60)) = false then Lrx4.error (-22) else (if (net.stations.any fun s => s.kind == 2) = true then Lrx4.error (-33) else (if Lrx4.isStable net = false then Lrx4.error (-33) else Lrx4.fractionResult (Lrx4.stateProbability net args)))))
      rw [if_neg q3, if_neg (by rw [h3]; decide), if_pos (not_true hs)]
      rfl
    · have hst := not_false2 hs
      obtain ⟨st, op⟩ := sta_of ok hst
      have ks := any_kind net h3
      have eq := state_eq st ks q1
      refine ss_one (s_ret (x_eq (x_call (ok_single W) hr (by decide) (fprod (stateL net (Lrx4.traffic net) args)) (a_cons (x_call (ok_state_chance W) hr (by decide) (net, Lrx4.traffic net, args) (a_cons (x_var (i := 0)) (a_cons (x_imp (x_var (i := 2)) (stable_yes hst)) (a_cons (x_var (i := 1)) a_nil))) rfl ⟨st, q1, ks, q2⟩) a_nil) rfl trivial) ?_))
      show rLZ (resR (Lrx4.fractionResult (fprod (stateL net (Lrx4.traffic net) args)))) = rLZ (resR (if args.length ≠ stationCount net ∨ (args.all fun n => decide (n ≤ 60)) = false then Lrx4.error (-22) else (if (net.stations.any fun s => s.kind == 2) = true then Lrx4.error (-33) else (if Lrx4.isStable net = false then Lrx4.error (-33) else Lrx4.fractionResult (Lrx4.stateProbability net args)))))
      rw [if_neg q3, if_neg (by rw [h3]; decide), if_neg (ff_ne hst), eq]
theorem ok_tell_growth (W : Wd P w K mg base) : FnG P w K mg base "tell_growth" 52 (fun x : NA => [rN x.1, rLN x.2]) (fun x => NetOk x.1) (fun x => rLZ (res (askC 24 x.2) x.1)) := by
  refine mk_tell_growth W.t 51 (fun _ => rfl) fun cdv A outer s H E x0 hc hr => ?_
  obtain ⟨net, args⟩ := x0
  have ok : NetOk net := hc
  refine ss_if (t_not (t_val (x_call (ok_is_open W) hr (by decide) net (a_cons (x_var (i := 0)) a_nil) rfl ok))) (fun h => ?_) (fun h => ?_)
  · refine ss_one (s_ret (x_eq (x_lst (a_cons (x_globI (W.t.zs "NO_RESULT" (-33) (by decide +kernel))) a_nil)) ?_))
    show rLZ [-33] = rLZ (resR (if Lrx4.isOpen net = false ∨ isZero (Lrx4.utilization net (Lrx4.bottleneck net)) = true then Lrx4.error (-33) else Lrx4.fractionResult (divide one (Lrx4.utilization net (Lrx4.bottleneck net)))))
    rw [if_pos (.inl (not_true h))]
    rfl
  · have op := not_false2 h
    have rt := traffic_rt ok op
    have s5 := ok.st.2
    have ou := okf_util ok rt (best_lt ok)
    have un := util_nonneg rt (Lrx4.bottleneck net)
    have iz : isZero (Lrx4.utilization net (Lrx4.bottleneck net)) = decide (utilizationIn net (Lrx4.traffic net) (Lrx4.bottleneck net) = zero) := isZero_eq ou.1
    refine ss_cons (s_set (i := 2) (R := rLF K (utilL net)) sc_tell_growth.nd (x_call (ok_utilizations W) hr (by decide) (net, Lrx4.traffic net) (a_cons (x_var (i := 0)) (a_cons (x_call (ok_traffic W) hr (by decide) net (a_cons (x_var (i := 0)) a_nil) rfl ⟨ok, op⟩) a_nil)) rfl ⟨ok, rt⟩)) (ss_cons (s_set (i := 3) (R := rF K (utilizationIn net (Lrx4.traffic net) (Lrx4.bottleneck net))) sc_tell_growth.nd (x_eq (x_ix (x_var (i := 2)) (x_eq (x_call (ok_busiest W) hr (by decide) (utilL net) (a_cons (x_var (i := 2)) a_nil) rfl ⟨okf_utilL ok op, by rw [utilL_len]; omega⟩) (show rZ ((bestTo (utilL net) (utilL net).length : Nat) : Int) = rZ ((Lrx4.bottleneck net : Nat) : Int) by rw [utilL_len, best_eq])) (at_rLF (l := utilL net) (i := Lrx4.bottleneck net) (by rw [utilL_len]; exact best_lt ok))) (congrArg (rF K) (utilL_at (best_lt ok))))) (ss_if (t_eqF hr (x_var (i := 3)) (x_NOTHING W.t)) (fun h2 => ?_) (fun h2 => ?_)))
    · refine ss_one (s_ret (x_eq (x_lst (a_cons (x_globI (W.t.zs "NO_RESULT" (-33) (by decide +kernel))) a_nil)) ?_))
      show rLZ [-33] = rLZ (resR (if Lrx4.isOpen net = false ∨ isZero (Lrx4.utilization net (Lrx4.bottleneck net)) = true then Lrx4.error (-33) else Lrx4.fractionResult (divide one (Lrx4.utilization net (Lrx4.bottleneck net)))))
      rw [if_pos (.inr (iz.trans h2))]
      rfl
    · have pos : 0 < (utilizationIn net (Lrx4.traffic net) (Lrx4.bottleneck net)).num := by
        rw [num_pos_iff ou.1]
        have h3 : val (utilizationIn net (Lrx4.traffic net) (Lrx4.bottleneck net)) ≠ 0 := fun z => of_decide_eq_false h2 (eq_zero_of ou.1 z)
        grind
      refine ss_one (s_ret (x_eq (x_call (ok_single W) hr (by decide) (divide one (utilizationIn net (Lrx4.traffic net) (Lrx4.bottleneck net))) (a_cons (x_call (ok_over W) hr (by decide) (one, utilizationIn net (Lrx4.traffic net) (Lrx4.bottleneck net)) (a_cons (x_ONE W.t) (a_cons (x_var (i := 3)) a_nil)) rfl ⟨⟨okf_one, ou⟩, pos⟩) a_nil) rfl trivial) ?_))
      show rLZ (resR (Lrx4.fractionResult (divide one (utilizationIn net (Lrx4.traffic net) (Lrx4.bottleneck net))))) = rLZ (resR (if Lrx4.isOpen net = false ∨ isZero (Lrx4.utilization net (Lrx4.bottleneck net)) = true then Lrx4.error (-33) else Lrx4.fractionResult (divide one (Lrx4.utilization net (Lrx4.bottleneck net)))))
      rw [if_neg]
      · rfl
      · rintro (z | z)
        · exact ff_ne op z
        · rw [iz, h2] at z
          cases z
theorem ok_tell_summary (W : Wd P w K mg base) : FnG P w K mg base "tell_summary" 52 (fun x : NA => [rN x.1, rLN x.2]) (fun x => NetOk x.1) (fun x => rLZ (res (askC 25 x.2) x.1)) := by
  refine mk_tell_summary W.t 51 (fun _ => rfl) fun cdv A outer s H E x0 hc hr => ?_
  obtain ⟨net, args⟩ := x0
  have ok : NetOk net := hc
  refine ss_one (s_ret (x_eq (x_lst (a_cons (x_stations W.t (x_var (i := 0))) (a_cons (x_groups W.t (x_var (i := 0))) (a_cons (x_intB (W.t.frees _ (by decide +kernel)) (x_call (ok_is_open W) hr (by decide) net (a_cons (x_var (i := 0)) a_nil) rfl ok)) (a_cons (x_intB (W.t.frees _ (by decide +kernel)) (x_notNP (x_call (ok_stable_rates W) hr (by decide) net (a_cons (x_var (i := 0)) a_nil) rfl ok) stable_non)) a_nil))))) ?_))
  rfl
end
end OQ
/-! asks.py: asked -/
namespace OQ
open PySem PySem.Spec PyProof.Rows L2
open Lrx1 (Fraction zero one)
open Lrx4 (Network)
/-- a tuple of the module, of known values -/
def rTup (K : PySem.W.Frag) (vs : List V) : Rp := ⟨fun v H => ∃ a, v = .ref a ∧ SqT K H a vs, fun e ⟨a, h1, h2⟩ => ⟨a, h1, e.t h2⟩⟩
section
variable {X : Cx} {Γ : Ctx} {a b e : Expr} {es : List Expr} {pos p : Pos} {α : Type} {Rs : α → List Rp} {C : α → Prop} {R : α → Rp} {x y : Str} {k j i : Nat} {A0 : Around} {ad : Addr}
theorem x_tix {vs : List V} {u : V} (ha : XE X a Γ (rTup X.K vs)) (hb : XE X b Γ (rZ (i : Int))) (hr : vs[i]? = some u) (hs : PlainIx b := by exact fun _ _ => rfl) : XE X (.Subscript a b pos) Γ (rV u) :=
  PE.of (pe_ix ix_tup ha hb hs) fun _ _ _ ⟨G, e, en, k⟩ => ⟨G, e, en, fun v G1 H1 g1 ⟨p, h1, h2⟩ => ⟨G1, g1.sub, en.up g1.old, fun w G2 H2 g2 r2 => ⟨p, vs, (i : Int), u, h1, r2, g2.kept.t (g1.sub.t h2), atI_nat hr, k u G2 H2 (g1.trans g2) rfl⟩⟩⟩
theorem x_callL (F : FnG X.prog X.w X.K X.mg X.base x k Rs C R) (hm : X.mg x = some (.ref ad)) (hr : Room j A0) (hk : k ≤ j) (x0 : α) {rs : List Rp} (ha : XA X (e :: es) Γ rs) (hrs : rs = Rs x0) (hc : C x0) (hA : X.A = A0 := by rfl) (hi : Γ[i]? = some (some (rV (.ref ad))) := by rfl)
    (hN : X.N[i]? = some y := by rfl) (hv : Vis X.env.scope y := by first | exact Or.inl rfl | exact Or.inr (Or.inl rfl) | exact Or.inr (Or.inr rfl))
    (hdb : (y == ("__debug__" : Str)) = false := by decide) (hcd : (y == ("__classdict__" : Str)) = false := by decide)
    (he : starEach (e :: es) X.env = (false, eval e X.env) :: starEach es X.env := by rfl) (hpl : (backTo pos (starEach es X.env)).any (·.1) = false := by rfl) : XE X (.Call (.Name y p) (e :: es) [] pos) Γ (R x0) := by
  obtain ⟨f, fd, ps, F1, hm1, kp, hb⟩ := F.ex
  subst hrs
  subst hA
  rw [hm] at hm1
  cases hm1
  exact PE.of (pe_callL (E := E0) F1 (hr.mono hk) hN hv kp hb .nil pass0 ha hdb hcd he hpl) fun σ H Q ⟨G, ex, en, q⟩ => by
    obtain ⟨v, h1, h2⟩ := en.get hi
    have h2 : v = .ref ad := h2
    subst h2
    exact ⟨h1, G, ex, en, fun vs G1 H1 g1 r1 => by
      show spG Rs C R (vs ++ []) H1 Q E0
      rw [List.append_nil]
      exact ⟨x0, G1, g1.sub, r1, hc, fun v G' H' g r => q v G' H' (g1.trans g) r⟩⟩
end
def askN (n : Nat) (a : List Nat) : Prop := (n = 8 → a.length = 4) ∧ (n = 9 ∨ n = 12 ∨ n = 17 ∨ n = 18 ∨ n = 19 ∨ n = 22 → a.length = 2) ∧ a.length ≤ 1000
section
variable {P : Program} {w : World} {K : PySem.W.Frag} {mg : Str → Option Value} {base : Heap}
theorem ask_case (W : Wd P w K mg base) {cdv : Value} {A : Around} {outer : List Env} {s : Shared} {H : Hp} {E : XK} (hr : Room 52 (cx P w K mg base N_asked "asked" s_asked a_asked cdv A outer s H E).A) {nm : Str} {ad : Addr} {n k : Nat} {net : Network} {args : List Nat} {C : NA → Prop}
    (F : FnG P w K mg base nm 52 (fun x : NA => [rN x.1, rLN x.2]) C (fun x => rLZ (res (askC n x.2) x.1))) (hm : (mainL.find? (fun p => p.1 == some nm)).map (·.2) = some (.ref ad)) (hk : (tASKS.map svV)[k]? = some (.ref ad)) (hn : ((n : Nat) : Int) - 8 = ((k : Nat) : Int)) (hc : C (net, args)) :
    XSs (cx P w K mg base N_asked "asked" s_asked a_asked cdv A outer s H E) (defBody s_asked) [some (rN net), some (rZ (n : Int)), some (rLN args), none] (.ret (rLZ (res (askC n args) net))) := by
  refine ss_cons (s_set (i := 3) sc_asked.nd (x_tix (vs := tASKS.map svV) (x_globR (W.t.refs "ASKS" a_ASKS (by decide +kernel)) (fun G => ⟨a_ASKS, rfl, W.t.tASKS G⟩)) (x_eq (x_sub (x_var (i := 1)) x_int) (congrArg rZ hn)) hk)) (ss_one (s_ret (x_callL (X := cx P w K mg base N_asked "asked" s_asked a_asked cdv A outer s H E) (i := 3) (Rs := fun x : NA => [rN x.1, rLN x.2]) (C := C) (R := fun x => rLZ (res (askC n x.2) x.1)) (k := 52) (j := 52) F (W.t.refs nm ad hm) hr (by decide) (net, args) (a_cons (x_var (i := 0)) (a_cons (x_var (i := 2)) a_nil)) rfl hc)))
theorem ok_asked (W : Wd P w K mg base) : FnG P w K mg base "asked" 53 (fun x : Network × Nat × List Nat => [rN x.1, rZ (x.2.1 : Int), rLN x.2.2]) (fun x => NetOk x.1 ∧ 8 ≤ x.2.1 ∧ x.2.1 ≤ 25 ∧ askN x.2.1 x.2.2) (fun x => rLZ (res (askC x.2.1 x.2.2) x.1)) := by
  refine mk_asked W.t 52 (fun _ => rfl) fun cdv A outer s H E x0 hc hr => ?_
  obtain ⟨net, n, args⟩ := x0
  obtain ⟨ok, h8, h25, hN⟩ : NetOk net ∧ 8 ≤ n ∧ n ≤ 25 ∧ askN n args := hc
  obtain ⟨a4, a2, al⟩ := hN
  have cs : n = 8 ∨ n = 9 ∨ n = 10 ∨ n = 11 ∨ n = 12 ∨ n = 13 ∨ n = 14 ∨ n = 15 ∨ n = 16 ∨ n = 17 ∨ n = 18 ∨ n = 19 ∨ n = 20 ∨ n = 21 ∨ n = 22 ∨ n = 23 ∨ n = 24 ∨ n = 25 := by omega
  rcases cs with h | h | h | h | h | h | h | h | h | h | h | h | h | h | h | h | h | h <;> subst h
  · exact ask_case W hr (k := 0) (ok_tell_route W) (by decide +kernel) rfl rfl ⟨ok, a4 rfl⟩
  · exact ask_case W hr (k := 1) (ok_tell_leave W) (by decide +kernel) rfl rfl ⟨ok, a2 (by decide)⟩
  · exact ask_case W hr (k := 2) (ok_tell_open W) (by decide +kernel) rfl rfl ok
  · exact ask_case W hr (k := 3) (ok_tell_traffic W) (by decide +kernel) rfl rfl ok
  · exact ask_case W hr (k := 4) (ok_tell_visits W) (by decide +kernel) rfl rfl ⟨ok, a2 (by decide)⟩
  · exact ask_case W hr (k := 5) (ok_tell_utilizations W) (by decide +kernel) rfl rfl ok
  · exact ask_case W hr (k := 6) (ok_tell_stable W) (by decide +kernel) rfl rfl ok
  · exact ask_case W hr (k := 7) (ok_tell_bottleneck W) (by decide +kernel) rfl rfl ok
  · exact ask_case W hr (k := 8) (ok_tell_numbers W) (by decide +kernel) rfl rfl ok
  · exact ask_case W hr (k := 9) (ok_tell_place_number W) (by decide +kernel) rfl rfl ⟨ok, a2 (by decide)⟩
  · exact ask_case W hr (k := 10) (ok_tell_visit_time W) (by decide +kernel) rfl rfl ⟨ok, a2 (by decide)⟩
  · exact ask_case W hr (k := 11) (ok_tell_time_from W) (by decide +kernel) rfl rfl ⟨ok, a2 (by decide)⟩
  · exact ask_case W hr (k := 12) (ok_tell_network_time W) (by decide +kernel) rfl rfl ok
  · exact ask_case W hr (k := 13) (ok_tell_departures W) (by decide +kernel) rfl rfl ok
  · exact ask_case W hr (k := 14) (ok_tell_number_chance W) (by decide +kernel) rfl rfl ⟨ok, a2 (by decide)⟩
  · exact ask_case W hr (k := 15) (ok_tell_state_chance W) (by decide +kernel) rfl rfl ⟨ok, al⟩
  · exact ask_case W hr (k := 16) (ok_tell_growth W) (by decide +kernel) rfl rfl ok
  · exact ask_case W hr (k := 17) (ok_tell_summary W) (by decide +kernel) rfl rfl ok
end
end OQ
/-! a net that is changed -/
namespace OQ
open PySem PySem.Spec PyProof.Rows L2
open Lrx1 (Fraction zero one)
open Lrx4 (Network Station stationCount placeCount places stationOf place placesOf getStation arrival service)
def ft (a : Addr) (F : Foot) : List Addr := a :: ([F.k, F.s, F.m, F.r, F.l, F.w] ++ F.rows)
structure Kp (a : Addr) (F0 : Foot) (H0 : Hp) (F : Foot) (H : Hp) : Prop where
  keep : ∀ b o, b ∉ ft a F0 → H0 b = some o → H b = some o
  foot : ∀ b ∈ ft a F, b ∈ ft a F0 ∨ H0 b = none
section
variable {a : Addr} {F0 F F' : Foot} {H0 H H' : Hp}
theorem Kp.refl (a : Addr) (F : Foot) (H : Hp) : Kp a F H F H := ⟨fun _ _ _ h => h, fun _ h => .inl h⟩
theorem Kp.free (k : Kp a F0 H0 F H) {b : Addr} (h : H b = none) : b ∈ ft a F0 ∨ H0 b = none := by
  by_cases m : b ∈ ft a F0
  · exact .inl m
  · right
    cases q : H0 b with
    | none => rfl
    | some o =>
      rw [k.keep b o m q] at h
      cases h
theorem Kp.trans (k : Kp a F0 H0 F H) (k' : Kp a F H F' H') : Kp a F0 H0 F' H' := by
  refine ⟨fun b o hb hh => ?_, fun b hb => ?_⟩
  · have h1 := k.keep b o hb hh
    refine k'.keep b o (fun m => ?_) h1
    rcases k.foot b m with z | z
    · exact hb z
    · rw [z] at hh; cases hh
  · rcases k'.foot b hb with z | z
    · exact k.foot b z
    · exact k.free z
theorem Kp.up (k : Kp a F0 H0 F H) (e : Ex H H') : Kp a F0 H0 F H' := ⟨fun b o hb hh => e _ _ (k.keep b o hb hh), k.foot⟩
theorem Kp.put (k : Kp a F0 H0 F H) {p : Addr} {o : HO} (hp : p ∈ ft a F) : Kp a F0 H0 F (upd H p o) := by
  refine ⟨fun b u hb hh => ?_, k.foot⟩
  have h1 := k.keep b u hb hh
  by_cases e : b = p
  · subst e
    rcases k.foot b hp with z | z
    · exact absurd z hb
    · rw [z] at hh; cases hh
  · rw [upd_ne e]
    exact h1
def rA (a : Addr) (F : Foot) (net : Network) : Rp := ⟨fun v H => v = .ref a ∧ NetAt a_Net H a net F, fun e ⟨h1, h2⟩ => ⟨h1, h2.up e⟩⟩
theorem rA_N {net : Network} : ∀ v G, (rA a F net).r v G → (rN net).r v G := fun v G ⟨h1, h2⟩ => ⟨a, F, h1, h2⟩
/-! slots that hold values only -/
def Pure (Γ : Ctx) : Prop := ∀ σ H H', En Γ σ H → En Γ σ H'
theorem pu_nil : Pure [] := fun σ _ _ h => by
  match σ, h with
  | [], _ => trivial
theorem pu_none {Γ : Ctx} (h : Pure Γ) : Pure (none :: Γ) := fun σ H H' q => by
  match σ, q with
  | _ :: s, q => exact h s H H' q
theorem pu_val {Γ : Ctx} {v : V} (h : Pure Γ) : Pure (some (rV v) :: Γ) := fun σ H H' q => by
  match σ, q with
  | _ :: s, q => exact ⟨q.1, h s H H' q.2⟩
end
theorem ix_self {n j : Nat} (hj : j < n) : ixN n (j : Int) = some j := by
  have h1 : (0 : Int) ≤ (j : Int) := Int.natCast_nonneg j
  have h2 : (j : Int) < (n : Int) := by omega
  simp only [ixN, h1, h2, if_true, Int.toNat_natCast]
/-! ### statements -/
def tM (a : Addr) (F0 : Foot) (H0 : Hp) (Φ Φ' : Foot → Ctx) : TS := fun D σ H => ∃ F, Kp a F0 H0 F H ∧ En (Φ F) σ H ∧ ∀ σ' H' F', Kp a F0 H0 F' H' → En (Φ' F') σ' H' → D.nx σ' H'
def tMR (a : Addr) (F0 : Foot) (H0 : Hp) (Φ : Foot → Ctx) (net' : Network) (v0 : V) : TS := fun D σ H => ∃ F, Kp a F0 H0 F H ∧ En (Φ F) σ H ∧ ∀ H' F', Kp a F0 H0 F' H' → NetAt a_Net H' a net' F' → D.rt v0 H'
abbrev MS (X : Cx) (a : Addr) (F0 : Foot) (H0 : Hp) (st : Stmt) (Φ Φ' : Foot → Ctx) : Prop := PS X st (tM a F0 H0 Φ Φ')
abbrev MSs (X : Cx) (a : Addr) (F0 : Foot) (H0 : Hp) (st : List Stmt) (Φ Φ' : Foot → Ctx) : Prop := PSs X st (tM a F0 H0 Φ Φ')
abbrev MRs (X : Cx) (a : Addr) (F0 : Foot) (H0 : Hp) (st : List Stmt) (Φ : Foot → Ctx) (net' : Network) (v0 : V) : Prop := PSs X st (tMR a F0 H0 Φ net' v0)
section
variable {X : Cx} {a : Addr} {F0 : Foot} {H0 : Hp} {Φ Φ' Φ'' : Foot → Ctx} {st : Stmt} {rest sa sb : List Stmt} {e c o ix : Expr} {pos p : Pos} {net net' : Network} {v0 v : V} {R : Rp}
theorem m_lift (h : ∀ F, XS X st (Φ F) (.nxt (Φ' F))) : MS X a F0 H0 st Φ Φ' := ⟨fun pins s σ H D I ⟨F, k, en, q⟩ => (h F).run pins s σ H D I ⟨H, Ex.refl _, en, fun σ' G' H' g e' => q σ' H' F (k.up g.kept) (e'.up g.sub)⟩⟩
theorem m_nil : MSs X a F0 H0 [] Φ Φ := PSs.of pss_nil fun D σ H ⟨F, k, en, q⟩ => q σ H F k en
theorem m_cons (h1 : MS X a F0 H0 st Φ Φ') (h2 : MSs X a F0 H0 rest Φ' Φ'') : MSs X a F0 H0 (st :: rest) Φ Φ'' :=
  PSs.of (pss_cons h1 h2) fun D σ H ⟨F, k, en, q⟩ => ⟨F, k, en, fun σ' H' F' k' e' => ⟨F', k', e', q⟩⟩
theorem m_le (h1 : MSs X a F0 H0 rest Φ Φ') (h : ∀ F, Le (Φ' F) (Φ'' F)) : MSs X a F0 H0 rest Φ Φ'' := PSs.of h1 fun D σ H ⟨F, k, en, q⟩ => ⟨F, k, en, fun σ' H' F' k' e' => q σ' H' F' k' (h F' _ _ e')⟩
theorem m_pre (h1 : MSs X a F0 H0 rest Φ' Φ'') (h : ∀ F, Le (Φ F) (Φ' F)) : MSs X a F0 H0 rest Φ Φ'' := PSs.of h1 fun D σ H ⟨F, k, en, q⟩ => ⟨F, k, h F _ _ en, q⟩
theorem mr_cons (h1 : MS X a F0 H0 st Φ Φ') (h2 : MRs X a F0 H0 rest Φ' net' v0) : MRs X a F0 H0 (st :: rest) Φ net' v0 :=
  PSs.of (pss_cons h1 h2) fun D σ H ⟨F, k, en, q⟩ => ⟨F, k, en, fun σ' H' F' k' e' => ⟨F', k', e', q⟩⟩
theorem mr_ret (h : ∀ F, XE X e (Φ F) (rV v0)) (h0 : ∀ F, (Φ F)[0]? = some (some (rA a F net'))) : MRs X a F0 H0 (.Return (some e) pos :: rest) Φ net' v0 := ⟨fun pins s σ H D I ⟨F, k, en, q⟩ => by
  refine (ss_ret (rest := rest) (s_ret (pos := pos) (h F))).run pins s σ H D I ⟨H, Ex.refl _, en, fun v G' H' g r => ?_⟩
  have r : v = v0 := r
  subst r
  obtain ⟨u, _, h2⟩ := (en.up (g.old.trans g.sub)).get (h0 F)
  exact q H' F (k.up g.kept) h2.2⟩
theorem mr_le (h : ∀ F, Le (Φ F) (Φ' F)) (h1 : MRs X a F0 H0 rest Φ' net' v0) : MRs X a F0 H0 rest Φ net' v0 := PSs.of h1 fun D σ H ⟨F, k, en, q⟩ => ⟨F, k, h F _ _ en, q⟩
/-- if c: return .. -/
theorem mr_if {k : Bool} (hc : ∀ F, XT X c (Φ F) k) (ha : k = true → MRs X a F0 H0 sa Φ net' v0) (hb : k = false → MRs X a F0 H0 rest Φ net' v0) : MRs X a F0 H0 (.If c sa [] pos :: rest) Φ net' v0 := ⟨fun pins s σ H D I ⟨F, kp, en, q⟩ => by
  cases k with
  | true => exact (pss_cons (ps_if (hc F) (ha rfl) ⟨fun _ _ _ _ _ _ h => h.elim⟩ (u := fun _ _ _ => False)) ⟨fun _ _ _ _ _ _ h => h.elim⟩ (u := fun _ _ _ => False)).run pins s σ H D I ⟨H, Ex.refl _, en, fun G' H' g => ⟨F, kp.up g.kept, en.up (g.old.trans g.sub), q⟩⟩
  | false => exact (pss_cons (ps_if (hc F) ⟨fun _ _ _ _ _ _ h => h.elim⟩ pss_nil (t := fun _ _ _ => False)) (hb rfl)).run pins s σ H D I ⟨H, Ex.refl _, en, fun G' H' g => ⟨F, kp.up g.kept, en.up (g.old.trans g.sub), q⟩⟩⟩
theorem m_if {k : Bool} (hc : ∀ F, XT X c (Φ F) k) (ha : k = true → MSs X a F0 H0 sa Φ Φ') (hb : k = false → MSs X a F0 H0 sb Φ Φ') : MS X a F0 H0 (.If c sa sb pos) Φ Φ' := ⟨fun pins s σ H D I ⟨F, kp, en, q⟩ => by
  cases k with
  | true => exact (ps_if (hc F) (ha rfl) ⟨fun _ _ _ _ _ _ h => h.elim⟩ (u := fun _ _ _ => False)).run pins s σ H D I ⟨H, Ex.refl _, en, fun G' H' g => ⟨F, kp.up g.kept, en.up (g.old.trans g.sub), q⟩⟩
  | false => exact (ps_if (hc F) ⟨fun _ _ _ _ _ _ h => h.elim⟩ (hb rfl) (t := fun _ _ _ => False)).run pins s σ H D I ⟨H, Ex.refl _, en, fun G' H' g => ⟨F, kp.up g.kept, en.up (g.old.trans g.sub), q⟩⟩⟩
/-- o[ix] = e, o a list of the net -/
theorem m_put (sel : Foot → Addr) {k : Nat} (Γr : Foot → Ctx) (ho : ∀ F, XE X o (some (rA a F net) :: Γr F) (rV (.ref (sel F)))) (hi : ∀ F, XE X ix (some (rA a F net) :: Γr F) (rZ (k : Int))) (he : ∀ F, XE X e (some (rA a F net) :: Γr F) (rV v)) (pu : ∀ F, Pure (Γr F))
    (hu : ∀ F H, NetAt a_Net H a net F → sel F ∈ ft a F ∧ ∃ xs, H (sel F) = some (.lst xs) ∧ k < xs.length ∧ NetAt a_Net (upd H (sel F) (.lst (xs.set k v))) a net' F)
    (ha : ∀ v, assign (.Subscript o ix p) X.env v = (do
      let ov ← holding [v] (eval o X.env)
      let iv ← holding [v, ov] (eval ix X.env)
      standAt p
      holding [v, ov, iv] (setItem ov iv v)
      release [v, ov, iv] []) := by intro _; rfl)
    (hs : swapsWithSole [.Subscript o ix p] e pos.line X.env = pure false := by rfl) (hw : swappedStores [.Subscript o ix p] e X.env = pure none := by rfl)
    (h1 : (assignEach [.Subscript o ix p] X.env).map (·.2) = [assign (.Subscript o ix p) X.env] := by rfl) : MS X a F0 H0 (.Assign [.Subscript o ix p] e pos) (fun F => some (rA a F net) :: Γr F) (fun F => some (rA a F net') :: Γr F) :=
  ⟨fun pins s σ H D I ⟨F, kp, en, q⟩ => by
    refine (ps_asg (pos := pos) (he F) (pg_sub (pos := p) (ho F) (hi F) set_list ha) hs hw h1).run pins s σ H D I ?_
    refine ⟨H, Ex.refl _, en, fun x G1 H1 g1 r1 => ⟨H1, Ex.refl _, en.up g1.kept, fun ov G2 H2 g2 r2 => ⟨H2, Ex.refl _, (en.up g1.kept).up g2.kept, fun iv G3 H3 g3 r3 => ?_⟩⟩⟩
    have r1 : x = v := r1
    have r2 : ov = .ref (sel F) := r2
    have r3 : iv = .int (k : Int) := r3
    subst r1 r2 r3
    have en3 := ((en.up g1.kept).up g2.kept).up g3.kept
    match σ, en3 with
    | y :: σ', en3 =>
      obtain ⟨⟨z, hz, hn⟩, er⟩ := en3
      obtain ⟨m, xs, hx, hk, hN⟩ := hu F H3 hn.2
      exact ⟨sel F, xs, (k : Int), k, rfl, rfl, hx, ix_self hk, q _ _ F ((((kp.up g1.kept).up g2.kept).up g3.kept).put m) ⟨⟨z, hz, hn.1, hN⟩, pu F _ _ _ er⟩⟩⟩
end
end OQ
/-! a net that is changed: the changes -/
namespace OQ
open PySem PySem.Spec PyProof.Rows L2
open Lrx1 (Fraction zero one)
open Lrx4 (Network Station stationCount placeCount places stationOf place placesOf getStation arrival service)
section
variable {C : Addr} {H : Hp} {a : Addr} {net : Network} {F : Foot} {p : Addr} {o : HO}
abbrev lof (F : Foot) : List Addr := [F.k, F.s, F.m, F.r, F.l, F.w] ++ F.rows
theorem away {i j : Nat} {q : Addr} (h : (lof F).Nodup) (hi : (lof F)[i]? = some p) (hj : (lof F)[j]? = some q) (hij : j ≠ i) : upd H p o q = H q := by
  refine upd_ne fun e => hij ?_
  subst e
  have hl : j < (lof F).length := (List.getElem?_eq_some_iff.mp hj).1
  exact (List.getElem?_inj hl h).mp (hj.trans hi.symm)
theorem row_at {i : Nat} {q : Addr} (h : F.rows[i]? = some q) : (lof F)[6 + i]? = some q := by
  show ([F.k, F.s, F.m, F.r, F.l, F.w] ++ F.rows)[6 + i]? = some q
  rw [List.getElem?_append_right (by show 6 ≤ 6 + i; omega)]
  show F.rows[6 + i - 6]? = some q
  rw [Nat.add_sub_cancel_left]
  exact h
theorem obj_away (h : NetAt C H a net F) {xs : List V} (hp : H p = some (.lst xs)) : upd H p o a = H a := by
  refine upd_ne fun e => ?_
  have := h.obj
  rw [e, hp] at this
  cases this
theorem zl_len (l : List Nat) : (zl l).length = l.length := List.length_map _
theorem zl_set (l : List Nat) (i n : Nat) : zl (l.set i n) = (zl l).set i (.int (n : Int)) := by
  unfold zl
  rw [List.map_set]
theorem kinds_set (l : List Station) (i k s : Nat) : (l.set i ⟨k, s⟩).map (·.kind) = (l.map (·.kind)).set i k := by rw [List.map_set]
theorem servers_set (l : List Station) (i k s : Nat) : (l.set i ⟨k, s⟩).map (·.servers) = (l.map (·.servers)).set i s := by rw [List.map_set]
theorem set_same {l : List Nat} {i d : Nat} (h : i < l.length) : l.set i (l.getD i d) = l := by
  rw [List.getD_eq_getElem?_getD, List.getElem?_eq_getElem h]
  exact List.set_getElem_self h
theorem nF_len {n1 n2 : Network} (h1 : stationCount n1 = stationCount n2) (h2 : n1.classCount = n2.classCount) : nF n1 F = nF n2 F := by
  unfold nF
  rw [h1, h2]
def netK (net : Network) (i k : Nat) : Network := { net with stations := net.stations.set i ⟨k, (getStation net i).servers⟩ }
def netS (net : Network) (i s : Nat) : Network := { net with stations := net.stations.set i ⟨(getStation net i).kind, s⟩ }
def netM (net : Network) (p m : Nat) : Network := { net with services := net.services.set p m }
def netR (net : Network) (p m : Nat) : Network := { net with arrivals := net.arrivals.set p m }
def netL (net : Network) (p m : Nat) : Network := { net with leaving := net.leaving.set p m }
def netW (net : Network) (p q m : Nat) : Network := { net with routes := net.routes.set p ((net.routes.getD p []).set q m) }
theorem getD_self {l : List (List Nat)} {i : Nat} {y : List Nat} (h : i < l.length) : (l.set i y).getD i [] = y := by
  rw [List.getD_eq_getElem?_getD, List.getElem?_set_self h]
  rfl
theorem getD_other {l : List (List Nat)} {i j : Nat} {y : List Nat} (h : i ≠ j) : (l.set i y).getD j [] = l.getD j [] := by
  rw [List.getD_eq_getElem?_getD, List.getD_eq_getElem?_getD, List.getElem?_set_ne h]
theorem at_k (h : NetAt C H a net F) {i : Nat} (hi : i < stationCount net) (k : Nat) : NetAt C (upd H F.k (.lst ((zl (net.stations.map (·.kind))).set i (.int (k : Int))))) a (netK net i k) F := by
  have nd := h.nd
  have l1 : (net.stations.map (·.servers)).length = stationCount net := List.length_map _
  refine ⟨?_, ?_, ?_, ?_, ?_, ?_, ?_, h.rl, fun j q hq => ?_, nd⟩
  · rw [obj_away h h.k, h.obj, nF_len (n1 := netK net i k) (n2 := net) (List.length_set ..) rfl]
  · rw [upd_same, ← zl_set, ← kinds_set]
    rfl
  · rw [away (i := 0) (j := 1) nd rfl rfl (by decide), h.s]
    show _ = some (HO.lst (zl ((net.stations.set i ⟨k, (getStation net i).servers⟩).map (·.servers))))
    rw [servers_set, ← servers_at, set_same (by rw [l1]; exact hi)]
  · exact (away (i := 0) (j := 2) nd rfl rfl (by decide)).trans h.m
  · exact (away (i := 0) (j := 3) nd rfl rfl (by decide)).trans h.r
  · exact (away (i := 0) (j := 4) nd rfl rfl (by decide)).trans h.l
  · exact (away (i := 0) (j := 5) nd rfl rfl (by decide)).trans h.w
  · exact (away (i := 0) nd rfl (row_at hq) (by omega)).trans (h.rw j q hq)
theorem at_s (h : NetAt C H a net F) {i : Nat} (hi : i < stationCount net) (k : Nat) : NetAt C (upd H F.s (.lst ((zl (net.stations.map (·.servers))).set i (.int (k : Int))))) a (netS net i k) F := by
  have nd := h.nd
  have l1 : (net.stations.map (·.kind)).length = stationCount net := List.length_map _
  refine ⟨?_, ?_, ?_, ?_, ?_, ?_, ?_, h.rl, fun j q hq => ?_, nd⟩
  · rw [obj_away h h.s, h.obj, nF_len (n1 := netS net i k) (n2 := net) (List.length_set ..) rfl]
  · rw [away (i := 1) (j := 0) nd rfl rfl (by decide), h.k]
    show _ = some (HO.lst (zl ((net.stations.set i ⟨(getStation net i).kind, k⟩).map (·.kind))))
    rw [kinds_set, ← kinds_at, set_same (by rw [l1]; exact hi)]
  · rw [upd_same, ← zl_set, ← servers_set]
    rfl
  · exact (away (i := 1) (j := 2) nd rfl rfl (by decide)).trans h.m
  · exact (away (i := 1) (j := 3) nd rfl rfl (by decide)).trans h.r
  · exact (away (i := 1) (j := 4) nd rfl rfl (by decide)).trans h.l
  · exact (away (i := 1) (j := 5) nd rfl rfl (by decide)).trans h.w
  · exact (away (i := 1) nd rfl (row_at hq) (by omega)).trans (h.rw j q hq)
theorem at_m (h : NetAt C H a net F) (i k : Nat) : NetAt C (upd H F.m (.lst ((zl net.services).set i (.int (k : Int))))) a (netM net i k) F := by
  have nd := h.nd
  refine ⟨?_, ?_, ?_, ?_, ?_, ?_, ?_, h.rl, fun j q hq => ?_, nd⟩
  · exact (obj_away h h.m).trans h.obj
  · exact (away (i := 2) (j := 0) nd rfl rfl (by decide)).trans h.k
  · exact (away (i := 2) (j := 1) nd rfl rfl (by decide)).trans h.s
  · rw [upd_same, ← zl_set]
    rfl
  · exact (away (i := 2) (j := 3) nd rfl rfl (by decide)).trans h.r
  · exact (away (i := 2) (j := 4) nd rfl rfl (by decide)).trans h.l
  · exact (away (i := 2) (j := 5) nd rfl rfl (by decide)).trans h.w
  · exact (away (i := 2) nd rfl (row_at hq) (by omega)).trans (h.rw j q hq)
theorem at_r (h : NetAt C H a net F) (i k : Nat) : NetAt C (upd H F.r (.lst ((zl net.arrivals).set i (.int (k : Int))))) a (netR net i k) F := by
  have nd := h.nd
  refine ⟨?_, ?_, ?_, ?_, ?_, ?_, ?_, h.rl, fun j q hq => ?_, nd⟩
  · exact (obj_away h h.r).trans h.obj
  · exact (away (i := 3) (j := 0) nd rfl rfl (by decide)).trans h.k
  · exact (away (i := 3) (j := 1) nd rfl rfl (by decide)).trans h.s
  · exact (away (i := 3) (j := 2) nd rfl rfl (by decide)).trans h.m
  · rw [upd_same, ← zl_set]
    rfl
  · exact (away (i := 3) (j := 4) nd rfl rfl (by decide)).trans h.l
  · exact (away (i := 3) (j := 5) nd rfl rfl (by decide)).trans h.w
  · exact (away (i := 3) nd rfl (row_at hq) (by omega)).trans (h.rw j q hq)
theorem at_l (h : NetAt C H a net F) (i k : Nat) : NetAt C (upd H F.l (.lst ((zl net.leaving).set i (.int (k : Int))))) a (netL net i k) F := by
  have nd := h.nd
  refine ⟨?_, ?_, ?_, ?_, ?_, ?_, ?_, h.rl, fun j q hq => ?_, nd⟩
  · exact (obj_away h h.l).trans h.obj
  · exact (away (i := 4) (j := 0) nd rfl rfl (by decide)).trans h.k
  · exact (away (i := 4) (j := 1) nd rfl rfl (by decide)).trans h.s
  · exact (away (i := 4) (j := 2) nd rfl rfl (by decide)).trans h.m
  · exact (away (i := 4) (j := 3) nd rfl rfl (by decide)).trans h.r
  · rw [upd_same, ← zl_set]
    rfl
  · exact (away (i := 4) (j := 5) nd rfl rfl (by decide)).trans h.w
  · exact (away (i := 4) nd rfl (row_at hq) (by omega)).trans (h.rw j q hq)
theorem at_w (h : NetAt C H a net F) {i : Nat} {p : Addr} (hp : F.rows[i]? = some p) (j k : Nat) : NetAt C (upd H p (.lst ((zl (net.routes.getD i [])).set j (.int (k : Int))))) a (netW net i j k) F := by
  have nd := h.nd
  have ip := row_at hp
  have il : i < net.routes.length := by
    have := (List.getElem?_eq_some_iff.mp hp).1
    rw [h.rl] at this
    exact this
  refine ⟨?_, ?_, ?_, ?_, ?_, ?_, ?_, ?_, fun b q hq => ?_, nd⟩
  · exact (obj_away h (h.rw i p hp)).trans h.obj
  · exact (away (i := 6 + i) (j := 0) nd ip rfl (by omega)).trans h.k
  · exact (away (i := 6 + i) (j := 1) nd ip rfl (by omega)).trans h.s
  · exact (away (i := 6 + i) (j := 2) nd ip rfl (by omega)).trans h.m
  · exact (away (i := 6 + i) (j := 3) nd ip rfl (by omega)).trans h.r
  · exact (away (i := 6 + i) (j := 4) nd ip rfl (by omega)).trans h.l
  · exact (away (i := 6 + i) (j := 5) nd ip rfl (by omega)).trans h.w
  · show F.rows.length = (net.routes.set i _).length
    rw [List.length_set]
    exact h.rl
  · show _ = some (HO.lst (zl ((net.routes.set i ((net.routes.getD i []).set j k)).getD b [])))
    by_cases e : b = i
    · subst e
      rw [hp] at hq
      cases hq
      rw [upd_same, ← zl_set, getD_self il]
    · rw [away (i := 6 + i) nd ip (row_at hq) (by omega), h.rw b q hq, getD_other (fun z => e z.symm)]
/-- a new list at an attribute -/
def netRl (net : Network) (l : List Nat) : Network := { net with arrivals := l }
theorem nodup_set {L : List Addr} (h : L.Nodup) {i : Nat} {p : Addr} (hp : p ∉ L) : (L.set i p).Nodup := by
  induction L generalizing i with
  | nil => exact h
  | cons b L ih =>
    obtain ⟨h1, h2⟩ := List.nodup_cons.mp h
    cases i with
    | zero => exact List.nodup_cons.mpr ⟨fun m => hp (List.mem_cons_of_mem _ m), h2⟩
    | succ i =>
      refine List.nodup_cons.mpr ⟨fun m => ?_, ih h2 fun m => hp (List.mem_cons_of_mem _ m)⟩
      rcases List.mem_or_eq_of_mem_set m with z | z
      · exact h1 z
      · exact hp (by rw [z]; exact List.mem_cons_self)
end
end OQ
/-! new lists of a net; promises of those who change it -/
namespace OQ
open PySem PySem.Spec PyProof.Rows L2
open Lrx1 (Fraction zero one)
open Lrx4 (Network Station stationCount placeCount places stationOf place placesOf getStation arrival service)
/-! ### a list that is new -/
def tXF (Γ : Ctx) (rs : List Rp) : TE := fun σ H Q => ∃ G, Ex G H ∧ En Γ σ G ∧ ∀ p vs G' H', Gr G H G' H' → H p = none → G' p = some (.lst vs) → All rs vs G' → Q (.ref p) H'
abbrev XF (X : Cx) (e : Expr) (Γ : Ctx) (rs : List Rp) : Prop := PE X e (tXF Γ rs)
theorem lc_fresh {K : PySem.W.Frag} {Γ : Ctx} {own : List (Str × Nat)} {n : Nat} {B : Nat → Itm} {is : List Nat} {g : TG} {Γi : Nat → Ctx} (xs : Nat → Rp) (hsh : TgSh K is g) (hΓ : ∀ i, i < n → (B i).into is (wipeG Γ is) = some (Γi i)) (hn : n ≤ 1000) (hio : is = own.map (·.2))
    {σ : St} {H : Hp} {Q : VK} (h : tXF Γ ((List.range n).map xs) σ H Q) : tLc (tXI Γ n B) g tYes (fun σ H Q => ∃ i, i < n ∧ tX (Γi i) (xs i) σ H Q) (own.map (·.2)) σ H Q := by
    obtain ⟨G, ex, en, q⟩ := h
    refine ⟨G, ex, en, fun J G1 H1 g1 wk D hD => ?_⟩
    refine lc_it (g := g) (tt := tYes) (te := fun σ H Q => ∃ i, i < n ∧ tX (Γi i) (xs i) σ H Q) (vs := own.map (·.2)) (σ := σ) (Qd := fun Hc => Q (.ref D) Hc) wk (fun i Hc => ∃ Gc vs, Ex G1 Gc ∧ Ex Gc Hc ∧ Gc D = none ∧ (∀ b o, Gc b = some o → G1 b = some o ∨ H1 b = none) ∧ Ex H1 Hc ∧ Hc D = some (.lst vs) ∧ All ((List.range i).map xs) vs Gc)
      ⟨G1, [], Ex.refl _, g1.sub.trans (Ex.new hD), g1.sub.free hD, fun b o h => .inl h, Ex.new hD, upd_same, trivial⟩
      (fun i Hc _ ⟨Gc, vs, h1, h2, _⟩ => h1.trans h2) ?_ ?_
    · rintro i x Hc Hc' hlt ⟨Gc, vs, h1, h2, h3, h4, h5, h6, h7⟩ yi
      have en2 : En (wipeG Γ is) (L2.wipe σ (own.map (·.2))) G1 := by
        rw [← hio]
        exact (en.up g1.old).wipe is
      refine hsh.store (hΓ i hlt) yi (h1.trans h2) en2 fun σ' en3 wp e2 => ?_
      refine ⟨?_, ?_⟩
      · rw [← hio]
        exact wp σ (by rw [hio])
      · show ∃ i, i < n ∧ tX (Γi i) (xs i) σ' Hc' _
        refine ⟨i, hlt, Gc, h2.trans e2, en3.up h1, fun v G2 H2 g2 r2 => ⟨vs, ?_, ?_, ?_⟩⟩
        · exact g2.kept _ _ (e2 _ _ h6)
        · rw [h7.len, List.length_map, List.length_range]
          exact Nat.lt_of_lt_of_le hlt (Nat.le_trans hn (by decide))
        · have hD2 : G2 D = none := by
            cases z : G2 D with
            | none => rfl
            | some o =>
              rcases g2.new D o z with y | y
              · rw [h3] at y; cases y
              · rw [e2 _ _ h6] at y; cases y
          refine ⟨G2, vs ++ [v], h1.trans g2.old, ?_, hD2, fun b o hb => ?_, ?_, upd_same, ?_⟩
          · intro b o hb
            rw [upd_ne (ne_of_none hb hD2)]
            exact g2.sub _ _ hb
          · rcases g2.new b o hb with y | y
            · exact h4 b o y
            · exact .inr (h5.free (e2.free y))
          · intro b o hb
            rw [upd_ne (ne_of_none hb hD)]
            exact g2.kept _ _ (e2 _ _ (h5 _ _ hb))
          · rw [List.range_succ, List.map_append]
            exact (h7.up g2.old).snoc r2
    · rintro Hc ⟨Gc, vs, h1, h2, h3, h4, h5, h6, h7⟩
      refine q D vs (upd Gc D (.lst vs)) Hc (g1.trans ⟨?_, h1.trans (Ex.new h3), h5, fun b o hb => ?_⟩) (g1.kept.free hD) upd_same (h7.up (Ex.new h3))
      · intro b o hb
        by_cases z : b = D
        · subst z
          rw [upd_same] at hb
          rw [h6]
          exact hb
        · rw [upd_ne z] at hb
          exact h2 _ _ hb
      · by_cases z : b = D
        · subst z
          exact .inr hD
        · rw [upd_ne z] at hb
          exact h4 b o hb
section
variable {X : Cx} {Γ : Ctx} {a b e : Expr} {pos : Pos} {R : Rp}
theorem f_rep {n : Nat} (ha : XE X a Γ (rL [R])) (hb : XE X b Γ (rZ (n : Int))) (hl : n ≤ 1000) : XF X (.BinOp a .Mult b pos) Γ (List.replicate n R) :=
  PE.of (pe_op op_rep ha hb) fun σ H Q ⟨G, e, en, q⟩ => ⟨G, e, en, fun v G1 H1 g1 r1 => ⟨G1, g1.sub, en.up g1.old, fun w G2 H2 g2 k1 => by
    obtain ⟨p, vs, h1, h2, h3⟩ := (rL [R]).up g2.old r1
    match vs, h3 with
    | [u], ⟨hu, _⟩ =>
      refine ⟨p, n, [u], h1, k1, g2.sub _ _ h2, by omega, by omega, ?_, fun y hy => ?_⟩
      · show 1 * ((n : Int)).toNat ≤ sizeLine
        rw [Int.toNat_natCast, Nat.one_mul]
        exact Nat.le_trans hl (by decide)
      · rw [Int.toNat_natCast, flat_rep]
        have gg := (g1.trans g2).trans (Gr.make (o := .lst (List.replicate n u)) g2.sub hy)
        exact q y (List.replicate n u) (upd G2 y (.lst (List.replicate n u))) _ gg ((g1.kept.trans g2.kept).free hy) upd_same (all_rep (R.up (Ex.new (g2.sub.free hy)) hu) n)⟩⟩
theorem f_lc {tg iter elt : Expr} {scope : Scope} {own : List (Str × Nat)} {n : Nat} {B : Nat → Itm} {is : List Nat} {g : TG} (xs : Nat → Rp) (hN : X.N.Nodup) (hi : XI X tg iter Γ n B) (ok : BlkOk X.N X.env.scope scope own) (hio : is = own.map (·.2))
    (hsh : TgSh X.K is g) (hg : ∀ (s : Shared) (H : Hp) (C : Addr) (cl : List (Str × Addr)) (fp : List Addr), PG (X.blk s H scope (compEnvC scope cl C X.env) fp) tg g)
    (he : ∀ (s : Shared) (H : Hp) (C : Addr) (cl : List (Str × Addr)) (fp : List Addr) (i : Nat), i < n → XE (X.blk s H scope (compEnvC scope cl C X.env) fp) elt ((B i).put is (wipeG Γ is)) (xs i)) (hn : n ≤ 1000 := by omega) (hf : ∀ i, (B i).fits is = true := by intro _; rfl)
    (hc : X.calm = true := by rfl) (hs : ∀ x, foldedSetIterable iter X.env x = pure x := by intro _; rfl) : XF X (.ListComp elt [⟨tg, iter, [], 0⟩] scope pos) Γ ((List.range n).map xs) := by
  let te : TE := fun σ H Q => ∃ i, i < n ∧ tX ((B i).put is (wipeG Γ is)) (xs i) σ H Q
  refine PE.of (pe_lc (te := te) hc hN hi ok hg (fun _ _ _ _ _ => pts_nil) (fun s H C cl fp => ⟨fun pins s' σ H' Q I h => ?_⟩) hs) fun σ H Q h => lc_fresh (Γi := fun i => (B i).put is (wipeG Γ is)) xs hsh (fun i _ => into_put (hf i)) hn hio h
  obtain ⟨i, hi', h⟩ := h
  exact (he s H C cl fp i hi').run pins s' σ H' Q I h
theorem f_eq {rs rs' : List Rp} (h : XF X e Γ rs) (w : rs = rs') : XF X e Γ rs' := w ▸ h
end
/-! ### what the net's object says -/
section
variable {X : Cx} {Γ : Ctx} {e : Expr} {pos : Pos} {a : Addr} {F : Foot} {net : Network} {f : Str} {v : V}
theorem x_rA (h : XE X e Γ (rA a F net)) : XE X e Γ (rN net) := x_imp h rA_N
theorem x_fA (c : Cls X.K a_Net) (hn : NoAttr X.K a_Net f) (h : XE X e Γ (rA a F net)) (hl : (nF net F).lookup f = some v) (hb : attributeBase e f X.env (eval e X.env) = eval e X.env := by rfl) : XE X (.Attribute e f pos) Γ (rV v) :=
  PE.of (pe_fld h hb) fun _ _ _ ⟨G, ex, en, q⟩ => ⟨G, ex, en, fun v' G1 H1 g1 ⟨h1, h2⟩ => ⟨a, a_Net, F.dx, _, v, h1, g1.sub _ _ h2.obj, c, hn, hl, q v G1 H1 g1 rfl⟩⟩
/-- a list of ints that stands at a known place -/
def rAtL (q : Addr) (l : List Nat) : Rp := ⟨fun v H => v = .ref q ∧ H q = some (.lst (zl l)), fun e ⟨h1, h2⟩ => ⟨h1, e _ _ h2⟩⟩
theorem rAtL_N {q : Addr} {l : List Nat} : ∀ v G, (rAtL q l).r v G → (rLN l).r v G := fun v G ⟨h1, h2⟩ => ⟨q, zl l, h1, h2, zl_all l G⟩
theorem rAtL_V {q : Addr} {l : List Nat} : ∀ v G, (rAtL q l).r v G → (rV (.ref q)).r v G := fun v G h => h.1
theorem x_rowA {b : Expr} {p1 p2 : Pos} {i : Nat} (T : Tx X.K X.mg) (hi : i < placeCount net) (ok : net.routes.length = placeCount net) (h : XE X e Γ (rA a F net)) (hb : XE X b Γ (rZ (i : Int))) (hba : attributeBase e "weights" X.env (eval e X.env) = eval e X.env := by rfl) (hs : PlainIx b := by exact fun _ _ => rfl) :
    XE X (.Subscript (.Attribute e "weights" p1) b p2) Γ (rAtL (F.rows.getD i 0) (net.routes.getD i [])) := by
  let Rw : Rp := ⟨fun v H => v = .ref F.w ∧ NetAt a_Net H a net F, fun e ⟨h1, h2⟩ => ⟨h1, h2.up e⟩⟩
  have h1 : XE X (.Attribute e "weights" p1) Γ Rw := PE.of (pe_fld h hba) fun _ _ _ ⟨G, ex, en, q⟩ => ⟨G, ex, en, fun v' G1 H1 g1 ⟨h1, h2⟩ => ⟨a, a_Net, F.dx, _, .ref F.w, h1, g1.sub _ _ h2.obj, T.cl, T.no "weights" (by decide +kernel), lk_weights net F, q _ G1 H1 g1 ⟨rfl, h2⟩⟩⟩
  refine PE.of (pe_ix ix_list h1 hb hs) fun _ _ _ ⟨G, e, en, k⟩ => ⟨G, e, en, fun v G1 H1 g1 ⟨r0, r1⟩ => ⟨G1, g1.sub, en.up g1.old, fun w G2 H2 g2 r2 => ?_⟩⟩
  have r3 := r1.up g2.old
  have hl : i < F.rows.length := by rw [r1.rl, ok]; exact hi
  have hq : F.rows[i]? = some (F.rows.getD i 0) := by rw [List.getD_eq_getElem?_getD, List.getElem?_eq_getElem hl]; rfl
  exact ⟨F.w, _, (i : Int), .ref (F.rows.getD i 0), r0, r2, SqL.of (g2.sub _ _ r3.w), atI_nat (by rw [List.getElem?_map, hq]; rfl), k _ G2 H2 (g1.trans g2) ⟨rfl, r3.rw i _ hq⟩⟩
end
theorem ft_some {H : Hp} {a : Addr} {net : Network} {F : Foot} (h : NetAt a_Net H a net F) : ∀ b ∈ ft a F, ∃ o, H b = some o := fun b hb => by
  unfold ft at hb
  simp only [List.mem_cons, List.cons_append, List.nil_append] at hb
  rcases hb with e | e | e | e | e | e | e | m
  · exact ⟨_, e ▸ h.obj⟩
  · exact ⟨_, e ▸ h.k⟩
  · exact ⟨_, e ▸ h.s⟩
  · exact ⟨_, e ▸ h.m⟩
  · exact ⟨_, e ▸ h.r⟩
  · exact ⟨_, e ▸ h.l⟩
  · exact ⟨_, e ▸ h.w⟩
  · obtain ⟨i, hi, e⟩ := List.mem_iff_getElem.mp m
    exact ⟨_, h.rw i b (by rw [List.getElem?_eq_getElem hi, e])⟩
theorem ft_new {H : Hp} {a : Addr} {net : Network} {F : Foot} (h : NetAt a_Net H a net F) {p : Addr} (hp : H p = none) : p ∉ ft a F := fun m => by
  obtain ⟨o, e⟩ := ft_some h p m
  rw [hp] at e
  cases e
theorem zeros_zl : ∀ (n : Nat) {vs : List V} {H : Hp}, All (List.replicate n (rZ 0)) vs H → vs = zl (List.replicate n 0)
  | 0, [], _, _ => rfl
  | n + 1, v :: vs, _, h => by
    have e : v = .int 0 := h.1
    rw [e, zeros_zl n (vs := vs) h.2]
    rfl
  | 0, _ :: _, _, h => h.elim
  | n + 1, [], _, h => h.elim
/-! ### new lists into the net -/
section
variable {X : Cx} {a : Addr} {F0 : Foot} {H0 : Hp} {e o ix : Expr} {pos p : Pos} {net : Network}
/-- net.arrivals = a new list -/
theorem m_newR {l : List Nat} (Γr : Ctx) (c : Cls X.K a_Net) (hn : NoAttr X.K a_Net "arrivals") (ho : ∀ F, XE X o (some (rA a F net) :: Γr) (rA a F net)) (he : ∀ F, XF X e (some (rA a F net) :: Γr) (l.map fun (n : Nat) => rV (.int (n : Int)))) (pu : Pure Γr)
    (hs : swapsWith e (some (.Attribute o "arrivals" p)) pos.line X.env = pure false := by rfl) : MS X a F0 H0 (.Assign [.Attribute o "arrivals" p] e pos) (fun F => some (rA a F net) :: Γr) (fun F => some (rA a F (netRl net l)) :: Γr) :=
  ⟨fun pins s σ H D I ⟨F, kp, en, q⟩ => by
    refine (ps_fld (pos := pos) (ho F) (he F) hs).run pins s σ H D I ?_
    refine ⟨H, Ex.refl _, en, fun b vs G1 H1 g1 hb h1 h2 => ⟨H1, Ex.refl _, en.up g1.kept, fun v G2 H2 g2 r2 => ?_⟩⟩
    obtain ⟨r2, r3⟩ := r2
    have hN := r3.up g2.sub
    have en2 := (en.up g1.kept).up g2.kept
    have nf : NetAt a_Net H a net F := by
      match σ, en with
      | y :: σ', en =>
        obtain ⟨⟨z, _, hz⟩, _⟩ := en
        exact hz.2
    have nb := ft_new nf hb
    have hv := all_vals (f := fun (n : Nat) => V.int (n : Int)) h2
    subst hv
    have hb2 : H2 b = some (.lst (zl l)) := g2.kept _ _ (g1.sub _ _ h1)
    have ne : b ≠ a := fun z => nb (by rw [z]; exact List.mem_cons_self)
    refine ⟨a, a_Net, F.dx, _, r2, hN.obj, c, hn, by show 8 < 1000; decide, q σ _ { F with r := b } ⟨fun x u hx hh => ?_, fun x hx => ?_⟩ ?_⟩
    · have k1 := ((kp.up g1.kept).up g2.kept).keep x u hx hh
      by_cases z : x = a
      · subst z
        rcases kp.foot x List.mem_cons_self with y | y
        · exact absurd y hx
        · rw [y] at hh; cases hh
      · rw [upd_ne z]
        exact k1
    · by_cases z : x = b
      · subst z
        exact kp.free hb
      · refine kp.foot x ?_
        unfold ft at hx ⊢
        simp only [List.mem_cons, List.cons_append, List.nil_append] at hx ⊢
        rcases hx with y | y | y | y | y | y | y | y
        · exact .inl y
        · exact .inr (.inl y)
        · exact .inr (.inr (.inl y))
        · exact .inr (.inr (.inr (.inl y)))
        · exact absurd y z
        · exact .inr (.inr (.inr (.inr (.inr (.inl y)))))
        · exact .inr (.inr (.inr (.inr (.inr (.inr (.inl y))))))
        · exact .inr (.inr (.inr (.inr (.inr (.inr (.inr y))))))
    · have na : ∀ x xs, H2 x = some (.lst xs) → upd H2 a (.ins a_Net F.dx (putF "arrivals" (.ref b) (nF net F))) x = some (.lst xs) := fun x xs hx => by
        rw [upd_ne fun z => ?_]
        · exact hx
        · rw [z, hN.obj] at hx
          cases hx
      match σ, en2 with
      | y :: σ', en2 =>
        obtain ⟨⟨z, hz, hn'⟩, er⟩ := en2
        refine ⟨⟨z, hz, hn'.1, ?_⟩, pu _ _ _ er⟩
        refine ⟨?_, na _ _ hN.k, na _ _ hN.s, na _ _ hN.m, na _ _ hb2, na _ _ hN.l, na _ _ hN.w, hN.rl, fun i x hx => na _ _ (hN.rw i x hx), ?_⟩
        · rw [upd_same]
          rfl
        · have m : b ∉ lof F := fun z => nb (List.mem_cons_of_mem _ z)
          have := nodup_set hN.nd (i := 3) m
          exact this⟩
/-- net.weights[i] = a new list of 0 -/
theorem m_newW {i n : Nat} (Γr : Ctx) (hi : i < F0.rows.length → True) (ho : ∀ F, XE X o (some (rA a F net) :: Γr) (rV (.ref F.w))) (hx : ∀ F, XE X ix (some (rA a F net) :: Γr) (rZ (i : Int))) (he : ∀ F, XF X e (some (rA a F net) :: Γr) (List.replicate n (rZ 0))) (pu : Pure Γr) (hl : i < net.routes.length)
    (ha : ∀ v, assign (.Subscript o ix p) X.env v = (do
      let ov ← holding [v] (eval o X.env)
      let iv ← holding [v, ov] (eval ix X.env)
      standAt p
      holding [v, ov, iv] (setItem ov iv v)
      release [v, ov, iv] []) := by intro _; rfl)
    (hs : swapsWithSole [.Subscript o ix p] e pos.line X.env = pure false := by rfl) (hw : swappedStores [.Subscript o ix p] e X.env = pure none := by rfl)
    (h1 : (assignEach [.Subscript o ix p] X.env).map (·.2) = [assign (.Subscript o ix p) X.env] := by rfl) : MS X a F0 H0 (.Assign [.Subscript o ix p] e pos) (fun F => some (rA a F net) :: Γr) (fun F => some (rA a F { net with routes := net.routes.set i (List.replicate n 0) }) :: Γr) :=
  ⟨fun pins s σ H D I ⟨F, kp, en, q⟩ => by
    refine (ps_asg (pos := pos) (he F) (pg_sub (pos := p) (ho F) (hx F) set_list ha) hs hw h1).run pins s σ H D I ?_
    refine ⟨H, Ex.refl _, en, fun b vs G1 H1 g1 hb k1 k2 => ⟨H1, Ex.refl _, en.up g1.kept, fun ov G2 H2 g2 r2 => ⟨H2, Ex.refl _, (en.up g1.kept).up g2.kept, fun iv G3 H3 g3 r3 => ?_⟩⟩⟩
    have r2 : ov = .ref F.w := r2
    have r3 : iv = .int (i : Int) := r3
    subst r2 r3
    have en3 := ((en.up g1.kept).up g2.kept).up g3.kept
    have nf : NetAt a_Net H a net F := by
      match σ, en with
      | y :: σ', en =>
        obtain ⟨⟨z, _, hz⟩, _⟩ := en
        exact hz.2
    have nb := ft_new nf hb
    have hN := ((nf.up g1.kept).up g2.kept).up g3.kept
    have hv := zeros_zl n k2
    subst hv
    have hb2 : H3 b = some (.lst (zl (List.replicate n 0))) := g3.kept _ _ (g2.kept _ _ (g1.sub _ _ k1))
    have m : b ∉ lof F := fun z => nb (List.mem_cons_of_mem _ z)
    have il : i < F.rows.length := by rw [hN.rl]; exact hl
    refine ⟨F.w, _, (i : Int), i, rfl, rfl, hN.w, ix_self (by rw [List.length_map]; exact il), q σ _ { F with rows := F.rows.set i b } ⟨fun x u hx hh => ?_, fun x hx => ?_⟩ ?_⟩
    · have z1 := (((kp.up g1.kept).up g2.kept).up g3.kept).keep x u hx hh
      by_cases z : x = F.w
      · subst z
        rcases kp.foot F.w (by unfold ft; simp) with y | y
        · exact absurd y hx
        · rw [y] at hh; cases hh
      · rw [upd_ne z]
        exact z1
    · by_cases z : x = b
      · subst z
        exact kp.free hb
      · refine kp.foot x ?_
        unfold ft at hx ⊢
        rcases List.mem_cons.mp hx with y | y
        · exact List.mem_cons.mpr (.inl y)
        · refine List.mem_cons_of_mem _ ?_
          rcases List.mem_append.mp y with y | y
          · exact List.mem_append_left _ y
          · refine List.mem_append_right _ ?_
            rcases List.mem_or_eq_of_mem_set y with w | w
            · exact w
            · exact absurd w z
    · have na : ∀ x o, x ≠ F.w → H3 x = some o → upd H3 F.w (.lst ((F.rows.map V.ref).set i (.ref b))) x = some o := fun x o hx h => by
        rw [upd_ne hx]
        exact h
      have nd := hN.nd
      have dif : ∀ {j x}, (lof F)[j]? = some x → j ≠ 5 → x ≠ F.w := fun {j x} hj hne e => by
        subst e
        have hl : j < (lof F).length := (List.getElem?_eq_some_iff.mp hj).1
        exact hne ((List.getElem?_inj hl nd).mp (hj.trans (rfl : (lof F)[5]? = some F.w).symm))
      match σ, en3 with
      | y :: σ', en3 =>
        obtain ⟨⟨z, hz, hn'⟩, er⟩ := en3
        refine ⟨⟨z, hz, hn'.1, ?_⟩, pu _ _ _ er⟩
        refine ⟨na _ _ (fun e => ?_) hN.obj, na _ _ (dif (j := 0) rfl (by decide)) hN.k, na _ _ (dif (j := 1) rfl (by decide)) hN.s, na _ _ (dif (j := 2) rfl (by decide)) hN.m, na _ _ (dif (j := 3) rfl (by decide)) hN.r, na _ _ (dif (j := 4) rfl (by decide)) hN.l, ?_, ?_, fun j x hx => ?_, ?_⟩
        · have := hN.w
          rw [← e, hN.obj] at this
          cases this
        · rw [upd_same]
          show _ = some (HO.lst ((F.rows.set i b).map V.ref))
          rw [List.map_set]
        · show (F.rows.set i b).length = (net.routes.set i _).length
          rw [List.length_set, List.length_set, hN.rl]
        · show _ = some (HO.lst (zl ((net.routes.set i (List.replicate n 0)).getD j [])))
          have hx : (F.rows.set i b)[j]? = some x := hx
          by_cases e : j = i
          · subst e
            rw [List.getElem?_set_self il] at hx
            cases hx
            rw [getD_self hl]
            refine na _ _ (fun e => m ?_) hb2
            rw [e]
            show F.w ∈ [F.k, F.s, F.m, F.r, F.l, F.w] ++ F.rows
            simp
          · rw [List.getElem?_set_ne (fun w => e w.symm)] at hx
            rw [getD_other (fun w => e w.symm)]
            exact na _ _ (dif (row_at hx) (by omega)) (hN.rw j x hx)
        · have := nodup_set nd (i := 6 + i) m
          have e : (lof F).set (6 + i) b = [F.k, F.s, F.m, F.r, F.l, F.w] ++ F.rows.set i b := by
            show ([F.k, F.s, F.m, F.r, F.l, F.w] ++ F.rows).set (6 + i) b = _
            rw [List.set_append_right _ _ (by show 6 ≤ 6 + i; omega)]
            show _ ++ F.rows.set (6 + i - 6) b = _
            rw [Nat.add_sub_cancel_left]
          rw [e] at this
          exact this⟩
end
end OQ
/-! promises of those who change a net -/
namespace OQ
open PySem PySem.Spec PyProof.Rows L2
open Lrx4 (Network Station stationCount placeCount)
def spU {α : Type} (nt : α → Network) (Rs : α → List Rp) (C : α → Prop) (nt' : α → Network) (v0 : α → V) : Sp := fun vs H Q _ => ∃ x a F ws, vs = .ref a :: ws ∧ NetAt a_Net H a (nt x) F ∧ All (Rs x) ws H ∧ C x ∧ ∀ H' F', Kp a F H F' H' → NetAt a_Net H' a (nt' x) F' → Q (v0 x) H'
structure FnU (P : Program) (w : World) (K : PySem.W.Frag) (mg : Str → Option Value) (base : Heap) (x : Str) (k : Nat) {α : Type} (nt : α → Network) (Rs : α → List Rp) (C : α → Prop) (nt' : α → Network) (v0 : α → V) : Prop where
  ex : ∃ f fd ps, FnOk P w K mg base CX0 k f fd ps (spU nt Rs C nt' v0) ∧ mg x = some (.ref f) ∧ PySem.W.keepIn K (.ref f) = true ∧ Binds K fd ps []
structure FnUM (P : Program) (w : World) (K : PySem.W.Frag) (mg : Str → Option Value) (base : Heap) (m : Str) (k : Nat) {α : Type} (nt : α → Network) (Rs : α → List Rp) (C : α → Prop) (nt' : α → Network) (v0 : α → V) : Prop where
  ex : ∃ f fd ps, FnOk P w K mg base CX0 k f fd ps (spU nt Rs C nt' v0) ∧ Meth K a_Net m f ∧ Binds K fd ps []
section
variable {P : Program} {w : World} {K : PySem.W.Frag} {mg : Str → Option Value} {base : Heap} {α : Type} {nt nt' : α → Network} {Rs : α → List Rp} {C : α → Prop} {v0 : α → V}
abbrev phi (a : Addr) (N ps : List Str) (net : Network) (rs : List Rp) (F : Foot) : Ctx := some (rA a F net) :: (rs.map some ++ List.replicate (N.length - ps.length) none)
theorem phi_start {a : Addr} {F : Foot} {N ps : List Str} {net : Network} {rs : List Rp} {ws : List V} {H : Hp} (hn : NetAt a_Net H a net F) (hw : All rs ws H) (hl : rs.length + 1 = ps.length) : En (phi a N ps net rs F) (L2.start N (.ref a :: ws)) H := by
  have e : L2.start N (.ref a :: ws) = (V.ref a :: ws).map some ++ List.replicate (N.length - ps.length) none := by
    unfold L2.start
    rw [List.length_cons, hw.len, hl]
  rw [e]
  exact en_start (rs := rA a F net :: rs) (N.length - ps.length) ⟨⟨rfl, hn⟩, hw⟩
theorem u_ret {x qual : Str} {st : Stmt} {f : Addr} {fd : FuncData} {N ps : List Str} {k : Nat} (F : Fun K x qual st f fd) (S : FnScope N ps (defScope st)) (hl : ∀ x0, (Rs x0).length + 1 = ps.length)
    (body : ∀ (cdv : Value) (A : Around) (outer : List Env) (s : Shared) (H : Hp) (E : XK) (x0 : α) (a : Addr) (F0 : Foot), C x0 → Room k (cx P w K mg base N qual st f cdv A outer s H E).A → MRs (cx P w K mg base N qual st f cdv A outer s H E) a F0 H (defBody st) (phi a N ps (nt x0) (Rs x0)) (nt' x0) (v0 x0)) :
    FnOk P w K mg base CX0 (k + 1) f fd ps (spU nt Rs C nt' v0) := by
  refine F.ok S (fun vs H Q E ⟨x0, a, Ft, ws, e, _, h, _⟩ => by rw [e, List.length_cons, h.len, hl]) fun cdv A outer s H vs Q E hr ⟨x0, a, Ft, ws, e, hn, h, hc, q⟩ => ⟨_, body cdv A outer s H E x0 a Ft hc hr, Ft, Kp.refl a Ft H, ?_, q⟩
  subst e
  exact phi_start hn h (hl x0)
theorem u_void {x qual : Str} {st : Stmt} {f : Addr} {fd : FuncData} {N ps : List Str} {k : Nat} (F : Fun K x qual st f fd) (S : FnScope N ps (defScope st)) (hl : ∀ x0, (Rs x0).length + 1 = ps.length) (hv : ∀ x0, v0 x0 = .non)
    (body : ∀ (cdv : Value) (A : Around) (outer : List Env) (s : Shared) (H : Hp) (E : XK) (x0 : α) (a : Addr) (F0 : Foot), C x0 → Room k (cx P w K mg base N qual st f cdv A outer s H E).A → ∃ Γe : Ctx, MSs (cx P w K mg base N qual st f cdv A outer s H E) a F0 H (defBody st) (phi a N ps (nt x0) (Rs x0)) (fun F => some (rA a F (nt' x0)) :: Γe)) :
    FnOk P w K mg base CX0 (k + 1) f fd ps (spU nt Rs C nt' v0) := by
  refine F.ok S (fun vs H Q E ⟨x0, a, Ft, ws, e, _, h, _⟩ => by rw [e, List.length_cons, h.len, hl]) fun cdv A outer s H vs Q E hr ⟨x0, a, Ft, ws, e, hn, h, hc, q⟩ => ?_
  obtain ⟨Γe, hb⟩ := body cdv A outer s H E x0 a Ft hc hr
  refine ⟨_, hb, Ft, Kp.refl a Ft H, ?_, fun σ' H' F' k' en => ?_⟩
  · subst e
    exact phi_start hn h (hl x0)
  · match σ', en with
    | y :: σ', en =>
      obtain ⟨⟨z, _, hz⟩, _⟩ := en
      have := q H' F' k' hz.2
      rw [hv] at this
      exact this
end
/-! calls of them -/
section
variable {X : Cx} {a : Addr} {F0 : Foot} {H0 : Hp} {e o : Expr} {es : List Expr} {pos p apos cpos : Pos} {net : Network} {α : Type} {nt nt' : α → Network} {Rs : α → List Rp} {C : α → Prop} {v0 : α → V} {m x : Str} {k j : Nat} {A0 : Around}
theorem a_cons2 {Γ : Ctx} {R : Rp} {rs : List Rp} (ha : XE X e Γ R) (hr : XA X es Γ rs) (hs : starEach (e :: es) X.env = (false, eval e X.env) :: starEach es X.env := by rfl) : XA X (e :: es) Γ (R :: rs) := a_cons ha hr hs
/-- net.m(e, ..), a statement -/
theorem m_meth {pl : Sem Bool} (M : FnUM X.prog X.w X.K X.mg X.base m k nt Rs C nt' v0) (c : Cls X.K a_Net) (hr : Room j A0) (hk : k ≤ j) (Γr : Foot → Ctx) (x0 : α) (ho : ∀ F, XE X o (some (rA a F (nt x0)) :: Γr F) (rA a F (nt x0))) (ha : ∀ F, XA X (e :: es) (some (rA a F (nt x0)) :: Γr F) (Rs x0)) (hc : C x0) (pu : ∀ F, Pure (Γr F)) (hi : ∀ F F', Γr F = Γr F') (hA : X.A = A0 := by rfl)
    (hl : (["stations", "groups", "kinds", "servers", "services", "arrivals", "leaving", "weights"] : List Str).all (fun g => !(m == g)) = true := by decide +kernel)
    (hst : starEach (e :: es) X.env = (false, eval e X.env) :: starEach es X.env := by rfl) (hpl : (backTo cpos (starEach es X.env)).any (·.1) = false := by rfl)
    (ht : eval (.Call (.Attribute o m apos) (e :: es) [] cpos) X.env = (do
      let ov ← eval o X.env
      standAt apos.atName
      let (f, first) ← holding [ov] (getMethod ov m pl)
      callWith cpos f first (backTo cpos (starEach (e :: es) X.env)) (backToKw cpos (keywordEach [] X.env))) := by rfl)
    (hsw : swapsWith (.Call (.Attribute o m apos) (e :: es) [] cpos) none pos.line X.env = pure false := by rfl) :
    MS X a F0 H0 (.Expr (.Call (.Attribute o m apos) (e :: es) [] cpos) pos) (fun F => some (rA a F (nt x0)) :: Γr F) (fun F => some (rA a F (nt' x0)) :: Γr F) := by
  obtain ⟨f, fd, ps, F1, hm, hb⟩ := M.ex
  subst hA
  refine ⟨fun pins s σ H D I ⟨F, kp, en, q⟩ => ?_⟩
  refine (ps_expr (pe_meth (pl := pl) (E := E0) (ho F) c hm F1 (hr.mono hk) hb .nil pass0 (ha F) hst hpl ht) hsw).run pins s σ H D I ?_
  refine ⟨H, Ex.refl _, en, fun v G1 H1 g1 r1 => ?_⟩
  obtain ⟨r1, r2⟩ := r1
  have r3 := r2.up g1.sub
  refine ⟨a, F.dx, _, r1, r3.obj, lk_none (nt x0) F hl, H1, Ex.refl _, en.up g1.kept, fun vs G2 H2 g2 r4 => ?_⟩
  show spU nt Rs C nt' v0 (v :: (vs ++ [])) H2 _ E0
  rw [List.append_nil, r1]
  refine ⟨x0, a, F, vs, rfl, r3.up g2.kept, r4.up g2.sub, hc, fun H' F' k' hn => q σ H' F' (((kp.up g1.kept).up g2.kept).trans k') ?_⟩
  match σ, en with
  | y :: σ', en =>
    obtain ⟨⟨z, hz, hz2⟩, er⟩ := en
    refine ⟨⟨z, hz, hz2.1, hn⟩, ?_⟩
    rw [hi F' F]
    exact pu F _ _ _ er
end
end OQ
/-! how the promises of the defs that change a net are made -/
namespace OQ
open PySem PySem.Spec PyProof.Rows L2
open Lrx4 (Network)
section
variable {P : Program} {w : World} {K : PySem.W.Frag} {mg : Str → Option Value} {base : Heap} {α : Type} {nt nt' : α → Network} {Rs : α → List Rp} {C : α → Prop} {v0 : α → V}
theorem mu_Net_set_kind (T : Tx K mg) (k : Nat) (hl : ∀ x0, (Rs x0).length + 1 = 4) (hv : ∀ x0, v0 x0 = .non)
    (body : ∀ (cdv : Value) (A : Around) (outer : List Env) (s : Shared) (H : Hp) (E : XK) (x0 : α) (a : Addr) (F0 : Foot), C x0 → Room k (cx P w K mg base N_Net_set_kind "Net.set_kind" s_Net_set_kind a_Net_set_kind cdv A outer s H E).A → ∃ Γe : Ctx, MSs (cx P w K mg base N_Net_set_kind "Net.set_kind" s_Net_set_kind a_Net_set_kind cdv A outer s H E) a F0 H (defBody s_Net_set_kind) (phi a N_Net_set_kind p_Net_set_kind (nt x0) (Rs x0)) (fun F => some (rA a F (nt' x0)) :: Γe)) : FnUM P w K mg base "set_kind" (k + 1) nt Rs C nt' v0 := by
  obtain ⟨fd, F⟩ := T.fn ⟨a_Net_set_kind, "set_kind", "Net.set_kind", s_Net_set_kind⟩ (List.mem_of_getElem? (i := 22) rfl)
  exact ⟨_, fd, _, u_void F sc_Net_set_kind hl hv body, T.ms ("set_kind", a_Net_set_kind) (by decide +kernel), (F.binds (ps := p_Net_set_kind) fun _ _ _ _ _ _ us hl => match us, hl with | [_, _, _, _], _ => rfl)⟩
theorem mu_Net_set_services (T : Tx K mg) (k : Nat) (hl : ∀ x0, (Rs x0).length + 1 = 3) (hv : ∀ x0, v0 x0 = .non)
    (body : ∀ (cdv : Value) (A : Around) (outer : List Env) (s : Shared) (H : Hp) (E : XK) (x0 : α) (a : Addr) (F0 : Foot), C x0 → Room k (cx P w K mg base N_Net_set_services "Net.set_services" s_Net_set_services a_Net_set_services cdv A outer s H E).A → ∃ Γe : Ctx, MSs (cx P w K mg base N_Net_set_services "Net.set_services" s_Net_set_services a_Net_set_services cdv A outer s H E) a F0 H (defBody s_Net_set_services) (phi a N_Net_set_services p_Net_set_services (nt x0) (Rs x0)) (fun F => some (rA a F (nt' x0)) :: Γe)) : FnUM P w K mg base "set_services" (k + 1) nt Rs C nt' v0 := by
  obtain ⟨fd, F⟩ := T.fn ⟨a_Net_set_services, "set_services", "Net.set_services", s_Net_set_services⟩ (List.mem_of_getElem? (i := 23) rfl)
  exact ⟨_, fd, _, u_void F sc_Net_set_services hl hv body, T.ms ("set_services", a_Net_set_services) (by decide +kernel), (F.binds (ps := p_Net_set_services) fun _ _ _ _ _ _ us hl => match us, hl with | [_, _, _], _ => rfl)⟩
theorem mu_Net_set_service (T : Tx K mg) (k : Nat) (hl : ∀ x0, (Rs x0).length + 1 = 4) (hv : ∀ x0, v0 x0 = .non)
    (body : ∀ (cdv : Value) (A : Around) (outer : List Env) (s : Shared) (H : Hp) (E : XK) (x0 : α) (a : Addr) (F0 : Foot), C x0 → Room k (cx P w K mg base N_Net_set_service "Net.set_service" s_Net_set_service a_Net_set_service cdv A outer s H E).A → ∃ Γe : Ctx, MSs (cx P w K mg base N_Net_set_service "Net.set_service" s_Net_set_service a_Net_set_service cdv A outer s H E) a F0 H (defBody s_Net_set_service) (phi a N_Net_set_service p_Net_set_service (nt x0) (Rs x0)) (fun F => some (rA a F (nt' x0)) :: Γe)) : FnUM P w K mg base "set_service" (k + 1) nt Rs C nt' v0 := by
  obtain ⟨fd, F⟩ := T.fn ⟨a_Net_set_service, "set_service", "Net.set_service", s_Net_set_service⟩ (List.mem_of_getElem? (i := 24) rfl)
  exact ⟨_, fd, _, u_void F sc_Net_set_service hl hv body, T.ms ("set_service", a_Net_set_service) (by decide +kernel), (F.binds (ps := p_Net_set_service) fun _ _ _ _ _ _ us hl => match us, hl with | [_, _, _, _], _ => rfl)⟩
theorem mu_Net_clear (T : Tx K mg) (k : Nat) (hl : ∀ x0, (Rs x0).length + 1 = 2) (hv : ∀ x0, v0 x0 = .non)
    (body : ∀ (cdv : Value) (A : Around) (outer : List Env) (s : Shared) (H : Hp) (E : XK) (x0 : α) (a : Addr) (F0 : Foot), C x0 → Room k (cx P w K mg base N_Net_clear "Net.clear" s_Net_clear a_Net_clear cdv A outer s H E).A → ∃ Γe : Ctx, MSs (cx P w K mg base N_Net_clear "Net.clear" s_Net_clear a_Net_clear cdv A outer s H E) a F0 H (defBody s_Net_clear) (phi a N_Net_clear p_Net_clear (nt x0) (Rs x0)) (fun F => some (rA a F (nt' x0)) :: Γe)) : FnUM P w K mg base "clear" (k + 1) nt Rs C nt' v0 := by
  obtain ⟨fd, F⟩ := T.fn ⟨a_Net_clear, "clear", "Net.clear", s_Net_clear⟩ (List.mem_of_getElem? (i := 25) rfl)
  exact ⟨_, fd, _, u_void F sc_Net_clear hl hv body, T.ms ("clear", a_Net_clear) (by decide +kernel), (F.binds (ps := p_Net_clear) fun _ _ _ _ _ _ us hl => match us, hl with | [_, _], _ => rfl)⟩
theorem mu_change_station (T : Tx K mg) (k : Nat) (hl : ∀ x0, (Rs x0).length + 1 = 2)
    (body : ∀ (cdv : Value) (A : Around) (outer : List Env) (s : Shared) (H : Hp) (E : XK) (x0 : α) (a : Addr) (F0 : Foot), C x0 → Room k (cx P w K mg base N_change_station "change_station" s_change_station a_change_station cdv A outer s H E).A → MRs (cx P w K mg base N_change_station "change_station" s_change_station a_change_station cdv A outer s H E) a F0 H (defBody s_change_station) (phi a N_change_station p_change_station (nt x0) (Rs x0)) (nt' x0) (v0 x0)) : FnU P w K mg base "change_station" (k + 1) nt Rs C nt' v0 := by
  obtain ⟨fd, F⟩ := T.fn ⟨a_change_station, "change_station", "change_station", s_change_station⟩ (List.mem_of_getElem? (i := 85) rfl)
  exact ⟨_, fd, _, u_ret F sc_change_station hl body, T.refs "change_station" a_change_station (by decide +kernel), F.kp, (F.binds (ps := p_change_station) fun _ _ _ _ _ _ us hl => match us, hl with | [_, _], _ => rfl)⟩
theorem mu_change_service (T : Tx K mg) (k : Nat) (hl : ∀ x0, (Rs x0).length + 1 = 2)
    (body : ∀ (cdv : Value) (A : Around) (outer : List Env) (s : Shared) (H : Hp) (E : XK) (x0 : α) (a : Addr) (F0 : Foot), C x0 → Room k (cx P w K mg base N_change_service "change_service" s_change_service a_change_service cdv A outer s H E).A → MRs (cx P w K mg base N_change_service "change_service" s_change_service a_change_service cdv A outer s H E) a F0 H (defBody s_change_service) (phi a N_change_service p_change_service (nt x0) (Rs x0)) (nt' x0) (v0 x0)) : FnU P w K mg base "change_service" (k + 1) nt Rs C nt' v0 := by
  obtain ⟨fd, F⟩ := T.fn ⟨a_change_service, "change_service", "change_service", s_change_service⟩ (List.mem_of_getElem? (i := 86) rfl)
  exact ⟨_, fd, _, u_ret F sc_change_service hl body, T.refs "change_service" a_change_service (by decide +kernel), F.kp, (F.binds (ps := p_change_service) fun _ _ _ _ _ _ us hl => match us, hl with | [_, _], _ => rfl)⟩
theorem mu_change_arrival (T : Tx K mg) (k : Nat) (hl : ∀ x0, (Rs x0).length + 1 = 2)
    (body : ∀ (cdv : Value) (A : Around) (outer : List Env) (s : Shared) (H : Hp) (E : XK) (x0 : α) (a : Addr) (F0 : Foot), C x0 → Room k (cx P w K mg base N_change_arrival "change_arrival" s_change_arrival a_change_arrival cdv A outer s H E).A → MRs (cx P w K mg base N_change_arrival "change_arrival" s_change_arrival a_change_arrival cdv A outer s H E) a F0 H (defBody s_change_arrival) (phi a N_change_arrival p_change_arrival (nt x0) (Rs x0)) (nt' x0) (v0 x0)) : FnU P w K mg base "change_arrival" (k + 1) nt Rs C nt' v0 := by
  obtain ⟨fd, F⟩ := T.fn ⟨a_change_arrival, "change_arrival", "change_arrival", s_change_arrival⟩ (List.mem_of_getElem? (i := 87) rfl)
  exact ⟨_, fd, _, u_ret F sc_change_arrival hl body, T.refs "change_arrival" a_change_arrival (by decide +kernel), F.kp, (F.binds (ps := p_change_arrival) fun _ _ _ _ _ _ us hl => match us, hl with | [_, _], _ => rfl)⟩
theorem mu_change_route (T : Tx K mg) (k : Nat) (hl : ∀ x0, (Rs x0).length + 1 = 2)
    (body : ∀ (cdv : Value) (A : Around) (outer : List Env) (s : Shared) (H : Hp) (E : XK) (x0 : α) (a : Addr) (F0 : Foot), C x0 → Room k (cx P w K mg base N_change_route "change_route" s_change_route a_change_route cdv A outer s H E).A → MRs (cx P w K mg base N_change_route "change_route" s_change_route a_change_route cdv A outer s H E) a F0 H (defBody s_change_route) (phi a N_change_route p_change_route (nt x0) (Rs x0)) (nt' x0) (v0 x0)) : FnU P w K mg base "change_route" (k + 1) nt Rs C nt' v0 := by
  obtain ⟨fd, F⟩ := T.fn ⟨a_change_route, "change_route", "change_route", s_change_route⟩ (List.mem_of_getElem? (i := 88) rfl)
  exact ⟨_, fd, _, u_ret F sc_change_route hl body, T.refs "change_route" a_change_route (by decide +kernel), F.kp, (F.binds (ps := p_change_route) fun _ _ _ _ _ _ us hl => match us, hl with | [_, _], _ => rfl)⟩
theorem mu_change_leaving (T : Tx K mg) (k : Nat) (hl : ∀ x0, (Rs x0).length + 1 = 2)
    (body : ∀ (cdv : Value) (A : Around) (outer : List Env) (s : Shared) (H : Hp) (E : XK) (x0 : α) (a : Addr) (F0 : Foot), C x0 → Room k (cx P w K mg base N_change_leaving "change_leaving" s_change_leaving a_change_leaving cdv A outer s H E).A → MRs (cx P w K mg base N_change_leaving "change_leaving" s_change_leaving a_change_leaving cdv A outer s H E) a F0 H (defBody s_change_leaving) (phi a N_change_leaving p_change_leaving (nt x0) (Rs x0)) (nt' x0) (v0 x0)) : FnU P w K mg base "change_leaving" (k + 1) nt Rs C nt' v0 := by
  obtain ⟨fd, F⟩ := T.fn ⟨a_change_leaving, "change_leaving", "change_leaving", s_change_leaving⟩ (List.mem_of_getElem? (i := 89) rfl)
  exact ⟨_, fd, _, u_ret F sc_change_leaving hl body, T.refs "change_leaving" a_change_leaving (by decide +kernel), F.kp, (F.binds (ps := p_change_leaving) fun _ _ _ _ _ _ us hl => match us, hl with | [_, _], _ => rfl)⟩
theorem mu_clear_routes (T : Tx K mg) (k : Nat) (hl : ∀ x0, (Rs x0).length + 1 = 2)
    (body : ∀ (cdv : Value) (A : Around) (outer : List Env) (s : Shared) (H : Hp) (E : XK) (x0 : α) (a : Addr) (F0 : Foot), C x0 → Room k (cx P w K mg base N_clear_routes "clear_routes" s_clear_routes a_clear_routes cdv A outer s H E).A → MRs (cx P w K mg base N_clear_routes "clear_routes" s_clear_routes a_clear_routes cdv A outer s H E) a F0 H (defBody s_clear_routes) (phi a N_clear_routes p_clear_routes (nt x0) (Rs x0)) (nt' x0) (v0 x0)) : FnU P w K mg base "clear_routes" (k + 1) nt Rs C nt' v0 := by
  obtain ⟨fd, F⟩ := T.fn ⟨a_clear_routes, "clear_routes", "clear_routes", s_clear_routes⟩ (List.mem_of_getElem? (i := 90) rfl)
  exact ⟨_, fd, _, u_ret F sc_clear_routes hl body, T.refs "clear_routes" a_clear_routes (by decide +kernel), F.kp, (F.binds (ps := p_clear_routes) fun _ _ _ _ _ _ us hl => match us, hl with | [_, _], _ => rfl)⟩
theorem mu_scale_arrivals (T : Tx K mg) (k : Nat) (hl : ∀ x0, (Rs x0).length + 1 = 2)
    (body : ∀ (cdv : Value) (A : Around) (outer : List Env) (s : Shared) (H : Hp) (E : XK) (x0 : α) (a : Addr) (F0 : Foot), C x0 → Room k (cx P w K mg base N_scale_arrivals "scale_arrivals" s_scale_arrivals a_scale_arrivals cdv A outer s H E).A → MRs (cx P w K mg base N_scale_arrivals "scale_arrivals" s_scale_arrivals a_scale_arrivals cdv A outer s H E) a F0 H (defBody s_scale_arrivals) (phi a N_scale_arrivals p_scale_arrivals (nt x0) (Rs x0)) (nt' x0) (v0 x0)) : FnU P w K mg base "scale_arrivals" (k + 1) nt Rs C nt' v0 := by
  obtain ⟨fd, F⟩ := T.fn ⟨a_scale_arrivals, "scale_arrivals", "scale_arrivals", s_scale_arrivals⟩ (List.mem_of_getElem? (i := 91) rfl)
  exact ⟨_, fd, _, u_ret F sc_scale_arrivals hl body, T.refs "scale_arrivals" a_scale_arrivals (by decide +kernel), F.kp, (F.binds (ps := p_scale_arrivals) fun _ _ _ _ _ _ us hl => match us, hl with | [_, _], _ => rfl)⟩
theorem mu_changed (T : Tx K mg) (k : Nat) (hl : ∀ x0, (Rs x0).length + 1 = 3)
    (body : ∀ (cdv : Value) (A : Around) (outer : List Env) (s : Shared) (H : Hp) (E : XK) (x0 : α) (a : Addr) (F0 : Foot), C x0 → Room k (cx P w K mg base N_changed "changed" s_changed a_changed cdv A outer s H E).A → MRs (cx P w K mg base N_changed "changed" s_changed a_changed cdv A outer s H E) a F0 H (defBody s_changed) (phi a N_changed p_changed (nt x0) (Rs x0)) (nt' x0) (v0 x0)) : FnU P w K mg base "changed" (k + 1) nt Rs C nt' v0 := by
  obtain ⟨fd, F⟩ := T.fn ⟨a_changed, "changed", "changed", s_changed⟩ (List.mem_of_getElem? (i := 92) rfl)
  exact ⟨_, fd, _, u_ret F sc_changed hl body, T.refs "changed" a_changed (by decide +kernel), F.kp, (F.binds (ps := p_changed) fun _ _ _ _ _ _ us hl => match us, hl with | [_, _, _], _ => rfl)⟩
end
end OQ
/-! the methods that change a net -/
namespace OQ
open PySem PySem.Spec PyProof.Rows L2
open Lrx4 (Network Station stationCount placeCount places stationOf place placesOf getStation arrival service)
/-! ### a promise of a new list -/
def spF {α : Type} (Rs : α → List Rp) (C : α → Prop) (R : α → List Rp) : Sp := fun vs H Q _ => ∃ x G, Ex G H ∧ All (Rs x) vs G ∧ C x ∧ ∀ p us G' H', Gr G H G' H' → H p = none → G' p = some (.lst us) → All (R x) us G' → Q (.ref p) H'
structure FnFM (P : Program) (w : World) (K : PySem.W.Frag) (mg : Str → Option Value) (base : Heap) (m : Str) (k : Nat) {α : Type} (Rs : α → List Rp) (C : α → Prop) (R : α → List Rp) : Prop where
  ex : ∃ f fd ps, FnOk P w K mg base CX0 k f fd ps (spF Rs C R) ∧ Meth K a_Net m f ∧ Binds K fd ps []
section
variable {X : Cx} {Γ : Ctx} {e o : Expr} {es : List Expr} {pos apos : Pos} {α : Type} {Rs : α → List Rp} {C : α → Prop} {R : α → List Rp} {m : Str} {k j : Nat} {A0 : Around} {net : Network}
theorem f_meth {pl : Sem Bool} (F : FnFM X.prog X.w X.K X.mg X.base m k Rs C R) (c : Cls X.K a_Net) (hr : Room j A0) (hk : k ≤ j) (ho : XE X o Γ (rN net)) (x0 : α) {rs : List Rp} (ha : XA X (e :: es) Γ rs) (hrs : rN net :: rs = Rs x0) (hc : C x0) (hA : X.A = A0 := by rfl)
    (hl : (["stations", "groups", "kinds", "servers", "services", "arrivals", "leaving", "weights"] : List Str).all (fun g => !(m == g)) = true := by decide +kernel)
    (hst : starEach (e :: es) X.env = (false, eval e X.env) :: starEach es X.env := by rfl) (hpl : (backTo pos (starEach es X.env)).any (·.1) = false := by rfl)
    (ht : eval (.Call (.Attribute o m apos) (e :: es) [] pos) X.env = (do
      let ov ← eval o X.env
      standAt apos.atName
      let (f, first) ← holding [ov] (getMethod ov m pl)
      callWith pos f first (backTo pos (starEach (e :: es) X.env)) (backToKw pos (keywordEach [] X.env))) := by rfl) : XF X (.Call (.Attribute o m apos) (e :: es) [] pos) Γ (R x0) := by
  obtain ⟨f, fd, ps, F1, hm, hb⟩ := F.ex
  subst hA
  refine PE.of (pe_meth (pl := pl) (E := E0) ho c hm F1 (hr.mono hk) hb .nil pass0 ha hst hpl ht) fun _ _ Q ⟨G, ex, en, q⟩ => ⟨G, ex, en, fun v G1 H1 g1 r1 => ?_⟩
  have r1' := r1
  obtain ⟨a, Ft, h1, h2⟩ := r1
  refine ⟨a, Ft.dx, _, h1, g1.sub _ _ h2.obj, lk_none net Ft hl, G1, g1.sub, en.up g1.old, fun vs G2 H2 g2 r2 => ?_⟩
  show spF Rs C R (v :: (vs ++ [])) H2 Q E0
  rw [List.append_nil]
  refine ⟨x0, G2, g2.sub, ?_, hc, fun p us G' H' g hp hu r => q p us G' H' ((g1.trans g2).trans g) ((g1.kept.trans g2.kept).free hp) hu r⟩
  rw [← hrs]
  exact ⟨(rN net).up g2.old r1', r2⟩
end
section
variable {P : Program} {w : World} {K : PySem.W.Frag} {mg : Str → Option Value} {base : Heap}
theorem ok_places_new (W : Wd P w K mg base) : FnFM P w K mg base "places_of" 2 (fun x : Network × Nat => [rN x.1, rZ (x.2 : Int)]) (fun x => NetOk x.1 ∧ x.2 < stationCount x.1) (fun x => (placesOf x.1 x.2).map fun (n : Nat) => rV (.int (n : Int))) := by
  obtain ⟨fd, F⟩ := W.t.fn ⟨a_Net_places_of, "places_of", "Net.places_of", s_Net_places_of⟩ (List.mem_of_getElem? (i := 20) rfl)
  refine ⟨_, fd, p_Net_places_of, F.ok sc_Net_places_of (fun vs H Q E ⟨x0, G, _, h, _⟩ => by rw [h.len]; rfl) fun cdv A outer s H vs Q E hr ⟨x0, G, ex, h, hc, q⟩ => ?_, W.t.ms ("places_of", a_Net_places_of) (by decide +kernel), F.binds (ps := p_Net_places_of) fun _ _ _ _ _ _ us hl => match us, hl with | [_, _], _ => rfl⟩
  obtain ⟨net, i⟩ := x0
  obtain ⟨ok, hi⟩ : NetOk net ∧ i < stationCount net := hc
  have h2 := ok.cl.2
  refine ⟨_, pss_one (ps_ret (f_eq (Γ := [some (rN net), some (rZ (i : Int)), none]) (rs' := (placesOf net i).map fun (n : Nat) => rV (.int (n : Int))) (f_lc (n := net.classCount) (is := [2]) (own := [("group", 2)]) (fun c => rZ (place net i c : Nat)) sc_Net_places_of.nd (i_range1 (W.t.frees _ (by decide +kernel)) (x_groups W.t (x_var (i := 0)))) (blkOk_by (N := N_Net_places_of) (sc := defScope s_Net_places_of) (by decide +kernel)) rfl .one (fun _ _ _ _ _ => g_one sc_Net_places_of.nd) (fun s' H' C' cl fp c hc => ?_)) ?_)), G, ex, ?_, q⟩
  · exact x_meth (ok_place_at W) W.t.cl hr (by decide) (x_var (i := 0)) (net, i, c) (a_cons (x_var (i := 1)) (a_cons (x_var (i := 2)) a_nil)) rfl ⟨ok, by show c ≤ 1000; omega⟩
  · rw [range_z, placesOf_eq hi]
  · match vs, h with
    | [v, u], h => exact en_start (rs := [rN net, rZ (i : Int)]) 1 h
end
/-! ### a loop over a new list of places -/
section
variable {X : Cx} {a : Addr} {F0 : Foot} {H0 : Hp} {pos p : Pos} {x : Str} {iter : Expr} {body : List Stmt} {j : Nat}
theorem m_for {xs : List Nat} (nets : Nat → Network) (Γr : Ctx) (hi : ∀ F, XF X iter (some (rA a F (nets 0)) :: Γr) (xs.map fun (n : Nat) => rV (.int (n : Int)))) (pu : Pure Γr) (hN : X.N.Nodup) (hΓ : ∀ r, Le (Γr.set j (some r)) Γr)
    (hb : ∀ (F1 : Foot) (H1 : Hp) i, i < xs.length → MSs X a F1 H1 body (fun F => some (rA a F (nets i)) :: Γr.set j (some (rZ ((xs.getD i 0 : Nat) : Int)))) (fun F => some (rA a F (nets (i + 1))) :: Γr))
    (hj : X.N[j + 1]? = some x := by rfl) (hx : Loc X.env.scope x := by exact Or.inl rfl) (hf : X.fn x = true ∨ X.env.scope.names.lookup x = some .local := by first | exact .inl rfl | exact .inr rfl)
    (hp : PassesOwn (model X.prog X.w) X.A X.env X.xe := by exact PassesOwn.never) (hc : X.calm = true := by rfl) (hs : ∀ x, foldedSetIterable iter X.env x = pure x := by intro _; rfl) : MS X a F0 H0 (.For (.Name x p) iter body [] pos) (fun F => some (rA a F (nets 0)) :: Γr) (fun F => some (rA a F (nets xs.length)) :: Γr) := by
  refine ⟨fun pins s σ H D I ⟨F, kp, en, q⟩ => ?_⟩
  let tb : TS := fun D σ H => ∃ i F1 H1, i < xs.length ∧ tM a F1 H1 (fun F => some (rA a F (nets i)) :: Γr.set j (some (rZ ((xs.getD i 0 : Nat) : Int)))) (fun F => some (rA a F (nets (i + 1))) :: Γr) D σ H
  refine (ps_for (tb := tb) hp hc (pi_list (hi F)) (pg_name (i := j + 1) hN hj hx hf) ⟨fun pins s σ H D I h => ?_⟩ hs).run pins s σ H D I ?_
  · obtain ⟨i, F1, H1, hlt, h⟩ := h
    exact (hb F1 H1 i hlt).run pins s σ H D I h
  refine ⟨H, Ex.refl _, en, fun b us G1 H1 g1 hbn h1 h2 => ?_⟩
  have hv := all_vals (f := fun (n : Nat) => V.int (n : Int)) h2
  subst hv
  have hb1 := g1.sub _ _ h1
  have nf : NetAt a_Net H a (nets 0) F := by
    match σ, en with
    | y :: σ', en =>
      obtain ⟨⟨z, _, hz⟩, _⟩ := en
      exact hz.2
  have nb := ft_new nf hbn
  refine ⟨b, rfl, ⟨_, SqL.of hb1⟩, ?_⟩
  have wk := (walk_list (K := X.K) (a := b) (xs := xs.map fun (n : Nat) => V.int (n : Int)))
  rw [List.length_map] at wk
  have k1 := kp.up g1.kept
  refine for_it wk (fun i σ Hc => Hc b = some (.lst (xs.map fun (n : Nat) => V.int (n : Int))) ∧ ∃ Fc, Kp a F H1 Fc Hc ∧ En (some (rA a Fc (nets i)) :: Γr) σ Hc) ⟨hb1, F, Kp.refl a F H1, en.up g1.kept⟩ (fun i σ Hc _ ⟨h, _⟩ => SqL.of h) ?_ ?_
  · rintro i v σ2 Hc Hc' hlt ⟨z1, Fc, z2, z3⟩ yi
    obtain ⟨e1, e2⟩ := yi
    subst e1
    rw [List.getElem?_map, List.getElem?_eq_getElem hlt] at e2
    have e2 : V.int ((xs[i] : Nat) : Int) = v := Option.some.inj e2
    refine ⟨i, F, H1, hlt, Fc, z2, ?_, fun σ3 H3 F3 k3 e3 => ⟨k3.keep b _ nb hb1, F3, k3, e3⟩⟩
    match σ2, z3 with
    | y :: σ', z3 =>
      refine ⟨z3.1, ?_⟩
      show En (Γr.set j _) (σ'.set j (some v)) Hc'
      refine En.set z3.2 ?_
      show v = V.int ((xs.getD i 0 : Nat) : Int)
      rw [← e2, List.getD_eq_getElem?_getD, List.getElem?_eq_getElem hlt]
      rfl
  · rintro σ2 Hc ⟨_, Fc, z2, z3⟩
    exact q σ2 Hc Fc (k1.trans z2) z3
end
end OQ
/-! net.py: the methods that change -/
namespace OQ
open PySem PySem.Spec PyProof.Rows L2
open Lrx4 (Network Station stationCount placeCount places stationOf place placesOf getStation arrival service)
def setAll (l : List Nat) (ps : List Nat) (m : Nat) : List Nat := ps.foldl (fun l p => l.set p m) l
theorem setAll_len (ps : List Nat) (m : Nat) : ∀ l : List Nat, (setAll l ps m).length = l.length := by
  induction ps with
  | nil => intro l; rfl
  | cons p ps ih =>
    intro l
    show (setAll (l.set p m) ps m).length = l.length
    rw [ih, List.length_set]
def netA (net : Network) (ps : List Nat) (m k : Nat) : Network := { net with services := setAll net.services (ps.take k) m }
theorem netA_zero (net : Network) (ps : List Nat) (m : Nat) : netA net ps m 0 = net := rfl
theorem netA_succ (net : Network) {ps : List Nat} (m : Nat) {k : Nat} (h : k < ps.length) : netM (netA net ps m k) (ps.getD k 0) m = netA net ps m (k + 1) := by
  unfold netA netM setAll
  rw [List.take_succ, List.foldl_append, List.getElem?_eq_getElem h, List.getD_eq_getElem?_getD, List.getElem?_eq_getElem h]
  rfl
def netAll (net : Network) (i m : Nat) : Network := { net with services := setAll net.services (placesOf net i) m }
theorem netA_all (net : Network) (i m : Nat) : netA net (placesOf net i) m (placesOf net i).length = netAll net i m := by
  unfold netA netAll
  rw [List.take_length]
section
variable {P : Program} {w : World} {K : PySem.W.Frag} {mg : Str → Option Value} {base : Heap}
abbrev NII : Type := Network × Nat × Nat
theorem in_ft (F : Foot) (a : Addr) : F.k ∈ ft a F ∧ F.s ∈ ft a F ∧ F.m ∈ ft a F ∧ F.r ∈ ft a F ∧ F.l ∈ ft a F ∧ F.w ∈ ft a F := by
  unfold ft
  refine ⟨?_, ?_, ?_, ?_, ?_, ?_⟩ <;> simp
theorem ok_set_services (W : Wd P w K mg base) : FnUM P w K mg base "set_services" 3 (fun x : NII => x.1) (fun x => [rZ (x.2.1 : Int), rZ (x.2.2 : Int)]) (fun x => NetOk x.1 ∧ x.2.1 < stationCount x.1) (fun x => netAll x.1 x.2.1 x.2.2) (fun _ => .non) := by
  refine mu_Net_set_services W.t 2 (fun _ => rfl) (fun _ => rfl) fun cdv A outer s H E x0 a F0 hc hr => ?_
  obtain ⟨net, i, m⟩ := x0
  obtain ⟨ok, hi⟩ : NetOk net ∧ i < stationCount net := hc
  have pm : ∀ r, Pure [some (rZ (i : Int)), some (rZ (m : Int)), some (rV r)] := fun r => pu_val (pu_val (pu_val pu_nil))
  refine ⟨[some (rZ (i : Int)), some (rZ (m : Int)), none], m_cons (Φ' := fun F => some (rA a F (netA net (placesOf net i) m (placesOf net i).length)) :: [some (rZ (i : Int)), some (rZ (m : Int)), none]) (m_for (j := 2) (xs := placesOf net i) (fun k => netA net (placesOf net i) m k) [some (rZ (i : Int)), some (rZ (m : Int)), none] (fun F => ?_) (pu_val (pu_val (pu_none pu_nil))) sc_Net_set_services.nd (fun r => le_same (le_same (le_drop le_nil))) fun F1 H1 k hk => ?_) (by rw [netA_all]; exact m_nil)⟩
  · exact f_meth (ok_places_new W) W.t.cl hr (by decide) (x_rA (x_var (i := 0))) (net, i) (a_cons (x_var (i := 1)) a_nil) rfl ⟨ok, hi⟩
  · have hp : (placesOf net i).getD k 0 < placeCount net := placesOf_mem (getD_mem hk)
    refine m_le (m_cons (m_put (fun F => F.m) (k := (placesOf net i).getD k 0) (v := .int (m : Int)) (net' := netA net (placesOf net i) m (k + 1)) (fun _ => [some (rZ (i : Int)), some (rZ (m : Int)), some (rZ (((placesOf net i).getD k 0 : Nat) : Int))]) (fun F => x_fA W.t.cl (W.t.no "services" (by decide +kernel)) (x_var (i := 0)) (lk_services _ F)) (fun F => x_var (i := 3)) (fun F => x_var (i := 2)) (fun F => pm _) fun F H hn => ⟨(in_ft F a).2.2.1, _, hn.m, ?_, ?_⟩) m_nil) fun F => le_same (le_same (le_same (le_drop le_nil)))
    · rw [zl_len]
      show _ < (setAll net.services _ m).length
      rw [setAll_len, ok.ls]
      exact hp
    · rw [← netA_succ net m hk]
      exact at_m hn _ m
def netKS (net : Network) (i k s : Nat) : Network := netS (netK net i k) i s
theorem netKS_st {net : Network} {i k s : Nat} (hi : i < stationCount net) : (netKS net i k s).stations = net.stations.set i ⟨k, s⟩ := by
  unfold netKS netS netK
  show (net.stations.set i _).set i ⟨(getStation _ i).kind, s⟩ = _
  rw [List.set_set]
  unfold getStation
  show net.stations.set i ⟨((net.stations.set i ⟨k, (getStation net i).servers⟩).getD i ⟨0, 1⟩).kind, s⟩ = _
  rw [List.getD_eq_getElem?_getD, List.getElem?_set_self hi]
  rfl
def KS (k s : Nat) : Prop := k ≤ 3 ∧ (k = 0 → 1 ≤ s ∧ s ≤ 20) ∧ (k ≠ 0 → s = 1)
theorem netKS_ok {net : Network} {i k s : Nat} (ok : NetOk net) (hi : i < stationCount net) (h : KS k s) : NetOk (netKS net i k s) := by
  have e := netKS_st (net := net) (k := k) (s := s) hi
  have l : stationCount (netKS net i k s) = stationCount net := by
    unfold stationCount
    rw [e, List.length_set]
  have lp : placeCount (netKS net i k s) = placeCount net := by
    unfold placeCount
    rw [l]
    rfl
  refine ⟨by rw [l]; exact ok.st, ok.cl, by rw [lp]; exact ok.la, by rw [lp]; exact ok.ls, by rw [lp]; exact ok.ll, by rw [lp]; exact ok.lr, by rw [lp]; exact ok.lrr, ok.ba, ok.bs, ok.bl, ok.br, ?_⟩
  rw [e]
  intro st hst
  rcases List.mem_or_eq_of_mem_set hst with z | z
  · exact ok.kd st z
  · subst z
    exact h
end
end OQ
/-! net.py: set_kind, set_service, clear -/
namespace OQ
open PySem PySem.Spec PyProof.Rows L2
open Lrx4 (Network Station stationCount placeCount places stationOf place placesOf getStation arrival service)
def netKind (net : Network) (i k s : Nat) : Network := if k = 0 then netAll (netKS net i k s) i (service (netKS net i k s) (place (netKS net i k s) i 0)) else netKS net i k s
theorem netKS_cnt {net : Network} {i k s : Nat} (hi : i < stationCount net) : stationCount (netKS net i k s) = stationCount net := by
  unfold stationCount
  rw [netKS_st hi, List.length_set]
section
variable {P : Program} {w : World} {K : PySem.W.Frag} {mg : Str → Option Value} {base : Heap}
theorem ok_set_kind (W : Wd P w K mg base) : FnUM P w K mg base "set_kind" 4 (fun x : Network × Nat × Nat × Nat => x.1) (fun x => [rZ (x.2.1 : Int), rZ (x.2.2.1 : Int), rZ (x.2.2.2 : Int)]) (fun x => NetOk x.1 ∧ x.2.1 < stationCount x.1 ∧ KS x.2.2.1 x.2.2.2) (fun x => netKind x.1 x.2.1 x.2.2.1 x.2.2.2) (fun _ => .non) := by
  refine mu_Net_set_kind W.t 3 (fun _ => rfl) (fun _ => rfl) fun cdv A outer s0 H E x0 a F0 hc hr => ?_
  obtain ⟨net, i, k, s⟩ := x0
  obtain ⟨ok, hi, hks⟩ : NetOk net ∧ i < stationCount net ∧ KS k s := hc
  have l1 : (net.stations.map (·.kind)).length = stationCount net := List.length_map _
  have l2 : ((netK net i k).stations.map (·.servers)).length = stationCount net := by
    rw [List.length_map]
    exact List.length_set ..
  have pu : Pure [some (rZ (i : Int)), some (rZ (k : Int)), some (rZ (s : Int))] := pu_val (pu_val (pu_val pu_nil))
  have ok2 := netKS_ok ok hi hks
  have hi2 : i < stationCount (netK net i k) := by
    show i < (net.stations.set i _).length
    rw [List.length_set]
    exact hi
  have hi3 : i < stationCount (netKS net i k s) := by rw [netKS_cnt hi]; exact hi
  refine ⟨[some (rZ (i : Int)), some (rZ (k : Int)), some (rZ (s : Int))], m_cons (m_put (fun F => F.k) (k := i) (v := .int (k : Int)) (net := net) (net' := netK net i k) (fun _ => [some (rZ (i : Int)), some (rZ (k : Int)), some (rZ (s : Int))]) (fun F => x_fA W.t.cl (W.t.no "kinds" (by decide +kernel)) (x_var (i := 0)) (lk_kinds _ F)) (fun F => x_var (i := 1)) (fun F => x_var (i := 2)) (fun F => pu) fun F H hn => ⟨(in_ft F a).1, _, hn.k, by rw [zl_len, l1]; exact hi, at_k hn hi k⟩)
    (m_cons (m_put (fun F => F.s) (k := i) (v := .int (s : Int)) (net := netK net i k) (net' := netKS net i k s) (fun _ => [some (rZ (i : Int)), some (rZ (k : Int)), some (rZ (s : Int))]) (fun F => x_fA W.t.cl (W.t.no "servers" (by decide +kernel)) (x_var (i := 0)) (lk_servers _ F)) (fun F => x_var (i := 1)) (fun F => x_var (i := 3)) (fun F => pu) fun F H hn => ⟨(in_ft F a).2.1, _, hn.s, by rw [zl_len, l2]; exact hi, at_s hn hi2 s⟩)
    (m_cons (m_if (k := decide (k = 0)) (fun F => t_imp (t_eqI (x_var (i := 2)) (x_globI (W.t.zs "IN_ORDER" 0 (by decide +kernel)))) (dec_eq k 0)) (fun h => ?_) (fun h => ?_)) m_nil))⟩
  · have h := of_decide_eq_true h
    have e : netKind net i k s = netAll (netKS net i k s) i (service (netKS net i k s) (place (netKS net i k s) i 0)) := by unfold netKind; rw [if_pos h]
    show MSs _ a F0 H _ _ (fun F => some (rA a F (netKind net i k s)) :: [some (rZ (i : Int)), some (rZ (k : Int)), some (rZ (s : Int))])
    rw [e]
    exact m_cons (m_meth (ok_set_services W) W.t.cl hr (by decide) (fun _ => [some (rZ (i : Int)), some (rZ (k : Int)), some (rZ (s : Int))]) (netKS net i k s, i, service (netKS net i k s) (place (netKS net i k s) i 0)) (fun F => x_var (i := 0)) (fun F => a_cons (x_var (i := 1)) (a_cons (x_ix (x_services W.t (x_rA (x_var (i := 0)))) (x_meth (ok_place_at W) W.t.cl hr (by decide) (x_rA (x_var (i := 0))) (netKS net i k s, i, 0) (a_cons (x_var (i := 1)) (a_cons x_int a_nil)) rfl ⟨ok2, by show 0 ≤ 1000; decide⟩) (at_nat (d := 1) (by rw [ok2.ls]; exact place_lt hi3 ok2.cl.1))) a_nil)) ⟨ok2, hi3⟩ (fun F => pu) (fun _ _ => rfl)) m_nil
  · have h := of_decide_eq_false h
    have e : netKind net i k s = netKS net i k s := by unfold netKind; rw [if_neg h]
    show MSs _ a F0 H _ _ (fun F => some (rA a F (netKind net i k s)) :: [some (rZ (i : Int)), some (rZ (k : Int)), some (rZ (s : Int))])
    rw [e]
    exact m_nil
def netServ (net : Network) (i c m : Nat) : Network := if (getStation net i).kind = 0 then netAll net i m else netM net (place net i c) m
theorem ok_set_service (W : Wd P w K mg base) : FnUM P w K mg base "set_service" 4 (fun x : Network × Nat × Nat × Nat => x.1) (fun x => [rZ (x.2.1 : Int), rZ (x.2.2.1 : Int), rZ (x.2.2.2 : Int)]) (fun x => NetOk x.1 ∧ x.2.1 < stationCount x.1 ∧ x.2.2.1 < x.1.classCount) (fun x => netServ x.1 x.2.1 x.2.2.1 x.2.2.2) (fun _ => .non) := by
  refine mu_Net_set_service W.t 3 (fun _ => rfl) (fun _ => rfl) fun cdv A outer s0 H E x0 a F0 hc hr => ?_
  obtain ⟨net, i, c, m⟩ := x0
  obtain ⟨ok, hi, hcc⟩ : NetOk net ∧ i < stationCount net ∧ c < net.classCount := hc
  have pu : Pure [some (rZ (i : Int)), some (rZ (c : Int)), some (rZ (m : Int))] := pu_val (pu_val (pu_val pu_nil))
  have c3 := ok.cl.2
  refine ⟨[some (rZ (i : Int)), some (rZ (c : Int)), some (rZ (m : Int))], m_cons (m_if (k := decide ((getStation net i).kind = 0)) (fun F => t_imp (t_eqI (x_kind W.t hi (x_rA (x_var (i := 0))) (x_var (i := 1))) (x_globI (W.t.zs "IN_ORDER" 0 (by decide +kernel)))) (dec_eq _ 0)) (fun h => ?_) (fun h => ?_)) m_nil⟩
  · have h := of_decide_eq_true h
    have e : netServ net i c m = netAll net i m := by unfold netServ; rw [if_pos h]
    show MSs _ a F0 H _ _ (fun F => some (rA a F (netServ net i c m)) :: [some (rZ (i : Int)), some (rZ (c : Int)), some (rZ (m : Int))])
    rw [e]
    exact m_cons (m_meth (ok_set_services W) W.t.cl hr (by decide) (fun _ => [some (rZ (i : Int)), some (rZ (c : Int)), some (rZ (m : Int))]) (net, i, m) (fun F => x_var (i := 0)) (fun F => a_cons (x_var (i := 1)) (a_cons (x_var (i := 3)) a_nil)) ⟨ok, hi⟩ (fun F => pu) (fun _ _ => rfl)) m_nil
  · have h := of_decide_eq_false h
    have e : netServ net i c m = netM net (place net i c) m := by unfold netServ; rw [if_neg h]
    show MSs _ a F0 H _ _ (fun F => some (rA a F (netServ net i c m)) :: [some (rZ (i : Int)), some (rZ (c : Int)), some (rZ (m : Int))])
    rw [e]
    exact m_cons (m_put (fun F => F.m) (k := place net i c) (v := .int (m : Int)) (net := net) (net' := netM net (place net i c) m) (fun _ => [some (rZ (i : Int)), some (rZ (c : Int)), some (rZ (m : Int))]) (fun F => x_fA W.t.cl (W.t.no "services" (by decide +kernel)) (x_var (i := 0)) (lk_services _ F)) (fun F => x_meth (ok_place_at W) W.t.cl hr (by decide) (x_rA (x_var (i := 0))) (net, i, c) (a_cons (x_var (i := 1)) (a_cons (x_var (i := 2)) a_nil)) rfl ⟨ok, by show c ≤ 1000; omega⟩) (fun F => x_var (i := 3)) (fun F => pu) fun F H hn => ⟨(in_ft F a).2.2.1, _, hn.m, by rw [zl_len, ok.ls]; exact place_lt hi hcc, at_m hn _ m⟩) m_nil
def netClr (net : Network) (p : Nat) : Network := netL { net with routes := net.routes.set p (List.replicate (placeCount net) 0) } p 0
theorem ok_clear (W : Wd P w K mg base) : FnUM P w K mg base "clear" 2 (fun x : Network × Nat => x.1) (fun x => [rZ (x.2 : Int)]) (fun x => NetOk x.1 ∧ x.2 < placeCount x.1) (fun x => netClr x.1 x.2) (fun _ => .non) := by
  refine mu_Net_clear W.t 1 (fun _ => rfl) (fun _ => rfl) fun cdv A outer s0 H E x0 a F0 hc hr => ?_
  obtain ⟨net, p⟩ := x0
  obtain ⟨ok, hp⟩ : NetOk net ∧ p < placeCount net := hc
  have n15 := ok.n1.2
  have pu : Pure [some (rZ (p : Int))] := pu_val pu_nil
  refine ⟨[some (rZ (p : Int))], m_cons (m_newW (net := net) (i := p) (n := placeCount net) [some (rZ (p : Int))] (fun _ => trivial) (fun F => x_fA W.t.cl (W.t.no "weights" (by decide +kernel)) (x_var (i := 0)) (lk_weights _ F)) (fun F => x_var (i := 1)) (fun F => f_rep (n := placeCount net) (x_lst (a_cons x_int a_nil)) (x_meth0 (ok_place_count W) W.t.cl hr (by decide) (x_rA (x_var (i := 0))) net rfl ok) (by omega)) pu (by rw [ok.lr]; exact hp))
    (m_cons (m_put (fun F => F.l) (k := p) (v := .int 0) (net := { net with routes := net.routes.set p (List.replicate (placeCount net) 0) }) (net' := netClr net p) (fun _ => [some (rZ (p : Int))]) (fun F => x_fA W.t.cl (W.t.no "leaving" (by decide +kernel)) (x_var (i := 0)) (lk_leaving _ F)) (fun F => x_var (i := 1)) (fun F => x_int) (fun F => pu) fun F H hn => ⟨(in_ft F a).2.2.2.2.1, _, hn.l, ?_, at_l hn p 0⟩) m_nil)⟩
  rw [zl_len]
  show p < net.leaving.length
  rw [ok.ll]
  exact hp
end
end OQ
/-! the changes, without a program -/
namespace OQ
open Lrx4 (Network Station stationCount placeCount places stationOf place placesOf getStation arrival service routeWeight leaveWeight weightSum)
def chgC : Nat → List Nat → Lrx4.Call
  | 1, a => .setStation (a.getD 0 0) (a.getD 1 0) (a.getD 2 0)
  | 2, a => .setService (a.getD 0 0) (a.getD 1 0) (a.getD 2 0)
  | 3, a => .setArrival (a.getD 0 0) (a.getD 1 0) (a.getD 2 0)
  | 4, a => .setRoute (a.getD 0 0) (a.getD 1 0) (a.getD 2 0) (a.getD 3 0) (a.getD 4 0)
  | 5, a => .setLeaving (a.getD 0 0) (a.getD 1 0) (a.getD 2 0)
  | 6, a => .clearRoutes (a.getD 0 0) (a.getD 1 0)
  | _, a => .scaleArrivals (a.getD 0 0) (a.getD 1 0)
def stN (c : Lrx4.Call) (net : Network) : Network := (Lrx4.step (some net) c).1.getD net
def numR (c : Lrx4.Call) (net : Network) : Int := (Lrx4.step (some net) c).2.num
theorem getD_set1 {l : List Nat} {p q m d : Nat} (h : p < l.length) : (l.set p m).getD q d = if q = p then m else l.getD q d := by
  by_cases e : q = p
  · subst e
    rw [if_pos rfl, List.getD_eq_getElem?_getD, List.getElem?_set_self h]
    rfl
  · rw [if_neg e, List.getD_eq_getElem?_getD, List.getElem?_set_ne (fun z => e z.symm), List.getD_eq_getElem?_getD]
theorem setAll_at {m d q : Nat} : ∀ (ps : List Nat) (l : List Nat), (∀ p ∈ ps, p < l.length) → (setAll l ps m).getD q d = if q ∈ ps then m else l.getD q d
  | [], l, _ => by
    rw [if_neg (by simp)]
    rfl
  | p :: ps, l, h => by
    show (setAll (l.set p m) ps m).getD q d = _
    rw [setAll_at ps (l.set p m) fun x hx => by rw [List.length_set]; exact h x (List.mem_cons_of_mem _ hx)]
    rw [getD_set1 (h p List.mem_cons_self)]
    by_cases e1 : q ∈ ps
    · rw [if_pos e1, if_pos (List.mem_cons_of_mem _ e1)]
    · rw [if_neg e1]
      by_cases e2 : q = p
      · rw [if_pos e2, if_pos (by rw [e2]; exact List.mem_cons_self)]
      · rw [if_neg e2, if_neg (fun z => by rcases List.mem_cons.mp z with y | y; exact e2 y; exact e1 y)]
theorem setAll_eq {net : Network} {l : List Nat} {i m d : Nat} (hl : l.length = placeCount net) : setAll l (placesOf net i) m = (places net).map fun p => if stationOf net p = i then m else l.getD p d := by
  have hps : ∀ p ∈ placesOf net i, p < l.length := fun p hp => by rw [hl]; exact placesOf_mem hp
  have h1 : (setAll l (placesOf net i) m).length = placeCount net := by rw [setAll_len, hl]
  rw [← map_getD (l := setAll l (placesOf net i) m) (d := d), h1]
  unfold places
  refine List.map_congr_left fun p hp => ?_
  have hp := List.mem_range.mp hp
  rw [setAll_at _ _ hps]
  have mm : p ∈ placesOf net i ↔ stationOf net p = i := by
    unfold placesOf places
    rw [List.mem_filter, List.mem_range, beq_iff_eq]
    exact ⟨fun z => z.2, fun z => ⟨hp, z⟩⟩
  by_cases e : stationOf net p = i
  · rw [if_pos e, if_pos (mm.mpr e)]
  · rw [if_neg e, if_neg (fun z => e (mm.mp z))]
section
variable {net : Network}
theorem mem_set_le {l : List Nat} {i m b : Nat} (h : ∀ a ∈ l, a ≤ b) (hm : m ≤ b) : ∀ a ∈ l.set i m, a ≤ b := fun a ha => by
  rcases List.mem_or_eq_of_mem_set ha with z | z
  · exact h a z
  · rw [z]; exact hm
theorem ok_services (ok : NetOk net) {l : List Nat} (h1 : l.length = placeCount net) (h2 : ∀ a ∈ l, 1 ≤ a ∧ a ≤ 100000) : NetOk { net with services := l } :=
  ⟨ok.st, ok.cl, ok.la, h1, ok.ll, ok.lr, ok.lrr, ok.ba, h2, ok.bl, ok.br, ok.kd⟩
theorem ok_arrivals (ok : NetOk net) {l : List Nat} (h1 : l.length = placeCount net) (h2 : ∀ a ∈ l, a ≤ 100000) : NetOk { net with arrivals := l } :=
  ⟨ok.st, ok.cl, h1, ok.ls, ok.ll, ok.lr, ok.lrr, h2, ok.bs, ok.bl, ok.br, ok.kd⟩
theorem ok_leaving (ok : NetOk net) {l : List Nat} (h1 : l.length = placeCount net) (h2 : ∀ a ∈ l, a ≤ 1000) : NetOk { net with leaving := l } :=
  ⟨ok.st, ok.cl, ok.la, ok.ls, h1, ok.lr, ok.lrr, ok.ba, ok.bs, h2, ok.br, ok.kd⟩
theorem ok_routes (ok : NetOk net) {p : Nat} {r : List Nat} (h1 : r.length = placeCount net) (h2 : ∀ a ∈ r, a ≤ 1000) : NetOk { net with routes := net.routes.set p r } := by
  refine ⟨ok.st, ok.cl, ok.la, ok.ls, ok.ll, (List.length_set ..).trans ok.lr, fun x hx => ?_, ok.ba, ok.bs, ok.bl, fun x hx => ?_, ok.kd⟩
  · rcases List.mem_or_eq_of_mem_set hx with z | z
    · exact ok.lrr x z
    · rw [z]; exact h1
  · rcases List.mem_or_eq_of_mem_set hx with z | z
    · exact ok.br x z
    · rw [z]; exact h2
theorem mem_serv {f : Nat → Nat} {n : Nat} (h : ∀ p, 1 ≤ f p ∧ f p ≤ 100000) : ∀ a ∈ (List.range n).map f, 1 ≤ a ∧ a ≤ 100000 := fun a ha => by
  obtain ⟨p, _, rfl⟩ := List.mem_map.mp ha
  exact h p
theorem places_KS {i k s : Nat} (hi : i < stationCount net) : placesOf (netKS net i k s) i = placesOf net i ∧ placeCount (netKS net i k s) = placeCount net ∧ place (netKS net i k s) i 0 = place net i 0 := by
  have e := netKS_cnt (net := net) (k := k) (s := s) hi
  have e2 : placeCount (netKS net i k s) = placeCount net := by
    unfold placeCount
    rw [e]
    rfl
  refine ⟨?_, e2, ?_⟩
  · unfold placesOf places stationOf
    rw [e, e2]
  · unfold place
    rw [e]
theorem kind_eq (ok : NetOk net) {i k s : Nat} (hi : i < stationCount net) : netKind net i k s = { net with stations := net.stations.set i ⟨k, s⟩, services := if k = 0 then (places net).map fun p => if stationOf net p = i then service net (place net i 0) else service net p else net.services } := by
  obtain ⟨e1, e2, e3⟩ := places_KS (net := net) (i := i) (k := k) (s := s) hi
  have es := netKS_st (net := net) (k := k) (s := s) hi
  have key : netKS net i k s = { net with stations := net.stations.set i ⟨k, s⟩ } := by
    rw [← es]
    rfl
  unfold netKind
  by_cases h : k = 0
  · rw [if_pos h, if_pos h]
    unfold netAll
    rw [e1, e3]
    rw [key]
    show ({ net with stations := net.stations.set i ⟨k, s⟩, services := setAll net.services (placesOf net i) (service net (place net i 0)) } : Network) = _
    rw [setAll_eq (d := 1) ok.ls]
    rfl
  · rw [if_neg h, if_neg h, key]
theorem kind_ok (ok : NetOk net) {i k s : Nat} (hi : i < stationCount net) (h : KS k s) : NetOk (netKind net i k s) := by
  have o2 := netKS_ok ok hi h
  obtain ⟨e1, e2, e3⟩ := places_KS (net := net) (i := i) (k := k) (s := s) hi
  unfold netKind
  split
  · refine ok_services o2 (by rw [setAll_len]; exact o2.ls) ?_
    rw [setAll_eq (d := 1) o2.ls]
    refine mem_serv fun p => ?_
    split
    · exact o2.ser _
    · exact o2.ser p
  · exact o2
theorem serv_eq (ok : NetOk net) {i c m : Nat} : netServ net i c m = { net with services := if (getStation net i).kind = 0 then (places net).map fun p => if stationOf net p = i then m else service net p else net.services.set (place net i c) m } := by
  unfold netServ
  by_cases h : (getStation net i).kind = 0
  · rw [if_pos h, if_pos h]
    unfold netAll
    rw [setAll_eq (d := 1) ok.ls]
    rfl
  · rw [if_neg h, if_neg h]
    rfl
theorem serv_ok (ok : NetOk net) {i c m : Nat} (h1 : 1 ≤ m) (h2 : m ≤ 100000) : NetOk (netServ net i c m) := by
  unfold netServ
  split
  · refine ok_services ok (by rw [setAll_len]; exact ok.ls) ?_
    rw [setAll_eq (d := 1) ok.ls]
    refine mem_serv fun p => ?_
    split
    · exact ⟨h1, h2⟩
    · exact ok.ser p
  · refine ok_services ok ((List.length_set ..).trans ok.ls) fun a ha => ?_
    rcases List.mem_or_eq_of_mem_set ha with z | z
    · exact ok.bs a z
    · rw [z]; exact ⟨h1, h2⟩
end
end OQ
/-! changes.py -/
namespace OQ
open PySem PySem.Spec PyProof.Rows L2
open Lrx4 (Network Station stationCount placeCount places stationOf place placesOf getStation arrival service routeWeight leaveWeight weightSum)
theorem len3 {l : List Nat} (h : l.length = 3) : ∃ a b c, l = [a, b, c] := by
  match l, h with
  | [a, b, c], _ => exact ⟨a, b, c, rfl⟩
theorem len5 {l : List Nat} (h : l.length = 5) : ∃ a b c d e, l = [a, b, c, d, e] := by
  match l, h with
  | [a, b, c, d, e], _ => exact ⟨a, b, c, d, e, rfl⟩
theorem ends {c : Lrx4.Call} {net net' : Network} {r : Lrx4.Result} {n : Int} (h : Lrx4.step (some net) c = (some net', r)) (hn : r.num = n) : net' = stN c net ∧ V.int n = V.int (numR c net) := by
  unfold stN numR
  rw [h]
  exact ⟨rfl, by rw [← hn]⟩
theorem mr_eq {X : Cx} {a : Addr} {F0 : Foot} {H0 : Hp} {st : List Stmt} {Φ : Foot → Ctx} {n1 n2 : Network} {v1 v2 : V} (h : MRs X a F0 H0 st Φ n1 v1) (e : n1 = n2 ∧ v1 = v2) : MRs X a F0 H0 st Φ n2 v2 := by
  obtain ⟨rfl, rfl⟩ := e
  exact h
def areS (k s : Nat) : Bool := if k = 0 then decide (1 ≤ s) && decide (s ≤ 20) else decide (s = 1)
theorem le_d (a b : Nat) : decide ((a : Int) ≤ (b : Int)) = decide (a ≤ b) := decide_eq_decide.mpr (by omega)
section
variable {P : Program} {w : World} {K : PySem.W.Frag} {mg : Str → Option Value} {base : Heap}
theorem t_within {X : Cx} {Γ : Ctx} {a b c : Expr} {pos : Pos} {i j l : Nat} (ha : XE X a Γ (rZ (i : Int))) (hb : XE X b Γ (rZ (j : Int))) (hc : XE X c Γ (rZ (l : Int))) (hm : lastMarks [.LtE, .LtE] [b, c] = false := by with_unfolding_all rfl) : XT X (.Compare a [.LtE, .LtE] [b, c] pos) Γ (decide (i ≤ j) && decide (j ≤ l)) :=
  t_imp (t_chain (p := fun i j => decide (i ≤ j)) (p' := fun i j => decide (i ≤ j)) op_le op_le ha hb (fun _ => hc) hm) (by rw [le_d, le_d])
theorem ok_are_servers (W : Wd P w K mg base) : FnG P w K mg base "are_servers" 1 (fun x : Nat × Nat => [rZ (x.1 : Int), rZ (x.2 : Int)]) (fun _ => True) (fun x => rB (areS x.1 x.2)) := by
  refine mk_are_servers W.t 0 (fun _ => rfl) fun cdv A outer s0 H E x0 hc hr => ?_
  obtain ⟨k, s⟩ := x0
  refine ss_if (t_imp (t_eqI (x_var (i := 0)) (x_globI (W.t.zs "IN_ORDER" 0 (by decide +kernel)))) (dec_eq k 0)) (fun h => ?_) (fun h => ?_)
  · refine ss_one (s_ret (x_eq (x_chain (p := fun i j => decide (i ≤ j)) (p' := fun i j => decide (i ≤ j)) op_le op_le x_int (x_var (i := 1)) (fun _ => x_globI (W.t.zs "MOST_SERVERS" 20 (by decide +kernel)))) ?_))
    show rB (decide (((1 : Nat) : Int) ≤ (s : Int)) && decide ((s : Int) ≤ ((20 : Nat) : Int))) = rB (areS k s)
    unfold areS
    rw [if_pos (of_decide_eq_true h), le_d, le_d]
  · refine ss_one (s_ret (x_eq (x_eqI (x_var (i := 1)) x_int) ?_))
    show rB (decide ((s : Int) = ((1 : Nat) : Int))) = rB (areS k s)
    unfold areS
    rw [if_neg (of_decide_eq_false h), dec_eq]
theorem areS_KS {k s : Nat} (h : areS k s = true) (hk : k ≤ 3) : KS k s := by
  unfold areS at h
  refine ⟨hk, fun e => ?_, fun e => ?_⟩
  · rw [if_pos e, Bool.and_eq_true] at h
    exact ⟨of_decide_eq_true h.1, of_decide_eq_true h.2⟩
  · rw [if_neg e] at h
    exact of_decide_eq_true h
theorem areS_no {k s : Nat} (h : areS k s = false) : s = 0 ∨ 20 < s ∨ (k ≠ 0 ∧ s ≠ 1) := by
  unfold areS at h
  by_cases e : k = 0
  · rw [if_pos e] at h
    rcases Bool.and_eq_false_iff.mp h with z | z
    · have := of_decide_eq_false z
      omega
    · have := of_decide_eq_false z
      omega
  · rw [if_neg e] at h
    exact .inr (.inr ⟨e, of_decide_eq_false h⟩)
theorem ok_change_station (W : Wd P w K mg base) : FnU P w K mg base "change_station" 41 (fun x : NA => x.1) (fun x => [rLN x.2]) (fun x => NetOk x.1 ∧ x.2.length = 3) (fun x => stN (chgC 1 x.2) x.1) (fun x => .int (numR (chgC 1 x.2) x.1)) := by
  refine mu_change_station W.t 40 (fun _ => rfl) fun cdv A outer s0 H E x0 a F0 hc hr => ?_
  obtain ⟨net, args⟩ := x0
  obtain ⟨ok, ha⟩ : NetOk net ∧ args.length = 3 := hc
  obtain ⟨i, k, s, rfl⟩ := len3 ha
  refine mr_cons (Φ' := fun F => some (rA a F net) :: [some (rLN [i, k, s]), some (rZ (i : Int)), some (rZ (k : Int)), some (rZ (s : Int))]) (m_lift fun F => s_un3 (j0 := 2) (j1 := 3) (j2 := 4) (R0 := rZ (i : Int)) (R1 := rZ (k : Int)) (R2 := rZ (s : Int)) sc_change_station.nd (x_var (i := 1))) (mr_le (Φ' := fun F => some (rA a F net) :: [none, some (rZ (i : Int)), some (rZ (k : Int)), some (rZ (s : Int))]) (fun F => le_same (le_drop (Le.refl _))) ?_)
  refine mr_if (fun F => t_not (t_val (x_meth (ok_has_station W) W.t.cl hr (by decide) (x_rA (x_var (i := 0))) (net, i) (a_cons (x_var (i := 2)) a_nil) rfl trivial))) (fun h => ?_) (fun h => mr_if (fun F => PW.pt (w_or (t_gt (x_var (i := 3)) (x_globI (W.t.zs "MOST_KIND" (3) (by decide +kernel)))) fun _ => w_or1 (t_not (t_val (x_call (ok_are_servers W) hr (by decide) (k, s) (a_cons (x_var (i := 3)) (a_cons (x_var (i := 4)) a_nil)) rfl trivial))))) (fun h2 => ?_) (fun h2 => ?_))
  · refine mr_eq (mr_ret (v0 := .int (-2)) (net' := net) (fun F => (x_globI (W.t.zs "NO_PLACE" (-2) (by decide +kernel)))) (fun F => rfl)) (ends (r := Lrx4.error (-2)) ?_ rfl)
    show (if stationCount net ≤ i then (some net, Lrx4.error (-2)) else (if 3 < k ∨ s = 0 ∨ 20 < s ∨ (k ≠ 0 ∧ s ≠ 1) then (some net, Lrx4.error (-22)) else (some { net with stations := net.stations.set i ⟨k, s⟩, services := if k = 0 then (places net).map fun p => if stationOf net p = i then service net (place net i 0) else service net p else net.services }, Lrx4.number 0))) = (some net, Lrx4.error (-2))
    rw [if_pos (by have q : ¬ i < stationCount net := of_decide_eq_false (not_true h); omega)]
  · have hi : i < stationCount net := of_decide_eq_true (not_false2 h)
    have q : 3 < k ∨ s = 0 ∨ 20 < s ∨ (k ≠ 0 ∧ s ≠ 1) := by
      rcases Bool.or_eq_true _ _ |>.mp h2 with q | q
      · have : (3 : Int) < (k : Int) := of_decide_eq_true q
        exact .inl (by omega)
      · exact .inr (areS_no (not_true q))
    refine mr_eq (mr_ret (v0 := .int (-22)) (net' := net) (fun F => (x_globI (W.t.zs "OUTSIDE" (-22) (by decide +kernel)))) (fun F => rfl)) (ends (r := Lrx4.error (-22)) ?_ rfl)
    show (if stationCount net ≤ i then (some net, Lrx4.error (-2)) else (if 3 < k ∨ s = 0 ∨ 20 < s ∨ (k ≠ 0 ∧ s ≠ 1) then (some net, Lrx4.error (-22)) else (some { net with stations := net.stations.set i ⟨k, s⟩, services := if k = 0 then (places net).map fun p => if stationOf net p = i then service net (place net i 0) else service net p else net.services }, Lrx4.number 0))) = (some net, Lrx4.error (-22))
    rw [if_neg (by omega), if_pos q]
  · have hi : i < stationCount net := of_decide_eq_true (not_false2 h)
    have q := Bool.or_eq_false_iff.mp h2
    have k3 : k ≤ 3 := by
      have : ¬ (3 : Int) < (k : Int) := of_decide_eq_false q.1
      omega
    have ks : KS k s := areS_KS (not_false2 q.2) k3
    refine mr_eq (mr_cons (m_meth (ok_set_kind W) W.t.cl hr (by decide) (fun _ => [none, some (rZ (i : Int)), some (rZ (k : Int)), some (rZ (s : Int))]) (net, i, k, s) (fun F => x_var (i := 0)) (fun F => a_cons (x_var (i := 2)) (a_cons (x_var (i := 3)) (a_cons (x_var (i := 4)) a_nil))) ⟨ok, hi, ks⟩ (fun F => pu_none (pu_val (pu_val (pu_val pu_nil)))) (fun _ _ => rfl)) (mr_ret (v0 := .int 0) (net' := netKind net i k s) (fun F => x_int) (fun F => rfl))) (ends (r := Lrx4.number 0) ?_ rfl)
    show (if stationCount net ≤ i then (some net, Lrx4.error (-2)) else (if 3 < k ∨ s = 0 ∨ 20 < s ∨ (k ≠ 0 ∧ s ≠ 1) then (some net, Lrx4.error (-22)) else (some { net with stations := net.stations.set i ⟨k, s⟩, services := if k = 0 then (places net).map fun p => if stationOf net p = i then service net (place net i 0) else service net p else net.services }, Lrx4.number 0))) = _
    obtain ⟨z1, z2, z3⟩ := ks
    rw [if_neg (by omega), if_neg (by omega), kind_eq ok hi]
theorem ok_change_service (W : Wd P w K mg base) : FnU P w K mg base "change_service" 41 (fun x : NA => x.1) (fun x => [rLN x.2]) (fun x => NetOk x.1 ∧ x.2.length = 3) (fun x => stN (chgC 2 x.2) x.1) (fun x => .int (numR (chgC 2 x.2) x.1)) := by
  refine mu_change_service W.t 40 (fun _ => rfl) fun cdv A outer s0 H E x0 a F0 hc hr => ?_
  obtain ⟨net, args⟩ := x0
  obtain ⟨ok, ha⟩ : NetOk net ∧ args.length = 3 := hc
  obtain ⟨i, c, m, rfl⟩ := len3 ha
  refine mr_cons (Φ' := fun F => some (rA a F net) :: [some (rLN [i, c, m]), some (rZ (i : Int)), some (rZ (c : Int)), some (rZ (m : Int)), none]) (m_lift fun F => s_un3 (j0 := 2) (j1 := 3) (j2 := 4) (R0 := rZ (i : Int)) (R1 := rZ (c : Int)) (R2 := rZ (m : Int)) sc_change_service.nd (x_var (i := 1))) (mr_le (Φ' := fun F => some (rA a F net) :: [none, some (rZ (i : Int)), some (rZ (c : Int)), some (rZ (m : Int)), none]) (fun F => le_same (le_drop (Le.refl _))) ?_)
  refine mr_if (fun F => t_not (t_val (x_meth (ok_has_place W) W.t.cl hr (by decide) (x_rA (x_var (i := 0))) (net, i, c) (a_cons (x_var (i := 2)) (a_cons (x_var (i := 3)) a_nil)) rfl trivial))) (fun h => ?_) (fun h => mr_if (fun F => t_not (t_within (i := 1) (l := 100000) x_int (x_var (i := 4)) (x_globI (W.t.zs "MOST_RATE" (100000) (by decide +kernel))))) (fun h2 => ?_) (fun h2 => ?_))
  · refine mr_eq (mr_ret (v0 := .int (-2)) (net' := net) (fun F => (x_globI (W.t.zs "NO_PLACE" (-2) (by decide +kernel)))) (fun F => rfl)) (ends (r := Lrx4.error (-2)) ?_ rfl)
    show (if Lrx4.isPlace net i c = false then (some net, Lrx4.error (-2)) else (if m = 0 ∨ 100000 < m then (some net, Lrx4.error (-22)) else (some { net with services := if (getStation net i).kind = 0 then (places net).map fun p => if stationOf net p = i then m else service net p else net.services.set (place net i c) m }, Lrx4.number (service net (place net i c) : Nat)))) = (some net, Lrx4.error (-2))
    rw [if_pos (not_true h)]
  · have q : m = 0 ∨ 100000 < m := by
      rcases Bool.and_eq_false_iff.mp (not_true h2) with z | z <;> have := of_decide_eq_false z <;> omega
    refine mr_eq (mr_ret (v0 := .int (-22)) (net' := net) (fun F => (x_globI (W.t.zs "OUTSIDE" (-22) (by decide +kernel)))) (fun F => rfl)) (ends (r := Lrx4.error (-22)) ?_ rfl)
    show (if Lrx4.isPlace net i c = false then (some net, Lrx4.error (-2)) else (if m = 0 ∨ 100000 < m then (some net, Lrx4.error (-22)) else (some { net with services := if (getStation net i).kind = 0 then (places net).map fun p => if stationOf net p = i then m else service net p else net.services.set (place net i c) m }, Lrx4.number (service net (place net i c) : Nat)))) = (some net, Lrx4.error (-22))
    rw [if_neg (ff_ne (not_false2 h)), if_pos q]
  · have q1 : Lrx4.isPlace net i c = true := not_false2 h
    have p1 := place_of q1
    have c1 : c < net.classCount := p1.2
    have i1 : i < stationCount net := p1.1
    have c3 := ok.cl.2
    have hp : place net i c < placeCount net := place_lt p1.1 p1.2
    have q2 := Bool.and_eq_true _ _ |>.mp (not_false2 h2)
    have m1 : 1 ≤ m := of_decide_eq_true q2.1
    have m2 : m ≤ 100000 := of_decide_eq_true q2.2
    have pu : Pure [none, some (rZ (i : Int)), some (rZ (c : Int)), some (rZ (m : Int)), some (rZ ((service net (place net i c) : Nat) : Int))] := pu_none (pu_val (pu_val (pu_val (pu_val pu_nil))))
    refine mr_eq (mr_cons (Φ' := fun F => some (rA a F net) :: [none, some (rZ (i : Int)), some (rZ (c : Int)), some (rZ (m : Int)), some (rZ ((service net (place net i c) : Nat) : Int))]) (m_lift fun F => s_set (i := 5) sc_change_service.nd (x_ix (x_services W.t (x_rA (x_var (i := 0)))) (x_meth (ok_place_at W) W.t.cl hr (by decide) (x_rA (x_var (i := 0))) (net, i, c) (a_cons (x_var (i := 2)) (a_cons (x_var (i := 3)) a_nil)) rfl ⟨ok, by show c ≤ 1000; omega⟩) (at_nat (d := 1) (by rw [ok.ls]; exact hp)))) (mr_cons (m_meth (ok_set_service W) W.t.cl hr (by decide) (fun _ => [none, some (rZ (i : Int)), some (rZ (c : Int)), some (rZ (m : Int)), some (rZ ((service net (place net i c) : Nat) : Int))]) (net, i, c, m) (fun F => x_var (i := 0)) (fun F => a_cons (x_var (i := 2)) (a_cons (x_var (i := 3)) (a_cons (x_var (i := 4)) a_nil))) ⟨ok, i1, c1⟩ (fun F => pu) (fun _ _ => rfl)) (mr_ret (v0 := .int ((service net (place net i c) : Nat) : Int)) (net' := netServ net i c m) (fun F => x_var (i := 5)) (fun F => rfl)))) (ends (r := Lrx4.number (service net (place net i c) : Nat)) ?_ rfl)
    show (if Lrx4.isPlace net i c = false then (some net, Lrx4.error (-2)) else (if m = 0 ∨ 100000 < m then (some net, Lrx4.error (-22)) else (some { net with services := if (getStation net i).kind = 0 then (places net).map fun p => if stationOf net p = i then m else service net p else net.services.set (place net i c) m }, Lrx4.number (service net (place net i c) : Nat)))) = _
    rw [if_neg (ff_ne q1), if_neg (by omega), serv_eq ok]
theorem ok_change_arrival (W : Wd P w K mg base) : FnU P w K mg base "change_arrival" 41 (fun x : NA => x.1) (fun x => [rLN x.2]) (fun x => NetOk x.1 ∧ x.2.length = 3) (fun x => stN (chgC 3 x.2) x.1) (fun x => .int (numR (chgC 3 x.2) x.1)) := by
  refine mu_change_arrival W.t 40 (fun _ => rfl) fun cdv A outer s0 H E x0 a F0 hc hr => ?_
  obtain ⟨net, args⟩ := x0
  obtain ⟨ok, ha⟩ : NetOk net ∧ args.length = 3 := hc
  obtain ⟨i, c, m, rfl⟩ := len3 ha
  refine mr_cons (Φ' := fun F => some (rA a F net) :: [some (rLN [i, c, m]), some (rZ (i : Int)), some (rZ (c : Int)), some (rZ (m : Int)), none, none]) (m_lift fun F => s_un3 (j0 := 2) (j1 := 3) (j2 := 4) (R0 := rZ (i : Int)) (R1 := rZ (c : Int)) (R2 := rZ (m : Int)) sc_change_arrival.nd (x_var (i := 1))) (mr_le (Φ' := fun F => some (rA a F net) :: [none, some (rZ (i : Int)), some (rZ (c : Int)), some (rZ (m : Int)), none, none]) (fun F => le_same (le_drop (Le.refl _))) ?_)
  refine mr_if (fun F => t_not (t_val (x_meth (ok_has_place W) W.t.cl hr (by decide) (x_rA (x_var (i := 0))) (net, i, c) (a_cons (x_var (i := 2)) (a_cons (x_var (i := 3)) a_nil)) rfl trivial))) (fun h => ?_) (fun h => mr_if (fun F => t_gt (x_var (i := 4)) (x_globI (W.t.zs "MOST_RATE" (100000) (by decide +kernel)))) (fun h2 => ?_) (fun h2 => ?_))
  · refine mr_eq (mr_ret (v0 := .int (-2)) (net' := net) (fun F => (x_globI (W.t.zs "NO_PLACE" (-2) (by decide +kernel)))) (fun F => rfl)) (ends (r := Lrx4.error (-2)) ?_ rfl)
    show (if Lrx4.isPlace net i c = false then (some net, Lrx4.error (-2)) else (if 100000 < m then (some net, Lrx4.error (-22)) else (some { net with arrivals := net.arrivals.set (place net i c) m }, Lrx4.number (arrival net (place net i c) : Nat)))) = (some net, Lrx4.error (-2))
    rw [if_pos (not_true h)]
  · have q : (100000 : Int) < (m : Int) := of_decide_eq_true h2
    refine mr_eq (mr_ret (v0 := .int (-22)) (net' := net) (fun F => (x_globI (W.t.zs "OUTSIDE" (-22) (by decide +kernel)))) (fun F => rfl)) (ends (r := Lrx4.error (-22)) ?_ rfl)
    show (if Lrx4.isPlace net i c = false then (some net, Lrx4.error (-2)) else (if 100000 < m then (some net, Lrx4.error (-22)) else (some { net with arrivals := net.arrivals.set (place net i c) m }, Lrx4.number (arrival net (place net i c) : Nat)))) = (some net, Lrx4.error (-22))
    rw [if_neg (ff_ne (not_false2 h)), if_pos (by omega)]
  · have q1 : Lrx4.isPlace net i c = true := not_false2 h
    have p1 := place_of q1
    have c1 : c < net.classCount := p1.2
    have i1 : i < stationCount net := p1.1
    have c3 := ok.cl.2
    have hp : place net i c < placeCount net := place_lt p1.1 p1.2
    have q : ¬ (100000 : Int) < (m : Int) := of_decide_eq_false h2
    refine mr_eq (mr_cons (Φ' := fun F => some (rA a F net) :: [none, some (rZ (i : Int)), some (rZ (c : Int)), some (rZ (m : Int)), some (rZ ((place net i c : Nat) : Int)), none]) (m_lift fun F => s_set (i := 5) sc_change_arrival.nd (x_meth (ok_place_at W) W.t.cl hr (by decide) (x_rA (x_var (i := 0))) (net, i, c) (a_cons (x_var (i := 2)) (a_cons (x_var (i := 3)) a_nil)) rfl ⟨ok, by show c ≤ 1000; omega⟩))
      (mr_cons (Φ' := fun F => some (rA a F net) :: [none, some (rZ (i : Int)), some (rZ (c : Int)), some (rZ (m : Int)), some (rZ ((place net i c : Nat) : Int)), some (rZ ((arrival net (place net i c) : Nat) : Int))]) (m_lift fun F => s_set (i := 6) sc_change_arrival.nd (x_ix (x_arrivals W.t (x_rA (x_var (i := 0)))) (x_var (i := 5)) (at_nat (d := 0) (by rw [ok.la]; exact hp))))
      (mr_cons (m_put (fun F => F.r) (k := place net i c) (v := .int (m : Int)) (net := net) (net' := netR net (place net i c) m) (fun _ => [none, some (rZ (i : Int)), some (rZ (c : Int)), some (rZ (m : Int)), some (rZ ((place net i c : Nat) : Int)), some (rZ ((arrival net (place net i c) : Nat) : Int))]) (fun F => x_fA W.t.cl (W.t.no "arrivals" (by decide +kernel)) (x_var (i := 0)) (lk_arrivals _ F)) (fun F => x_var (i := 5)) (fun F => x_var (i := 4)) (fun F => pu_none (pu_val (pu_val (pu_val (pu_val (pu_val pu_nil)))))) fun F H hn => ⟨(in_ft F a).2.2.2.1, _, hn.r, by rw [zl_len, ok.la]; exact hp, at_r hn _ m⟩)
      (mr_ret (v0 := .int ((arrival net (place net i c) : Nat) : Int)) (net' := netR net (place net i c) m) (fun F => x_var (i := 6)) (fun F => rfl))))) (ends (r := Lrx4.number (arrival net (place net i c) : Nat)) ?_ rfl)
    show (if Lrx4.isPlace net i c = false then (some net, Lrx4.error (-2)) else (if 100000 < m then (some net, Lrx4.error (-22)) else (some { net with arrivals := net.arrivals.set (place net i c) m }, Lrx4.number (arrival net (place net i c) : Nat)))) = _
    rw [if_neg (ff_ne q1), if_neg (by omega)]
    rfl
theorem ok_change_leaving (W : Wd P w K mg base) : FnU P w K mg base "change_leaving" 41 (fun x : NA => x.1) (fun x => [rLN x.2]) (fun x => NetOk x.1 ∧ x.2.length = 3) (fun x => stN (chgC 5 x.2) x.1) (fun x => .int (numR (chgC 5 x.2) x.1)) := by
  refine mu_change_leaving W.t 40 (fun _ => rfl) fun cdv A outer s0 H E x0 a F0 hc hr => ?_
  obtain ⟨net, args⟩ := x0
  obtain ⟨ok, ha⟩ : NetOk net ∧ args.length = 3 := hc
  obtain ⟨i, c, m, rfl⟩ := len3 ha
  refine mr_cons (Φ' := fun F => some (rA a F net) :: [some (rLN [i, c, m]), some (rZ (i : Int)), some (rZ (c : Int)), some (rZ (m : Int)), none, none]) (m_lift fun F => s_un3 (j0 := 2) (j1 := 3) (j2 := 4) (R0 := rZ (i : Int)) (R1 := rZ (c : Int)) (R2 := rZ (m : Int)) sc_change_leaving.nd (x_var (i := 1))) (mr_le (Φ' := fun F => some (rA a F net) :: [none, some (rZ (i : Int)), some (rZ (c : Int)), some (rZ (m : Int)), none, none]) (fun F => le_same (le_drop (Le.refl _))) ?_)
  refine mr_if (fun F => t_not (t_val (x_meth (ok_has_place W) W.t.cl hr (by decide) (x_rA (x_var (i := 0))) (net, i, c) (a_cons (x_var (i := 2)) (a_cons (x_var (i := 3)) a_nil)) rfl trivial))) (fun h => ?_) (fun h => mr_if (fun F => t_gt (x_var (i := 4)) (x_globI (W.t.zs "MOST_WEIGHT" (1000) (by decide +kernel)))) (fun h2 => ?_) (fun h2 => ?_))
  · refine mr_eq (mr_ret (v0 := .int (-2)) (net' := net) (fun F => (x_globI (W.t.zs "NO_PLACE" (-2) (by decide +kernel)))) (fun F => rfl)) (ends (r := Lrx4.error (-2)) ?_ rfl)
    show (if Lrx4.isPlace net i c = false then (some net, Lrx4.error (-2)) else (if 1000 < m then (some net, Lrx4.error (-22)) else (some { net with leaving := net.leaving.set (place net i c) m }, Lrx4.number (leaveWeight net (place net i c) : Nat)))) = (some net, Lrx4.error (-2))
    rw [if_pos (not_true h)]
  · have q : (1000 : Int) < (m : Int) := of_decide_eq_true h2
    refine mr_eq (mr_ret (v0 := .int (-22)) (net' := net) (fun F => (x_globI (W.t.zs "OUTSIDE" (-22) (by decide +kernel)))) (fun F => rfl)) (ends (r := Lrx4.error (-22)) ?_ rfl)
    show (if Lrx4.isPlace net i c = false then (some net, Lrx4.error (-2)) else (if 1000 < m then (some net, Lrx4.error (-22)) else (some { net with leaving := net.leaving.set (place net i c) m }, Lrx4.number (leaveWeight net (place net i c) : Nat)))) = (some net, Lrx4.error (-22))
    rw [if_neg (ff_ne (not_false2 h)), if_pos (by omega)]
  · have q1 : Lrx4.isPlace net i c = true := not_false2 h
    have p1 := place_of q1
    have c1 : c < net.classCount := p1.2
    have i1 : i < stationCount net := p1.1
    have c3 := ok.cl.2
    have hp : place net i c < placeCount net := place_lt p1.1 p1.2
    have q : ¬ (1000 : Int) < (m : Int) := of_decide_eq_false h2
    refine mr_eq (mr_cons (Φ' := fun F => some (rA a F net) :: [none, some (rZ (i : Int)), some (rZ (c : Int)), some (rZ (m : Int)), some (rZ ((place net i c : Nat) : Int)), none]) (m_lift fun F => s_set (i := 5) sc_change_leaving.nd (x_meth (ok_place_at W) W.t.cl hr (by decide) (x_rA (x_var (i := 0))) (net, i, c) (a_cons (x_var (i := 2)) (a_cons (x_var (i := 3)) a_nil)) rfl ⟨ok, by show c ≤ 1000; omega⟩))
      (mr_cons (Φ' := fun F => some (rA a F net) :: [none, some (rZ (i : Int)), some (rZ (c : Int)), some (rZ (m : Int)), some (rZ ((place net i c : Nat) : Int)), some (rZ ((leaveWeight net (place net i c) : Nat) : Int))]) (m_lift fun F => s_set (i := 6) sc_change_leaving.nd (x_ix (x_leaving W.t (x_rA (x_var (i := 0)))) (x_var (i := 5)) (at_nat (d := 0) (by rw [ok.ll]; exact hp))))
      (mr_cons (m_put (fun F => F.l) (k := place net i c) (v := .int (m : Int)) (net := net) (net' := netL net (place net i c) m) (fun _ => [none, some (rZ (i : Int)), some (rZ (c : Int)), some (rZ (m : Int)), some (rZ ((place net i c : Nat) : Int)), some (rZ ((leaveWeight net (place net i c) : Nat) : Int))]) (fun F => x_fA W.t.cl (W.t.no "leaving" (by decide +kernel)) (x_var (i := 0)) (lk_leaving _ F)) (fun F => x_var (i := 5)) (fun F => x_var (i := 4)) (fun F => pu_none (pu_val (pu_val (pu_val (pu_val (pu_val pu_nil)))))) fun F H hn => ⟨(in_ft F a).2.2.2.2.1, _, hn.l, by rw [zl_len, ok.ll]; exact hp, at_l hn _ m⟩)
      (mr_ret (v0 := .int ((leaveWeight net (place net i c) : Nat) : Int)) (net' := netL net (place net i c) m) (fun F => x_var (i := 6)) (fun F => rfl))))) (ends (r := Lrx4.number (leaveWeight net (place net i c) : Nat)) ?_ rfl)
    show (if Lrx4.isPlace net i c = false then (some net, Lrx4.error (-2)) else (if 1000 < m then (some net, Lrx4.error (-22)) else (some { net with leaving := net.leaving.set (place net i c) m }, Lrx4.number (leaveWeight net (place net i c) : Nat)))) = _
    rw [if_neg (ff_ne q1), if_neg (by omega)]
    rfl
theorem ok_change_route (W : Wd P w K mg base) : FnU P w K mg base "change_route" 41 (fun x : NA => x.1) (fun x => [rLN x.2]) (fun x => NetOk x.1 ∧ x.2.length = 5) (fun x => stN (chgC 4 x.2) x.1) (fun x => .int (numR (chgC 4 x.2) x.1)) := by
  refine mu_change_route W.t 40 (fun _ => rfl) fun cdv A outer s0 H E x0 a F0 hc hr => ?_
  obtain ⟨net, args⟩ := x0
  obtain ⟨ok, ha⟩ : NetOk net ∧ args.length = 5 := hc
  obtain ⟨i, c, j, d, m, rfl⟩ := len5 ha
  refine mr_cons (Φ' := fun F => some (rA a F net) :: [some (rLN [i, c, j, d, m]), some (rZ (i : Int)), some (rZ (c : Int)), some (rZ (j : Int)), some (rZ (d : Int)), some (rZ (m : Int)), none, none, none]) (m_lift fun F => s_un5 (j0 := 2) (j1 := 3) (j2 := 4) (j3 := 5) (j4 := 6) (R0 := rZ (i : Int)) (R1 := rZ (c : Int)) (R2 := rZ (j : Int)) (R3 := rZ (d : Int)) (R4 := rZ (m : Int)) sc_change_route.nd (x_var (i := 1))) (mr_le (Φ' := fun F => some (rA a F net) :: [none, some (rZ (i : Int)), some (rZ (c : Int)), some (rZ (j : Int)), some (rZ (d : Int)), some (rZ (m : Int)), none, none, none]) (fun F => le_same (le_drop (Le.refl _))) ?_)
  refine mr_if (fun F => PW.pt (w_or (t_not (t_val (x_meth (ok_has_place W) W.t.cl hr (by decide) (x_rA (x_var (i := 0))) (net, i, c) (a_cons (x_var (i := 2)) (a_cons (x_var (i := 3)) a_nil)) rfl trivial))) fun _ => w_or1 (t_not (t_val (x_meth (ok_has_place W) W.t.cl hr (by decide) (x_rA (x_var (i := 0))) (net, j, d) (a_cons (x_var (i := 4)) (a_cons (x_var (i := 5)) a_nil)) rfl trivial))))) (fun h => ?_) (fun h => ?_)
  · have q : Lrx4.isPlace net i c = false ∨ Lrx4.isPlace net j d = false := by
      rcases Bool.or_eq_true _ _ |>.mp h with q | q
      · exact .inl (not_true q)
      · exact .inr (not_true q)
    refine mr_eq (mr_ret (v0 := .int (-2)) (net' := net) (fun F => (x_globI (W.t.zs "NO_PLACE" (-2) (by decide +kernel)))) (fun F => rfl)) (ends (r := Lrx4.error (-2)) ?_ rfl)
    show (if Lrx4.isPlace net i c = false ∨ Lrx4.isPlace net j d = false then (some net, Lrx4.error (-2)) else (if 1000 < m then (some net, Lrx4.error (-22)) else (some { net with routes := net.routes.set (place net i c) ((net.routes.getD (place net i c) []).set (place net j d) m) }, Lrx4.number (routeWeight net (place net i c) (place net j d) : Nat)))) = (some net, Lrx4.error (-2))
    rw [if_pos q]
  · have q := Bool.or_eq_false_iff.mp h
    have q1 : Lrx4.isPlace net i c = true := not_false2 q.1
    have q2 : Lrx4.isPlace net j d = true := not_false2 q.2
    have nq : ¬ (Lrx4.isPlace net i c = false ∨ Lrx4.isPlace net j d = false) := by
      rintro (z | z)
      · exact ff_ne q1 z
      · exact ff_ne q2 z
    have p1 := place_of q1
    have p2 := place_of q2
    have c1 : c < net.classCount := p1.2
    have d1 : d < net.classCount := p2.2
    have c3 := ok.cl.2
    have hp : place net i c < placeCount net := place_lt p1.1 p1.2
    have hp2 : place net j d < placeCount net := place_lt p2.1 p2.2
    have hl : place net j d < (net.routes.getD (place net i c) []).length := by rw [ok.lrr _ (getD_mem (by rw [ok.lr]; exact hp))]; exact hp2
    refine mr_if (fun F => t_gt (x_var (i := 6)) (x_globI (W.t.zs "MOST_WEIGHT" (1000) (by decide +kernel)))) (fun h2 => ?_) (fun h2 => ?_)
    · have q : (1000 : Int) < (m : Int) := of_decide_eq_true h2
      refine mr_eq (mr_ret (v0 := .int (-22)) (net' := net) (fun F => (x_globI (W.t.zs "OUTSIDE" (-22) (by decide +kernel)))) (fun F => rfl)) (ends (r := Lrx4.error (-22)) ?_ rfl)
      show (if Lrx4.isPlace net i c = false ∨ Lrx4.isPlace net j d = false then (some net, Lrx4.error (-2)) else (if 1000 < m then (some net, Lrx4.error (-22)) else (some { net with routes := net.routes.set (place net i c) ((net.routes.getD (place net i c) []).set (place net j d) m) }, Lrx4.number (routeWeight net (place net i c) (place net j d) : Nat)))) = (some net, Lrx4.error (-22))
      rw [if_neg nq, if_pos (by omega)]
    · have q : ¬ (1000 : Int) < (m : Int) := of_decide_eq_false h2
      refine mr_eq (mr_cons (Φ' := fun F => some (rA a F net) :: [none, some (rZ (i : Int)), some (rZ (c : Int)), some (rZ (j : Int)), some (rZ (d : Int)), some (rZ (m : Int)), some (rAtL (F.rows.getD (place net i c) 0) (net.routes.getD (place net i c) [])), none, none]) (m_lift fun F => s_set (i := 7) sc_change_route.nd (x_rowA W.t hp ok.lr (x_var (i := 0)) (x_meth (ok_place_at W) W.t.cl hr (by decide) (x_rA (x_var (i := 0))) (net, i, c) (a_cons (x_var (i := 2)) (a_cons (x_var (i := 3)) a_nil)) rfl ⟨ok, by show c ≤ 1000; omega⟩)))
        (mr_cons (Φ' := fun F => some (rA a F net) :: [none, some (rZ (i : Int)), some (rZ (c : Int)), some (rZ (j : Int)), some (rZ (d : Int)), some (rZ (m : Int)), some (rAtL (F.rows.getD (place net i c) 0) (net.routes.getD (place net i c) [])), some (rZ ((place net j d : Nat) : Int)), none]) (m_lift fun F => s_set (i := 8) sc_change_route.nd (x_meth (ok_place_at W) W.t.cl hr (by decide) (x_rA (x_var (i := 0))) (net, j, d) (a_cons (x_var (i := 4)) (a_cons (x_var (i := 5)) a_nil)) rfl ⟨ok, by show d ≤ 1000; omega⟩))
        (mr_cons (Φ' := fun F => some (rA a F net) :: [none, some (rZ (i : Int)), some (rZ (c : Int)), some (rZ (j : Int)), some (rZ (d : Int)), some (rZ (m : Int)), some (rAtL (F.rows.getD (place net i c) 0) (net.routes.getD (place net i c) [])), some (rZ ((place net j d : Nat) : Int)), some (rZ ((routeWeight net (place net i c) (place net j d) : Nat) : Int))]) (m_lift fun F => s_set (i := 9) sc_change_route.nd (x_ix (x_imp (x_var (i := 7)) rAtL_N) (x_var (i := 8)) (at_nat (d := 0) hl)))
        (mr_le (Φ' := fun F => some (rA a F net) :: [none, some (rZ (i : Int)), some (rZ (c : Int)), some (rZ (j : Int)), some (rZ (d : Int)), some (rZ (m : Int)), some (rV (.ref (F.rows.getD (place net i c) 0))), some (rZ ((place net j d : Nat) : Int)), some (rZ ((routeWeight net (place net i c) (place net j d) : Nat) : Int))]) (fun F => le_same (le_same (le_same (le_same (le_same (le_same (le_same (le_imp rAtL_V (Le.refl _)))))))))
        (mr_cons (m_put (fun F => F.rows.getD (place net i c) 0) (k := place net j d) (v := .int (m : Int)) (net := net) (net' := netW net (place net i c) (place net j d) m) (fun F => [none, some (rZ (i : Int)), some (rZ (c : Int)), some (rZ (j : Int)), some (rZ (d : Int)), some (rZ (m : Int)), some (rV (.ref (F.rows.getD (place net i c) 0))), some (rZ ((place net j d : Nat) : Int)), some (rZ ((routeWeight net (place net i c) (place net j d) : Nat) : Int))]) (fun F => x_var (i := 7)) (fun F => x_var (i := 8)) (fun F => x_var (i := 6)) (fun F => pu_none (pu_val (pu_val (pu_val (pu_val (pu_val (pu_val (pu_val (pu_val pu_nil))))))))) fun F H hn => ?_)
        (mr_ret (v0 := .int ((routeWeight net (place net i c) (place net j d) : Nat) : Int)) (net' := netW net (place net i c) (place net j d) m) (fun F => x_var (i := 9)) (fun F => rfl))))))) (ends (r := Lrx4.number (routeWeight net (place net i c) (place net j d) : Nat)) ?_ rfl)
      · have il : place net i c < F.rows.length := by rw [hn.rl, ok.lr]; exact hp
        have hq : F.rows[place net i c]? = some (F.rows.getD (place net i c) 0) := by rw [List.getD_eq_getElem?_getD, List.getElem?_eq_getElem il]; rfl
        refine ⟨?_, _, hn.rw _ _ hq, by rw [zl_len]; exact hl, at_w hn hq _ m⟩
        unfold ft
        exact List.mem_cons_of_mem _ (List.mem_append_right _ (List.mem_of_getElem? hq))
      · show (if Lrx4.isPlace net i c = false ∨ Lrx4.isPlace net j d = false then (some net, Lrx4.error (-2)) else (if 1000 < m then (some net, Lrx4.error (-22)) else (some { net with routes := net.routes.set (place net i c) ((net.routes.getD (place net i c) []).set (place net j d) m) }, Lrx4.number (routeWeight net (place net i c) (place net j d) : Nat)))) = _
        rw [if_neg nq, if_neg (by omega)]
        rfl
theorem ok_clear_routes (W : Wd P w K mg base) : FnU P w K mg base "clear_routes" 41 (fun x : NA => x.1) (fun x => [rLN x.2]) (fun x => NetOk x.1 ∧ x.2.length = 2) (fun x => stN (chgC 6 x.2) x.1) (fun x => .int (numR (chgC 6 x.2) x.1)) := by
  refine mu_clear_routes W.t 40 (fun _ => rfl) fun cdv A outer s0 H E x0 a F0 hc hr => ?_
  obtain ⟨net, args⟩ := x0
  obtain ⟨ok, ha⟩ : NetOk net ∧ args.length = 2 := hc
  obtain ⟨i, c, rfl⟩ := len2 ha
  refine mr_cons (Φ' := fun F => some (rA a F net) :: [some (rLN [i, c]), some (rZ (i : Int)), some (rZ (c : Int)), none, none]) (m_lift fun F => s_un2 (j0 := 2) (j1 := 3) (R0 := rZ (i : Int)) (R1 := rZ (c : Int)) sc_clear_routes.nd (x_var (i := 1))) (mr_le (Φ' := fun F => some (rA a F net) :: [none, some (rZ (i : Int)), some (rZ (c : Int)), none, none]) (fun F => le_same (le_drop (Le.refl _))) ?_)
  refine mr_if (fun F => t_not (t_val (x_meth (ok_has_place W) W.t.cl hr (by decide) (x_rA (x_var (i := 0))) (net, i, c) (a_cons (x_var (i := 2)) (a_cons (x_var (i := 3)) a_nil)) rfl trivial))) (fun h => ?_) (fun h => ?_)
  · refine mr_eq (mr_ret (v0 := .int (-2)) (net' := net) (fun F => (x_globI (W.t.zs "NO_PLACE" (-2) (by decide +kernel)))) (fun F => rfl)) (ends (r := Lrx4.error (-2)) ?_ rfl)
    show (if Lrx4.isPlace net i c = false then (some net, Lrx4.error (-2)) else (some { net with routes := net.routes.set (place net i c) (List.replicate (placeCount net) 0), leaving := net.leaving.set (place net i c) 0 }, Lrx4.number (weightSum net (place net i c) : Nat))) = (some net, Lrx4.error (-2))
    rw [if_pos (not_true h)]
  · have q1 : Lrx4.isPlace net i c = true := not_false2 h
    have p1 := place_of q1
    have c1 : c < net.classCount := p1.2
    have i1 : i < stationCount net := p1.1
    have c3 := ok.cl.2
    have hp : place net i c < placeCount net := place_lt p1.1 p1.2
    refine mr_eq (mr_cons (Φ' := fun F => some (rA a F net) :: [none, some (rZ (i : Int)), some (rZ (c : Int)), some (rZ ((place net i c : Nat) : Int)), none]) (m_lift fun F => s_set (i := 4) sc_clear_routes.nd (x_meth (ok_place_at W) W.t.cl hr (by decide) (x_rA (x_var (i := 0))) (net, i, c) (a_cons (x_var (i := 2)) (a_cons (x_var (i := 3)) a_nil)) rfl ⟨ok, by show c ≤ 1000; omega⟩))
      (mr_cons (Φ' := fun F => some (rA a F net) :: [none, some (rZ (i : Int)), some (rZ (c : Int)), some (rZ ((place net i c : Nat) : Int)), some (rZ ((weightSum net (place net i c) : Nat) : Int))]) (m_lift fun F => s_set (i := 5) sc_clear_routes.nd (x_call (ok_weight_sum W) hr (by decide) (net, place net i c) (a_cons (x_rA (x_var (i := 0))) (a_cons (x_var (i := 4)) a_nil)) rfl ⟨ok, hp⟩))
      (mr_cons (m_meth (ok_clear W) W.t.cl hr (by decide) (fun _ => [none, some (rZ (i : Int)), some (rZ (c : Int)), some (rZ ((place net i c : Nat) : Int)), some (rZ ((weightSum net (place net i c) : Nat) : Int))]) (net, place net i c) (fun F => x_var (i := 0)) (fun F => a_cons (x_var (i := 4)) a_nil) ⟨ok, hp⟩ (fun F => pu_none (pu_val (pu_val (pu_val (pu_val pu_nil))))) (fun _ _ => rfl))
      (mr_ret (v0 := .int ((weightSum net (place net i c) : Nat) : Int)) (net' := netClr net (place net i c)) (fun F => x_var (i := 5)) (fun F => rfl))))) (ends (r := Lrx4.number (weightSum net (place net i c) : Nat)) ?_ rfl)
    show (if Lrx4.isPlace net i c = false then (some net, Lrx4.error (-2)) else (some { net with routes := net.routes.set (place net i c) (List.replicate (placeCount net) 0), leaving := net.leaving.set (place net i c) 0 }, Lrx4.number (weightSum net (place net i c) : Nat))) = _
    rw [if_neg (ff_ne q1)]
    rfl
theorem ok_scale_arrivals (W : Wd P w K mg base) : FnU P w K mg base "scale_arrivals" 41 (fun x : NA => x.1) (fun x => [rLN x.2]) (fun x => NetOk x.1 ∧ x.2.length = 2) (fun x => stN (chgC 7 x.2) x.1) (fun x => .int (numR (chgC 7 x.2) x.1)) := by
  refine mu_scale_arrivals W.t 40 (fun _ => rfl) fun cdv A outer s0 H E x0 a F0 hc hr => ?_
  obtain ⟨net, args⟩ := x0
  obtain ⟨ok, ha⟩ : NetOk net ∧ args.length = 2 := hc
  obtain ⟨n, d, rfl⟩ := len2 ha
  refine mr_cons (Φ' := fun F => some (rA a F net) :: [some (rLN [n, d]), some (rZ (n : Int)), some (rZ (d : Int)), none]) (m_lift fun F => s_un2 (j0 := 2) (j1 := 3) (R0 := rZ (n : Int)) (R1 := rZ (d : Int)) sc_scale_arrivals.nd (x_var (i := 1))) (mr_le (Φ' := fun F => some (rA a F net) :: [none, some (rZ (n : Int)), some (rZ (d : Int)), none]) (fun F => le_same (le_drop (Le.refl _))) ?_)
  refine mr_if (fun F => PW.pt (w_or (t_gt (x_var (i := 2)) (x_globI (W.t.zs "MOST_FACTOR" (1000) (by decide +kernel)))) fun _ => w_or1 (t_not (t_within (i := 1) (l := 1000) x_int (x_var (i := 3)) (x_globI (W.t.zs "MOST_FACTOR" (1000) (by decide +kernel))))))) (fun h => ?_) (fun h => ?_)
  · have q : d = 0 ∨ 1000 < n ∨ 1000 < d := by
      rcases Bool.or_eq_true _ _ |>.mp h with z | z
      · have : (1000 : Int) < (n : Int) := of_decide_eq_true z
        omega
      · rcases Bool.and_eq_false_iff.mp (not_true z) with z | z <;> have := of_decide_eq_false z <;> omega
    refine mr_eq (mr_ret (v0 := .int (-22)) (net' := net) (fun F => (x_globI (W.t.zs "OUTSIDE" (-22) (by decide +kernel)))) (fun F => rfl)) (ends (r := Lrx4.error (-22)) ?_ rfl)
    show (if d = 0 ∨ 1000 < n ∨ 1000 < d ∨ (net.arrivals.any fun a => decide (100000 < a * n / d)) = true then (some net, Lrx4.error (-22)) else (if (net.arrivals.any fun a => a * n % d != 0) = true then (some net, Lrx4.error (-33)) else (some { net with arrivals := net.arrivals.map fun a => a * n / d }, Lrx4.number 0))) = (some net, Lrx4.error (-22))
    rw [if_pos]
    rcases q with z | z | z
    · exact .inl z
    · exact .inr (.inl z)
    · exact .inr (.inr (.inl z))
  · have z := Bool.or_eq_false_iff.mp h
    have n1 : ¬ (1000 : Int) < (n : Int) := of_decide_eq_false z.1
    have z2 := Bool.and_eq_true _ _ |>.mp (not_false2 z.2)
    have d1 : 1 ≤ d := of_decide_eq_true z2.1
    have d2 : d ≤ 1000 := of_decide_eq_true z2.2
    have n15 := ok.n1.2
    have la := ok.la
    have ln : (net.arrivals.map fun (n : Nat) => rV (V.int (n : Int))).length = net.arrivals.length := List.length_map _
    have big : ∀ q, net.arrivals.getD q 0 ≤ 100000 := fun q => getD_le ok.ba (by decide)
    have fd : ∀ a : Nat, ((a : Int) * (n : Int)).fdiv (d : Int) = ((a * n / d : Nat) : Int) := fun a => by
      rw [← Int.natCast_mul, Int.fdiv_eq_ediv_of_nonneg _ (by omega)]
      rfl
    have fm : ∀ a : Nat, ((a : Int) * (n : Int)).fmod (d : Int) = ((a * n % d : Nat) : Int) := fun a => by
      rw [← Int.natCast_mul, Int.fmod_eq_emod_of_nonneg _ (by omega)]
      rfl
    refine mr_if (fun F => t_val (x_any (bs := net.arrivals.map fun a => decide (100000 < a * n / d)) (W.t.frees _ (by decide +kernel)) (x_eq (x_lc (n := net.arrivals.length) (is := [4]) (own := [("arrival", 4)]) (fun q => rB (decide (100000 < net.arrivals.getD q 0 * n / d))) sc_scale_arrivals.nd (xi_n (i_list (x_arrivals W.t (x_rA (x_var (i := 0))))) ln) (blkOk_by (N := N_scale_arrivals) (sc := defScope s_scale_arrivals) (by decide +kernel)) rfl .one (fun _ _ _ _ _ => g_one sc_scale_arrivals.nd) (fun s' H' C' cl fp q hq => ?_)) ?_))) (fun h3 => ?_) (fun h3 => mr_if (fun F => t_val (x_any (bs := net.arrivals.map fun a => decide (0 < a * n % d)) (W.t.frees _ (by decide +kernel)) (x_eq (x_lc (n := net.arrivals.length) (is := [4]) (own := [("arrival", 4)]) (fun q => rB (decide (0 < net.arrivals.getD q 0 * n % d))) sc_scale_arrivals.nd (xi_n (i_list (x_arrivals W.t (x_rA (x_var (i := 0))))) ln) (blkOk_by (N := N_scale_arrivals) (sc := defScope s_scale_arrivals) (by decide +kernel)) rfl .one (fun _ _ _ _ _ => g_one sc_scale_arrivals.nd) (fun s' H' C' cl fp q hq => ?_)) ?_))) (fun h4 => ?_) (fun h4 => ?_))
    · rw [getD_natR hq]
      refine x_eq (x_gt (x_fdivP W.seer W.tree hr (x_mul (x_var (i := 4)) (x_var (i := 2)) (small_mul (by have := big q; omega) (by omega))) (x_var (i := 3)) (by omega)) (x_globI (W.t.zs "MOST_RATE" (100000) (by decide +kernel)))) ?_
      rw [fd]
      exact congrArg rB (dec_lt 100000 _)
    · rw [range_b (f := fun q => decide (100000 < net.arrivals.getD q 0 * n / d)), range_getD (d := 0) (f := fun a => decide (100000 < a * n / d))]
    · have h3 : (net.arrivals.any fun a => decide (100000 < a * n / d)) = true := by rw [← h3, List.any_map]; rfl
      refine mr_eq (mr_ret (v0 := .int (-22)) (net' := net) (fun F => (x_globI (W.t.zs "OUTSIDE" (-22) (by decide +kernel)))) (fun F => rfl)) (ends (r := Lrx4.error (-22)) ?_ rfl)
      show (if d = 0 ∨ 1000 < n ∨ 1000 < d ∨ (net.arrivals.any fun a => decide (100000 < a * n / d)) = true then (some net, Lrx4.error (-22)) else (if (net.arrivals.any fun a => a * n % d != 0) = true then (some net, Lrx4.error (-33)) else (some { net with arrivals := net.arrivals.map fun a => a * n / d }, Lrx4.number 0))) = (some net, Lrx4.error (-22))
      rw [if_pos (.inr (.inr (.inr h3)))]
    · rw [getD_natR hq]
      refine x_eq (x_gt (x_modN (x_mul (x_var (i := 4)) (x_var (i := 2)) (small_mul (by have := big q; omega) (by omega))) (x_var (i := 3)) (by omega)) x_int) ?_
      rw [fm]
      exact congrArg rB (dec_gt0 _)
    · rw [range_b (f := fun q => decide (0 < net.arrivals.getD q 0 * n % d)), range_getD (d := 0) (f := fun a => decide (0 < a * n % d))]
    · have h3 : (net.arrivals.any fun a => decide (100000 < a * n / d)) = false := by rw [← h3, List.any_map]; rfl
      have h4 : (net.arrivals.any fun a => a * n % d != 0) = true := by
        rw [← h4, List.any_map]
        congr 1
        funext a
        show (a * n % d != 0) = decide (0 < a * n % d)
        rw [Bool.eq_iff_iff, bne_iff_ne, decide_eq_true_eq]
        omega
      refine mr_eq (mr_ret (v0 := .int (-33)) (net' := net) (fun F => (x_globI (W.t.zs "NO_RESULT" (-33) (by decide +kernel)))) (fun F => rfl)) (ends (r := Lrx4.error (-33)) ?_ rfl)
      show (if d = 0 ∨ 1000 < n ∨ 1000 < d ∨ (net.arrivals.any fun a => decide (100000 < a * n / d)) = true then (some net, Lrx4.error (-22)) else (if (net.arrivals.any fun a => a * n % d != 0) = true then (some net, Lrx4.error (-33)) else (some { net with arrivals := net.arrivals.map fun a => a * n / d }, Lrx4.number 0))) = (some net, Lrx4.error (-33))
      rw [if_neg, if_pos h4]
      rintro (y | y | y | y)
      · omega
      · omega
      · omega
      · rw [h3] at y; cases y
    · have h3 : (net.arrivals.any fun a => decide (100000 < a * n / d)) = false := by rw [← h3, List.any_map]; rfl
      have h4 : (net.arrivals.any fun a => a * n % d != 0) = false := by
        rw [← h4, List.any_map]
        congr 1
        funext a
        show (a * n % d != 0) = decide (0 < a * n % d)
        rw [Bool.eq_iff_iff, bne_iff_ne, decide_eq_true_eq]
        omega
      refine mr_eq (mr_cons (m_newR (l := net.arrivals.map fun a => a * n / d) [none, some (rZ (n : Int)), some (rZ (d : Int)), none] W.t.cl (W.t.no "arrivals" (by decide +kernel)) (fun F => x_var (i := 0)) (fun F => f_eq (f_lc (n := net.arrivals.length) (is := [4]) (own := [("arrival", 4)]) (fun q => rZ ((net.arrivals.getD q 0 * n / d : Nat) : Int)) sc_scale_arrivals.nd (xi_n (i_list (x_arrivals W.t (x_rA (x_var (i := 0))))) ln) (blkOk_by (N := N_scale_arrivals) (sc := defScope s_scale_arrivals) (by decide +kernel)) rfl .one (fun _ _ _ _ _ => g_one sc_scale_arrivals.nd) (fun s' H' C' cl fp q hq => ?_)) ?_) (pu_none (pu_val (pu_val (pu_none pu_nil))))) (mr_ret (v0 := .int 0) (net' := netRl net (net.arrivals.map fun a => a * n / d)) (fun F => x_int) (fun F => rfl))) (ends (r := Lrx4.number 0) ?_ rfl)
      · rw [getD_natR hq]
        refine x_eq (x_fdivP W.seer W.tree hr (x_mul (x_var (i := 4)) (x_var (i := 2)) (small_mul (by have := big q; omega) (by omega))) (x_var (i := 3)) (by omega)) ?_
        rw [fd]
      · rw [range_z (f := fun q => net.arrivals.getD q 0 * n / d), range_getD (d := 0) (f := fun a => a * n / d)]
      · show (if d = 0 ∨ 1000 < n ∨ 1000 < d ∨ (net.arrivals.any fun a => decide (100000 < a * n / d)) = true then (some net, Lrx4.error (-22)) else (if (net.arrivals.any fun a => a * n % d != 0) = true then (some net, Lrx4.error (-33)) else (some { net with arrivals := net.arrivals.map fun a => a * n / d }, Lrx4.number 0))) = _
        rw [if_neg, if_neg (by rw [h4]; decide)]
        · rfl
        · rintro (y | y | y | y)
          · omega
          · omega
          · omega
          · rw [h3] at y; cases y
end
end OQ
/-! changes.py: changed -/
namespace OQ
open PySem PySem.Spec PyProof.Rows L2
open Lrx4 (Network Station stationCount placeCount places stationOf place placesOf getStation arrival service routeWeight leaveWeight weightSum)
def chgN (n : Nat) (a : List Nat) : Prop := (n = 1 ∨ n = 2 ∨ n = 3 ∨ n = 5 → a.length = 3) ∧ (n = 4 → a.length = 5) ∧ (n = 6 ∨ n = 7 → a.length = 2)
section
variable {X : Cx} {a : Addr} {F0 : Foot} {H0 : Hp} {Φ : Foot → Ctx} {e : Expr} {es : List Expr} {pos p cpos : Pos} {α : Type} {nt nt' : α → Network} {Rs : α → List Rp} {C : α → Prop} {v0 : α → V} {x y : Str} {k j i : Nat} {A0 : Around} {ad : Addr}
/-- return deed(net, ..) -/
theorem mr_callL (M : FnU X.prog X.w X.K X.mg X.base x k nt Rs C nt' v0) (hm : X.mg x = some (.ref ad)) (hr : Room j A0) (hk : k ≤ j) (x0 : α) (ha : ∀ F, XA X (e :: es) (Φ F) (rA a F (nt x0) :: Rs x0)) (hc : C x0) (hA : X.A = A0 := by rfl) (hi : ∀ F, (Φ F)[i]? = some (some (rV (.ref ad))) := by intro _; rfl)
    (hN : X.N[i]? = some y := by rfl) (hv : Vis X.env.scope y := by first | exact Or.inl rfl | exact Or.inr (Or.inl rfl) | exact Or.inr (Or.inr rfl))
    (hdb : (y == ("__debug__" : Str)) = false := by decide) (hcd : (y == ("__classdict__" : Str)) = false := by decide)
    (he : starEach (e :: es) X.env = (false, eval e X.env) :: starEach es X.env := by rfl) (hpl : (backTo cpos (starEach es X.env)).any (·.1) = false := by rfl) : MRs X a F0 H0 [.Return (some (.Call (.Name y p) (e :: es) [] cpos)) pos] Φ (nt' x0) (v0 x0) := by
  obtain ⟨f, fd, ps, F1, hm1, kp, hb⟩ := M.ex
  subst hA
  rw [hm] at hm1
  cases hm1
  refine ⟨fun pins s σ H D I ⟨F, kq, en, q⟩ => ?_⟩
  refine (pss_one (ps_ret (pos := pos) (pe_callL (p := p) (E := E0) F1 (hr.mono hk) hN hv kp hb .nil pass0 (ha F) hdb hcd he hpl))).run pins s σ H D I ?_
  obtain ⟨v, h1, h2⟩ := en.get (hi F)
  have h2 : v = .ref ad := h2
  subst h2
  refine ⟨h1, H, Ex.refl _, en, fun vs G2 H2 g2 r4 => ?_⟩
  show spU nt Rs C nt' v0 (vs ++ []) H2 _ E0
  rw [List.append_nil]
  match vs, r4 with
  | u :: ws, ⟨⟨r5, r6⟩, r7⟩ =>
    refine ⟨x0, a, F, ws, by rw [r5], r6.up g2.sub, r7.up g2.sub, hc, fun H' F' k' hn => q H' F' ((kq.up g2.kept).trans k') hn⟩
end
section
variable {P : Program} {w : World} {K : PySem.W.Frag} {mg : Str → Option Value} {base : Heap}
theorem chg_case (W : Wd P w K mg base) {cdv : Value} {A : Around} {outer : List Env} {s : Shared} {H : Hp} {E : XK} (hr : Room 41 (cx P w K mg base N_changed "changed" s_changed a_changed cdv A outer s H E).A) {nm : Str} {ad : Addr} {n k : Nat} {net : Network} {args : List Nat} {C : NA → Prop} {a : Addr} {F0 : Foot}
    (F : FnU P w K mg base nm 41 (fun x : NA => x.1) (fun x => [rLN x.2]) C (fun x => stN (chgC n x.2) x.1) (fun x => .int (numR (chgC n x.2) x.1))) (hm : (mainL.find? (fun p => p.1 == some nm)).map (·.2) = some (.ref ad)) (hk : (tCHANGES.map svV)[k]? = some (.ref ad)) (hn : ((n : Nat) : Int) - 1 = ((k : Nat) : Int)) (hc : C (net, args)) :
    MRs (cx P w K mg base N_changed "changed" s_changed a_changed cdv A outer s H E) a F0 H (defBody s_changed) (fun F => some (rA a F net) :: [some (rZ (n : Int)), some (rLN args), none]) (stN (chgC n args) net) (.int (numR (chgC n args) net)) := by
  refine mr_cons (Φ' := fun F => some (rA a F net) :: [some (rZ (n : Int)), some (rLN args), some (rV (.ref ad))]) (m_lift fun F => s_set (i := 3) sc_changed.nd (x_tix (vs := tCHANGES.map svV) (x_globR (W.t.refs "CHANGES" a_CHANGES (by decide +kernel)) (fun G => ⟨a_CHANGES, rfl, W.t.tCHANGES G⟩)) (x_eq (x_sub (x_var (i := 1)) x_int) (congrArg rZ hn)) hk)) ?_
  exact mr_callL (X := cx P w K mg base N_changed "changed" s_changed a_changed cdv A outer s H E) (i := 3) (nt := fun x : NA => x.1) (Rs := fun x => [rLN x.2]) (C := C) (nt' := fun x => stN (chgC n x.2) x.1) (v0 := fun x => .int (numR (chgC n x.2) x.1)) (k := 41) (j := 41) F (W.t.refs nm ad hm) hr (by decide) (net, args) (fun F => a_cons (x_var (i := 0)) (a_cons (x_var (i := 2)) a_nil)) hc
theorem ok_changed (W : Wd P w K mg base) : FnU P w K mg base "changed" 42 (fun x : Network × Nat × List Nat => x.1) (fun x => [rZ (x.2.1 : Int), rLN x.2.2]) (fun x => NetOk x.1 ∧ 1 ≤ x.2.1 ∧ x.2.1 ≤ 7 ∧ chgN x.2.1 x.2.2) (fun x => stN (chgC x.2.1 x.2.2) x.1) (fun x => .int (numR (chgC x.2.1 x.2.2) x.1)) := by
  refine mu_changed W.t 41 (fun _ => rfl) fun cdv A outer s0 H E x0 a F0 hc hr => ?_
  obtain ⟨net, n, args⟩ := x0
  obtain ⟨ok, h1, h7, a3, a5, a2⟩ : NetOk net ∧ 1 ≤ n ∧ n ≤ 7 ∧ chgN n args := hc
  have cs : n = 1 ∨ n = 2 ∨ n = 3 ∨ n = 4 ∨ n = 5 ∨ n = 6 ∨ n = 7 := by omega
  rcases cs with h | h | h | h | h | h | h <;> subst h
  · exact chg_case W hr (k := 0) (ok_change_station W) (by decide +kernel) rfl rfl ⟨ok, a3 (by decide)⟩
  · exact chg_case W hr (k := 1) (ok_change_service W) (by decide +kernel) rfl rfl ⟨ok, a3 (by decide)⟩
  · exact chg_case W hr (k := 2) (ok_change_arrival W) (by decide +kernel) rfl rfl ⟨ok, a3 (by decide)⟩
  · exact chg_case W hr (k := 3) (ok_change_route W) (by decide +kernel) rfl rfl ⟨ok, a5 rfl⟩
  · exact chg_case W hr (k := 4) (ok_change_leaving W) (by decide +kernel) rfl rfl ⟨ok, a3 (by decide)⟩
  · exact chg_case W hr (k := 5) (ok_clear_routes W) (by decide +kernel) rfl rfl ⟨ok, a2 (by decide)⟩
  · exact chg_case W hr (k := 6) (ok_scale_arrivals W) (by decide +kernel) rfl rfl ⟨ok, a2 (by decide)⟩
end
end OQ
/-! a change keeps a net sound -/
namespace OQ
open Lrx4 (Network Station stationCount placeCount places stationOf place placesOf getStation arrival service routeWeight leaveWeight weightSum)
structure Stp1 (net : Network) (c : Lrx4.Call) : Prop where
  ex : ∃ net' n, Lrx4.step (some net) c = (some net', Lrx4.number n) ∧ NetOk net'
theorem err_1 {net : Network} (ok : NetOk net) {c : Lrx4.Call} {e : Int} (h : Lrx4.step (some net) c = (some net, Lrx4.error e)) : Stp1 net c := ⟨net, e, h, ok⟩
theorem st_1 {net : Network} (ok : NetOk net) (i k s : Nat) : Stp1 net (.setStation i k s) := by
  by_cases h1 : stationCount net ≤ i
  · exact err_1 ok (if_pos h1)
  · by_cases h2 : 3 < k ∨ s = 0 ∨ 20 < s ∨ (k ≠ 0 ∧ s ≠ 1)
    · exact err_1 ok ((if_neg h1).trans (if_pos h2))
    · have hi : i < stationCount net := by omega
      have ks : KS k s := ⟨by omega, fun e => by omega, fun e => by omega⟩
      refine ⟨_, 0, (if_neg h1).trans (if_neg h2), ?_⟩
      have := kind_ok ok hi ks
      rw [kind_eq ok hi] at this
      exact this
theorem st_2 {net : Network} (ok : NetOk net) (i c m : Nat) : Stp1 net (.setService i c m) := by
  by_cases h1 : Lrx4.isPlace net i c = false
  · exact err_1 ok (if_pos h1)
  · by_cases h2 : m = 0 ∨ 100000 < m
    · exact err_1 ok ((if_neg h1).trans (if_pos h2))
    · refine ⟨_, _, (if_neg h1).trans (if_neg h2), ?_⟩
      have := serv_ok ok (i := i) (c := c) (m := m) (by omega) (by omega)
      rw [serv_eq ok] at this
      exact this
theorem st_3 {net : Network} (ok : NetOk net) (i c m : Nat) : Stp1 net (.setArrival i c m) := by
  by_cases h1 : Lrx4.isPlace net i c = false
  · exact err_1 ok (if_pos h1)
  · by_cases h2 : 100000 < m
    · exact err_1 ok ((if_neg h1).trans (if_pos h2))
    · exact ⟨_, _, (if_neg h1).trans (if_neg h2), ok_arrivals ok ((List.length_set ..).trans ok.la) (mem_set_le ok.ba (by omega))⟩
theorem st_4 {net : Network} (ok : NetOk net) (i c j d m : Nat) : Stp1 net (.setRoute i c j d m) := by
  by_cases h1 : Lrx4.isPlace net i c = false ∨ Lrx4.isPlace net j d = false
  · exact err_1 ok (if_pos h1)
  · by_cases h2 : 1000 < m
    · exact err_1 ok ((if_neg h1).trans (if_pos h2))
    · refine ⟨_, _, (if_neg h1).trans (if_neg h2), ?_⟩
      have q1 : Lrx4.isPlace net i c = true := by
        cases q : Lrx4.isPlace net i c with
        | true => rfl
        | false => exact absurd (.inl q) h1
      have p1 : i < stationCount net ∧ c < net.classCount := by
        unfold Lrx4.isPlace at q1
        rw [Bool.and_eq_true] at q1
        exact ⟨of_decide_eq_true q1.1, of_decide_eq_true q1.2⟩
      have hp : place net i c < placeCount net := place_lt p1.1 p1.2
      have hm : net.routes.getD (place net i c) [] ∈ net.routes := getD_mem (by rw [ok.lr]; exact hp)
      exact ok_routes ok ((List.length_set ..).trans (ok.lrr _ hm)) (mem_set_le (ok.br _ hm) (by omega))
theorem st_5 {net : Network} (ok : NetOk net) (i c m : Nat) : Stp1 net (.setLeaving i c m) := by
  by_cases h1 : Lrx4.isPlace net i c = false
  · exact err_1 ok (if_pos h1)
  · by_cases h2 : 1000 < m
    · exact err_1 ok ((if_neg h1).trans (if_pos h2))
    · exact ⟨_, _, (if_neg h1).trans (if_neg h2), ok_leaving ok ((List.length_set ..).trans ok.ll) (mem_set_le ok.bl (by omega))⟩
theorem st_6 {net : Network} (ok : NetOk net) (i c : Nat) : Stp1 net (.clearRoutes i c) := by
  by_cases h1 : Lrx4.isPlace net i c = false
  · exact err_1 ok (if_pos h1)
  · refine ⟨_, _, if_neg h1, ?_⟩
    have o1 := ok_routes ok (p := place net i c) (r := List.replicate (placeCount net) 0) (List.length_replicate ..) (fun a ha => by rw [(List.mem_replicate.mp ha).2]; decide)
    exact ok_leaving o1 ((List.length_set ..).trans ok.ll) (mem_set_le ok.bl (by decide))
theorem st_7 {net : Network} (ok : NetOk net) (n d : Nat) : Stp1 net (.scaleArrivals n d) := by
  by_cases h1 : d = 0 ∨ 1000 < n ∨ 1000 < d ∨ (net.arrivals.any fun a => decide (100000 < a * n / d)) = true
  · exact err_1 ok (if_pos h1)
  · by_cases h2 : (net.arrivals.any fun a => a * n % d != 0) = true
    · exact err_1 ok ((if_neg h1).trans (if_pos h2))
    · refine ⟨_, _, (if_neg h1).trans (if_neg h2), ok_arrivals ok ((List.length_map ..).trans ok.la) fun a ha => ?_⟩
      obtain ⟨b, hb, rfl⟩ := List.mem_map.mp ha
      by_cases z : 100000 < b * n / d
      · exact absurd (.inr (.inr (.inr (List.any_eq_true.mpr ⟨b, hb, decide_eq_true z⟩)))) h1
      · omega
theorem chg_step {net : Network} (ok : NetOk net) {n : Nat} (h1 : 1 ≤ n) (h7 : n ≤ 7) (a : List Nat) : Lrx4.step (some net) (chgC n a) = (some (stN (chgC n a) net), Lrx4.number (numR (chgC n a) net)) ∧ NetOk (stN (chgC n a) net) := by
  have s : Stp1 net (chgC n a) := by
    have cs : n = 1 ∨ n = 2 ∨ n = 3 ∨ n = 4 ∨ n = 5 ∨ n = 6 ∨ n = 7 := by omega
    rcases cs with h | h | h | h | h | h | h <;> subst h
    · exact st_1 ok _ _ _
    · exact st_2 ok _ _ _
    · exact st_3 ok _ _ _
    · exact st_4 ok _ _ _ _ _
    · exact st_5 ok _ _ _
    · exact st_6 ok _ _
    · exact st_7 ok _ _
  obtain ⟨net', z, e, o⟩ := s.ex
  unfold stN numR
  rw [e]
  exact ⟨rfl, o⟩
end OQ
/-! network.py: answered -/
namespace OQ
open PySem PySem.Spec PyProof.Rows L2
open Lrx4 (Network Station stationCount placeCount)
def opC (n : Nat) (a : List Nat) : Lrx4.Call := if n < 8 then chgC n a else askC n a
def opN (n : Nat) (a : List Nat) : Prop := chgN n a ∧ askN n a
def spAn : Sp := fun vs H Q _ =>
  (∃ (n : Nat) (al : List Nat) (G : Hp), Ex G H ∧ All [rV .non, rZ (n : Int), rLN al] vs G ∧ ∀ v G' H', Gr G H G' H' → (rLZ [-11]).r v G' → Q v H')
  ∨ (∃ (net : Network) (n : Nat) (al : List Nat) (a : Addr) (F : Foot) (ws : List V) (G : Hp), vs = .ref a :: ws ∧ NetAt a_Net H a net F ∧ (NetOk net ∧ 1 ≤ n ∧ n ≤ 25 ∧ opN n al) ∧ Ex G H ∧ (∀ b ∈ ft a F, G b = none) ∧ All [rZ (n : Int), rLN al] ws G ∧
    ∀ b H' F', Kp a F H F' H' → NetAt a_Net H' a (stN (opC n al) net) F' → H' b = some (.lst ((res (opC n al) net).map V.int)) → (b ∈ ft a F ∨ (∃ o, G b = some o) ∨ H b = none) → Q (.ref b) H')
section
variable {X : Cx} {Γ : Ctx} {c : Expr} {sa rest : List Stmt} {pos : Pos}
theorem r_skip {t : VK → St → Hp → Prop} (hc : XT X c Γ false) (h : PSs X rest (fun D => t D.rt)) : PSs X (.If c sa [] pos :: rest) (fun D σ H => En Γ σ H ∧ ∀ H', Ex H H' → t D.rt σ H') := ⟨fun pins s σ H D I ⟨en, q⟩ =>
  (pss_cons (ps_if hc ⟨fun _ _ _ _ _ _ h => h.elim⟩ pss_nil (t := fun _ _ _ => False)) h).run pins s σ H D I ⟨H, Ex.refl _, en, fun G' H' g => q H' g.kept⟩⟩
theorem r_take {t : VK → St → Hp → Prop} (hc : XT X c Γ true) (h : PSs X sa (fun D => t D.rt)) : PSs X (.If c sa [] pos :: rest) (fun D σ H => En Γ σ H ∧ ∀ H', Ex H H' → t D.rt σ H') := ⟨fun pins s σ H D I ⟨en, q⟩ =>
  (pss_cons (ps_if hc h ⟨fun _ _ _ _ _ _ h => h.elim⟩ (u := fun _ _ _ => False)) ⟨fun _ _ _ _ _ _ h => h.elim⟩ (u := fun _ _ _ => False)).run pins s σ H D I ⟨H, Ex.refl _, en, fun G' H' g => q H' g.kept⟩⟩
end
section
variable {X : Cx} {a : Addr} {Φ : Foot → Ctx} {e : Expr} {es : List Expr} {pos p cpos lp : Pos} {α : Type} {nt nt' : α → Network} {Rs : α → List Rp} {C : α → Prop} {v0 : α → V} {x : Str} {k j : Nat} {A0 : Around}
def tU (a : Addr) (Φ : Foot → Ctx) (net' : Network) (v : V) : TE := fun σ H Q => ∃ F, En (Φ F) σ H ∧ ∀ H' F', Kp a F H F' H' → NetAt a_Net H' a net' F' → Q v H'
theorem x_callU (M : FnU X.prog X.w X.K X.mg X.base x k nt Rs C nt' v0) (hr : Room j A0) (hk : k ≤ j) (x0 : α) (ha : ∀ F, XA X (e :: es) (Φ F) (rA a F (nt x0) :: Rs x0)) (hc : C x0) (hA : X.A = A0 := by rfl) (hg : Gl X x := by rfl) (hdb : (x == ("__debug__" : Str)) = false := by decide)
    (he : starEach (e :: es) X.env = (false, eval e X.env) :: starEach es X.env := by rfl) (hpl : (backTo pos (starEach es X.env)).any (·.1) = false := by rfl) : PE X (.Call (.Name x p) (e :: es) [] pos) (tU a Φ (nt' x0) (v0 x0)) := by
  obtain ⟨f, fd, ps, F1, hm, kp, hb⟩ := M.ex
  subst hA
  refine ⟨fun pins s σ H Q I ⟨F, en, q⟩ => (pe_call (p := p) (pos := pos) (E := E0) F1 (hr.mono hk) hg hm kp hb .nil pass0 (ha F) hdb he hpl).run pins s σ H Q I ⟨H, Ex.refl _, en, fun vs G2 H2 g2 r4 => ?_⟩⟩
  show spU nt Rs C nt' v0 (vs ++ []) H2 _ E0
  rw [List.append_nil]
  match vs, r4 with
  | u :: ws, ⟨⟨r5, r6⟩, r7⟩ =>
    exact ⟨x0, a, F, ws, by rw [r5], r6.up g2.sub, r7.up g2.sub, hc, fun H' F' k' hn => q H' F' (((Kp.refl a F H).up g2.kept).trans k') hn⟩
def tR1 (te : TE) (rt : VK) (σ : St) (H : Hp) : Prop := tLst (tCons te tNil) σ H rt
theorem r_ret1 {te : TE} (h : PE X e te) (hs : starEach [e] X.env = (false, eval e X.env) :: starEach [] X.env := by rfl) : PSs X [.Return (some (.List [e] lp)) pos] (fun D => tR1 te D.rt) :=
  ⟨fun pins s σ H D I q => (pss_one (ps_ret (pos := pos) (pe_lst (pos := lp) (pa_cons h pa_nil hs)))).run pins s σ H D I q⟩
end
/-- the part of the heap that a net holds, and what else is spoken of -/
noncomputable def withNet (a : Addr) (F : Foot) (H G : Hp) : Hp := fun b => if b ∈ ft a F then H b else G b
theorem withNet_sub {a : Addr} {F : Foot} {H G : Hp} (e : Ex G H) : Ex (withNet a F H G) H := fun b o h => by
  unfold withNet at h
  split at h
  · exact h
  · exact e b o h
theorem withNet_old {a : Addr} {F : Foot} {H G : Hp} (d : ∀ b ∈ ft a F, G b = none) : Ex G (withNet a F H G) := fun b o h => by
  unfold withNet
  rw [if_neg]
  · exact h
  · intro m
    rw [d b m] at h
    cases h
theorem withNet_at {a : Addr} {F : Foot} {H G : Hp} {net : Network} (h : NetAt a_Net H a net F) : NetAt a_Net (withNet a F H G) a net F := by
  have on : ∀ b ∈ ft a F, withNet a F H G b = H b := fun b hb => if_pos hb
  obtain ⟨f1, f2, f3, f4, f5, f6⟩ := in_ft F a
  refine ⟨(on a (by unfold ft; exact List.mem_cons_self)).trans h.obj, (on _ f1).trans h.k, (on _ f2).trans h.s, (on _ f3).trans h.m, (on _ f4).trans h.r, (on _ f5).trans h.l, (on _ f6).trans h.w, h.rl, fun i q hq => (on q ?_).trans (h.rw i q hq), h.nd⟩
  unfold ft
  exact List.mem_cons_of_mem _ (List.mem_append_right _ (List.mem_of_getElem? hq))
theorem ask_st (n : Nat) (a : List Nat) (net : Network) : stN (askC n a) net = net := by
  unfold stN
  have : (Lrx4.step (some net) (askC n a)).1 = some net := by
    unfold askC
    split <;> rfl
  rw [this]
  rfl
theorem ints_vs {ns : List Int} {vs : List V} {G : Hp} (h : All (ns.map fun n => rV (.int n)) vs G) : vs = ns.map V.int := all_vals (f := fun (n : Int) => V.int n) h
section
variable {P : Program} {w : World} {K : PySem.W.Frag} {mg : Str → Option Value} {base : Heap}
theorem ok_answered (W : Wd P w K mg base) : ∃ f fd ps, FnOk P w K mg base CX0 55 f fd ps spAn ∧ mg "answered" = some (.ref f) ∧ PySem.W.keepIn K (.ref f) = true ∧ Binds K fd ps [] := by
  obtain ⟨fd, F⟩ := W.t.fn ⟨a_answered, "answered", "answered", s_answered⟩ (List.mem_of_getElem? (i := 97) rfl)
  refine ⟨_, fd, p_answered, F.ok sc_answered (fun vs H Q E h => ?_) fun cdv A outer s H vs Q E hr h => ?_, W.t.refs "answered" a_answered (by decide +kernel), F.kp, F.binds (ps := p_answered) fun _ _ _ _ _ _ us hl => match us, hl with | [_, _, _], _ => rfl⟩
  · rcases h with ⟨n, al, G, _, h, _⟩ | ⟨net, n, al, a, Ft, ws, G, e, _, _, _, _, h, _⟩
    · exact h.len
    · rw [e, List.length_cons, h.len]
      rfl
  rcases h with ⟨n, al, G, ex, h, q⟩ | ⟨net, n, al, a, Ft, ws, G, e, hn, ⟨ok, n1, n25, hN⟩, ex, dj, h, q⟩
  · -- no net
    have b : XSs (cx P w K mg base N_answered "answered" s_answered a_answered cdv A outer s H E) (defBody s_answered) [some (rV .non), some (rZ (n : Int)), some (rLN al)] (.ret (rLZ [-11])) :=
      ss_if (t_isN (x_var (i := 0))) (fun _ => ss_one (s_ret (x_eq (x_lst (a_cons (x_globI (W.t.zs "NO_INSTANCE" (-11) (by decide +kernel))) a_nil)) rfl))) (fun z => by cases z)
    refine ⟨_, b, G, ex, ?_, q⟩
    match vs, h with
    | [v1, v2, v3], h => exact en_start (rs := [rV .non, rZ (n : Int), rLN al]) 0 h
  · subst e
    have h1 := ft_some hn
    have rr : ∀ v (G : Hp), (rA a Ft net).r v G → decide (v = V.non) = false := fun v G r => by
      rw [r.1]
      rfl
    by_cases lt : n < 8
    · have ec : opC n al = chgC n al := if_pos lt
      obtain ⟨fs, fn⟩ := chg_step ok n1 (by omega : n ≤ 7) al
      have er : res (opC n al) net = [numR (chgC n al) net] := by
        unfold res
        rw [ec, fs]
        rfl
      have em : ∀ H' : Hp, NetAt a_Net H' a (stN (chgC n al) net) = NetAt a_Net H' a (stN (opC n al) net) := fun H' => by rw [ec]
      obtain ⟨f1, fd1, ps1, F1, hm1, kp1, hb1⟩ := (ok_changed W).ex
      refine ⟨_, r_skip (Γ := [some (rA a Ft net), some (rZ (n : Int)), some (rLN al)]) (t := fun rt σ H => En [some (rA a Ft net), some (rZ (n : Int)), some (rLN al)] σ H ∧ ∀ H', Ex H H' → tR1 (tU a (fun F => [some (rA a F net), some (rZ (n : Int)), some (rLN al)]) (stN (chgC n al) net) (.int (numR (chgC n al) net))) rt σ H') (t_isNP (x_var (i := 0)) rr)
        (r_take (t := tR1 (tU a (fun F => [some (rA a F net), some (rZ (n : Int)), some (rLN al)]) (stN (chgC n al) net) (.int (numR (chgC n al) net)))) (t_imp (t_lt (x_var (i := 1)) x_int) (decide_eq_true (by omega))) (r_ret1 (x_callU (ok_changed W) hr (by decide) (net, n, al) (fun F => a_cons (x_var (i := 0)) (a_cons (x_var (i := 1)) (a_cons (x_var (i := 2)) a_nil))) ⟨ok, n1, by show n ≤ 7; omega, hN.1⟩))), ?_⟩
      have en0 : En [some (rA a Ft net), some (rZ (n : Int)), some (rLN al)] (L2.start N_answered (.ref a :: ws)) H := by
        match ws, h with
        | [v2, v3], h => exact en_start (rs := [rA a Ft net, rZ (n : Int), rLN al]) 0 ⟨⟨rfl, hn⟩, h.up ex⟩
      refine ⟨en0, fun H1 e1 => ⟨en0.up e1, fun H2 e2 => ⟨Ft, (en0.up e1).up e2, fun H3 F' k' hn' => ⟨by show 1 ≤ sizeLine; decide, fun p hp => ?_⟩⟩⟩⟩
      have k3 := (((Kp.refl a Ft H).up e1).up e2).trans k'
      refine q p _ F' (k3.up (Ex.new hp)) ?_ ?_ ?_
      · rw [ec]
        exact hn'.up (Ex.new hp)
      · rw [upd_same, er]
        rfl
      · rcases k3.free hp with z | z
        · exact .inl z
        · exact .inr (.inr z)
    · have ec : opC n al = askC n al := if_neg lt
      have rr2 : ∀ v (G : Hp), (rN net).r v G → decide (v = V.non) = false := fun v G ⟨b, F2, r, _⟩ => by
        rw [r]
        rfl
      have b : XSs (cx P w K mg base N_answered "answered" s_answered a_answered cdv A outer s H E) (defBody s_answered) [some (rN net), some (rZ (n : Int)), some (rLN al)] (.ret (rLZ (res (askC n al) net))) :=
        ss_if (t_isNP (x_var (i := 0)) rr2) (fun z => by cases z) (fun _ => ss_if (t_imp (t_lt (x_var (i := 1)) x_int) (decide_eq_false (by omega) : decide ((n : Int) < 8) = false)) (fun z => by cases z) (fun _ => ss_one (s_ret (x_call (ok_asked W) hr (by decide) (net, n, al) (a_cons (x_var (i := 0)) (a_cons (x_var (i := 1)) (a_cons (x_var (i := 2)) a_nil))) rfl ⟨ok, by show 8 ≤ n; omega, n25, hN.2⟩))))
      refine ⟨_, b, withNet a Ft H G, withNet_sub ex, ?_, fun v G' H' g r => ?_⟩
      · match ws, h with
        | [v2, v3], h => exact en_start (rs := [rN net, rZ (n : Int), rLN al]) 0 ⟨⟨a, Ft, rfl, withNet_at hn⟩, h.up (withNet_old dj)⟩
      · obtain ⟨b, us, e1, e2, e3⟩ := r
        subst e1
        have e4 := ints_vs e3
        subst e4
        refine q b H' Ft ⟨fun x o _ hx => g.kept x o hx, fun x hx => .inl hx⟩ ?_ ?_ ?_
        · rw [ec, ask_st]
          exact ((withNet_at hn).up g.old).up g.sub
        · rw [ec]
          exact g.sub _ _ e2
        · rcases g.new b _ e2 with z | z
          · unfold withNet at z
            by_cases m : b ∈ ft a Ft
            · exact .inl m
            · rw [if_neg m] at z
              exact .inr (.inl ⟨_, z⟩)
          · exact .inr (.inr z)
end
end OQ
/-! net.py: a net is made -/
namespace OQ
open PySem PySem.Spec PyProof.Rows L2
open Lrx4 (Network Station stationCount placeCount)
/-! ### rows, each a new list -/
def tXR (Γ : Ctx) (n : Nat) (row : List V) : TE := fun σ H Q => En Γ σ H ∧ ∀ p qs H', Ex H H' → H p = none → (∀ q ∈ qs, H q = none ∧ H' q = some (.lst row)) → (p :: qs).Nodup → qs.length = n → H' p = some (.lst (qs.map V.ref)) → Q (.ref p) H'
theorem lc_rows {K : PySem.W.Frag} {Γ : Ctx} {own : List (Str × Nat)} {n : Nat} {B : Nat → Itm} {is : List Nat} {g : TG} {Γi : Nat → Ctx} {rs : List Rp} {row : List V} (hrow : ∀ vs G, All rs vs G → vs = row) (hsh : TgSh K is g) (hΓ : ∀ i, i < n → (B i).into is (wipeG Γ is) = some (Γi i)) (hn : n ≤ 1000) (hio : is = own.map (·.2))
    {σ : St} {H : Hp} {Q : VK} (h : tXR Γ n row σ H Q) : tLc (tXI Γ n B) g tYes (fun σ H Q => ∃ i, i < n ∧ tXF (Γi i) rs σ H Q) (own.map (·.2)) σ H Q := by
    obtain ⟨en, q⟩ := h
    refine ⟨H, Ex.refl _, en, fun J G1 H1 g1 wk D hD => ?_⟩
    refine lc_it (g := g) (tt := tYes) (te := fun σ H Q => ∃ i, i < n ∧ tXF (Γi i) rs σ H Q) (vs := own.map (·.2)) (σ := σ) (Qd := fun Hc => Q (.ref D) Hc) wk (fun i Hc => ∃ qs, qs.length = i ∧ Ex H1 Hc ∧ Hc D = some (.lst (qs.map V.ref)) ∧ (∀ q ∈ qs, H1 q = none ∧ Hc q = some (.lst row)) ∧ (D :: qs).Nodup)
      ⟨[], rfl, Ex.new hD, upd_same, fun q hq => by simp at hq, by simp⟩
      (fun i Hc _ ⟨qs, _, h1, _⟩ => g1.sub.trans h1) ?_ ?_
    · rintro i x Hc Hc' hlt ⟨qs, h1, h2, h3, h4, h5⟩ yi
      have en2 : En (wipeG Γ is) (L2.wipe σ (own.map (·.2))) G1 := by
        rw [← hio]
        exact (en.up g1.old).wipe is
      refine hsh.store (hΓ i hlt) yi (g1.sub.trans h2) en2 fun σ' en3 wp e2 => ?_
      refine ⟨?_, ?_⟩
      · rw [← hio]
        exact wp σ (by rw [hio])
      · show ∃ i, i < n ∧ tXF (Γi i) rs σ' Hc' _
        refine ⟨i, hlt, G1, (g1.sub.trans h2).trans e2, en3, fun p vs G2 H2 g2 hp hg2 ha => ⟨qs.map V.ref, ?_, ?_, ?_⟩⟩
        · exact g2.kept _ _ (e2 _ _ h3)
        · rw [List.length_map, h1]
          exact Nat.lt_of_lt_of_le hlt (Nat.le_trans hn (by decide))
        · have hv := hrow vs G2 ha
          subst hv
          have pD : p ≠ D := fun z => by
            rw [z, e2 _ _ h3] at hp
            cases hp
          have pq : p ∉ qs := fun m => by
            rw [e2 _ _ (h4 p m).2] at hp
            cases hp
          have hp2 := g2.sub _ _ hg2
          obtain ⟨n1, n2⟩ := List.nodup_cons.mp h5
          refine ⟨qs ++ [p], by rw [List.length_append, h1]; rfl, ?_, ?_, fun q hq => ?_, ?_⟩
          · intro b o hb
            rw [upd_ne (ne_of_none hb hD)]
            exact g2.kept _ _ (e2 _ _ (h2 _ _ hb))
          · rw [upd_same, List.map_append]
            rfl
          · rcases List.mem_append.mp hq with m | m
            · obtain ⟨k1, k2⟩ := h4 q m
              refine ⟨k1, ?_⟩
              rw [upd_ne fun (z : q = D) => n1 (by rw [← z]; exact m)]
              exact g2.kept _ _ (e2 _ _ k2)
            · have e := List.mem_singleton.mp m
              subst e
              refine ⟨(h2.trans e2).free hp, ?_⟩
              rw [upd_ne pD]
              exact hp2
          · refine List.nodup_cons.mpr ⟨fun m => ?_, List.nodup_append.mpr ⟨n2, by simp, fun x hx y hy e => ?_⟩⟩
            · rcases List.mem_append.mp m with m | m
              · exact n1 m
              · exact pD (List.mem_singleton.mp m).symm
            · rw [List.mem_singleton.mp hy] at e
              rw [e] at hx
              exact pq hx
    · rintro Hc ⟨qs, h1, h2, h3, h4, h5⟩
      exact q D qs Hc (g1.kept.trans h2) (g1.kept.free hD) (fun q hq => ⟨g1.kept.free (h4 q hq).1, (h4 q hq).2⟩) h5 h1 h3
/-! ### the fields, one by one -/
structure Ini (a dx : Addr) (H0 : Hp) (fs : List (Str × V)) (L : List (Addr × List V)) (H : Hp) : Prop where
  h0 : ∃ o, H0 a = some o
  obj : H a = some (.ins a_Net dx fs)
  keep : ∀ b o, b ≠ a → H0 b = some o → H b = some o
  ls : ∀ q ∈ L, H q.1 = some (.lst q.2)
  fresh : ∀ q ∈ L, H0 q.1 = none
  nd : (L.map (·.1)).Nodup
section
variable {a dx : Addr} {H0 H H' : Hp} {fs : List (Str × V)} {L : List (Addr × List V)}
theorem Ini.up (h : Ini a dx H0 fs L H) (e : Ex H H') : Ini a dx H0 fs L H' := ⟨h.h0, e _ _ h.obj, fun b o hb hh => e _ _ (h.keep b o hb hh), fun q hq => e _ _ (h.ls q hq), h.fresh, h.nd⟩
theorem Ini.free (h : Ini a dx H0 fs L H) {p : Addr} (hp : H p = none) : p ≠ a ∧ H0 p = none ∧ p ∉ L.map (·.1) := by
  have pa : p ≠ a := fun z => by
    rw [z, h.obj] at hp
    cases hp
  refine ⟨pa, ?_, fun m => ?_⟩
  · cases q : H0 p with
    | none => rfl
    | some o =>
      rw [h.keep p o pa q] at hp
      cases hp
  · obtain ⟨q, hq, e⟩ := List.mem_map.mp m
    have := h.ls q hq
    rw [e, hp] at this
    cases this
theorem Ini.put (h : Ini a dx H0 fs L H) (fs' : List (Str × V)) : Ini a dx H0 fs' L (upd H a (.ins a_Net dx fs')) := by
  refine ⟨h.h0, upd_same, fun b o hb hh => ?_, fun q hq => ?_, h.fresh, h.nd⟩
  · rw [upd_ne hb]
    exact h.keep b o hb hh
  · rw [upd_ne fun z => ?_]
    · exact h.ls q hq
    · obtain ⟨o, ho⟩ := h.h0
      rw [← z, h.fresh q hq] at ho
      cases ho
theorem Ini.add (h : Ini a dx H0 fs L H) {p : Addr} {xs : List V} (hp : H p = none) (e : Ex H H') (hx : H' p = some (.lst xs)) : Ini a dx H0 fs (L ++ [(p, xs)]) H' := by
  obtain ⟨f1, f2, f3⟩ := h.free hp
  have u := h.up e
  refine ⟨u.h0, u.obj, u.keep, fun q hq => ?_, fun q hq => ?_, ?_⟩
  · rcases List.mem_append.mp hq with m | m
    · exact u.ls q m
    · rw [List.mem_singleton.mp m]; exact hx
  · rcases List.mem_append.mp hq with m | m
    · exact u.fresh q m
    · rw [List.mem_singleton.mp m]; exact f2
  · rw [List.map_append]
    refine List.nodup_append.mpr ⟨h.nd, by simp, fun x hx y hy e => ?_⟩
    have hy : y = p := by simpa using hy
    rw [e, hy] at hx
    exact f3 hx
end
def tI (a dx : Addr) (H0 : Hp) (Γ Γ' : Ctx) (P P' : List (Str × V) → List (Addr × List V) → Prop) : TS := fun D σ H => ∃ fs L, P fs L ∧ Ini a dx H0 fs L H ∧ En Γ σ H ∧ ∀ σ' H' fs' L', P' fs' L' → Ini a dx H0 fs' L' H' → En Γ' σ' H' → D.nx σ' H'
section
variable {X : Cx} {a dx : Addr} {H0 : Hp} {Γ Γ' Γ'' : Ctx} {P P' P'' : List (Str × V) → List (Addr × List V) → Prop} {st : Stmt} {rest : List Stmt} {e o : Expr} {pos p : Pos} {f : Str} {v : V} {rs : List Rp} {xs : List V}
theorem i_lift (h : XS X st Γ (.nxt Γ')) : PS X st (tI a dx H0 Γ Γ' P P) := ⟨fun pins s σ H D I ⟨fs, L, hP, i, en, q⟩ => h.run pins s σ H D I ⟨H, Ex.refl _, en, fun σ' G' H' g e' => q σ' H' fs L hP (i.up g.kept) (e'.up g.sub)⟩⟩
theorem i_nil : PSs X [] (tI a dx H0 Γ Γ P P) := PSs.of pss_nil fun D σ H ⟨fs, L, hP, i, en, q⟩ => q σ H fs L hP i en
theorem i_cons (h1 : PS X st (tI a dx H0 Γ Γ' P P')) (h2 : PSs X rest (tI a dx H0 Γ' Γ'' P' P'')) : PSs X (st :: rest) (tI a dx H0 Γ Γ'' P P'') :=
  PSs.of (pss_cons h1 h2) fun D σ H ⟨fs, L, hP, i, en, q⟩ => ⟨fs, L, hP, i, en, fun σ' H' fs' L' hP' i' e' => ⟨fs', L', hP', i', e', q⟩⟩
/-- self.f = a value -/
theorem i_val (c : Cls X.K a_Net) (hn : NoAttr X.K a_Net f) (ho : XE X o Γ (rV (.ref a))) (he : XE X e Γ (rV v)) (pu : Pure Γ) (hp : ∀ fs L, P fs L → fs.length < 1000 ∧ P' (putF f v fs) L) (hs : swapsWith e (some (.Attribute o f p)) pos.line X.env = pure false := by rfl) : PS X (.Assign [.Attribute o f p] e pos) (tI a dx H0 Γ Γ P P') :=
  ⟨fun pins s σ H D I ⟨fs, L, hP, i, en, q⟩ => by
    refine (ps_fld (pos := pos) ho he hs).run pins s σ H D I ⟨H, Ex.refl _, en, fun y G1 H1 g1 r1 => ⟨H1, Ex.refl _, en.up g1.kept, fun x G2 H2 g2 r2 => ?_⟩⟩
    have r1 : y = v := r1
    subst r1
    have i2 := (i.up g1.kept).up g2.kept
    exact ⟨a, a_Net, dx, fs, r2, i2.obj, c, hn, (hp fs L hP).1, q σ _ _ L (hp fs L hP).2 (i2.put _) (pu _ _ _ en)⟩⟩
/-- self.f = a new list -/
theorem i_lst (c : Cls X.K a_Net) (hn : NoAttr X.K a_Net f) (ho : XE X o Γ (rV (.ref a))) (he : XF X e Γ rs) (hx : ∀ vs G, All rs vs G → vs = xs) (pu : Pure Γ) (hp : ∀ fs L q, P fs L → fs.length < 1000 ∧ P' (putF f (.ref q) fs) (L ++ [(q, xs)])) (hs : swapsWith e (some (.Attribute o f p)) pos.line X.env = pure false := by rfl) : PS X (.Assign [.Attribute o f p] e pos) (tI a dx H0 Γ Γ P P') :=
  ⟨fun pins s σ H D I ⟨fs, L, hP, i, en, q⟩ => by
    refine (ps_fld (pos := pos) ho he hs).run pins s σ H D I ⟨H, Ex.refl _, en, fun b vs G1 H1 g1 hb h1 h2 => ⟨H1, Ex.refl _, en.up g1.kept, fun x G2 H2 g2 r2 => ?_⟩⟩
    have hv := hx vs G1 h2
    subst hv
    have i2 := (i.add hb g1.kept (g1.sub _ _ h1)).up g2.kept
    exact ⟨a, a_Net, dx, fs, r2, i2.obj, c, hn, (hp fs L b hP).1, q σ _ _ _ (hp fs L b hP).2 (i2.put _) (pu _ _ _ en)⟩⟩
theorem rep_zl (c : Nat) : ∀ (n : Nat) {vs : List V} {H : Hp}, All (List.replicate n (rZ (c : Int))) vs H → vs = zl (List.replicate n c)
  | 0, [], _, _ => rfl
  | n + 1, v :: vs, _, h => by
    have e : v = .int (c : Int) := h.1
    rw [e, rep_zl c n (vs := vs) h.2]
    rfl
  | 0, _ :: _, _, h => h.elim
  | n + 1, [], _, h => h.elim
def netNew (s g : Nat) : Network := ⟨List.replicate s ⟨0, 1⟩, g, List.replicate (s * g) 0, List.replicate (s * g) 1, List.replicate (s * g) 0, List.replicate (s * g) (List.replicate (s * g) 0)⟩
structure PNw (a : Addr) (H0 : Hp) (net : Network) (H' : Hp) : Prop where
  ex : ∃ F, NetAt a_Net H' a net F ∧ (∀ b ∈ lof F, H0 b = none) ∧ ∀ b o, b ≠ a → H0 b = some o → H' b = some o
abbrev fv (x : Str) (v : V) : Str × V := (x, v)
def P5 (s g : Nat) (fs : List (Str × V)) (L : List (Addr × List V)) : Prop := ∃ k q m r l, fs = [fv "stations" (.int (s : Int)), fv "groups" (.int (g : Int)), fv "kinds" (.ref k), fv "servers" (.ref q), fv "services" (.ref m), fv "arrivals" (.ref r), fv "leaving" (.ref l)] ∧ L = [(k, zl (List.replicate s 0)), (q, zl (List.replicate s 1)), (m, zl (List.replicate (s * g) 1)), (r, zl (List.replicate (s * g) 0)), (l, zl (List.replicate (s * g) 0))]
theorem net_new {a dx : Addr} {H0 H H' : Hp} {s g : Nat} {fs : List (Str × V)} {L : List (Addr × List V)} (i : Ini a dx H0 fs L H) (h5 : P5 s g fs L) (e : Ex H H') {p : Addr} {qs : List Addr} (hp : H p = none) (hq : ∀ q ∈ qs, H q = none ∧ H' q = some (.lst (zl (List.replicate (s * g) 0)))) (nd : (p :: qs).Nodup) (hl : qs.length = s * g) (hp2 : H' p = some (.lst (qs.map V.ref))) :
    PNw a H0 (netNew s g) (upd H' a (.ins a_Net dx (putF "weights" (.ref p) fs))) := by
  obtain ⟨k, q, m, r, l, rfl, rfl⟩ := h5
  have i2 := i.up e
  have na : ∀ x o, x ≠ a → H' x = some o → upd H' a (.ins a_Net dx (putF "weights" (.ref p) [fv "stations" (.int (s : Int)), fv "groups" (.int (g : Int)), fv "kinds" (.ref k), fv "servers" (.ref q), fv "services" (.ref m), fv "arrivals" (.ref r), fv "leaving" (.ref l)])) x = some o := fun x o hx h => by
    rw [upd_ne hx]
    exact h
  have la : ∀ x xs, H' x = some (.lst xs) → x ≠ a := fun x xs h z => by
    rw [z, i2.obj] at h
    cases h
  have c1 := i2.ls (k, _) (List.mem_of_getElem? (i := 0) rfl)
  have c2 := i2.ls (q, _) (List.mem_of_getElem? (i := 1) rfl)
  have c3 := i2.ls (m, _) (List.mem_of_getElem? (i := 2) rfl)
  have c4 := i2.ls (r, _) (List.mem_of_getElem? (i := 3) rfl)
  have c5 := i2.ls (l, _) (List.mem_of_getElem? (i := 4) rfl)
  have f1 := i2.fresh (k, _) (List.mem_of_getElem? (i := 0) rfl)
  have f2 := i2.fresh (q, _) (List.mem_of_getElem? (i := 1) rfl)
  have f3 := i2.fresh (m, _) (List.mem_of_getElem? (i := 2) rfl)
  have f4 := i2.fresh (r, _) (List.mem_of_getElem? (i := 3) rfl)
  have f5 := i2.fresh (l, _) (List.mem_of_getElem? (i := 4) rfl)
  obtain ⟨p1, p2, p3⟩ := i.free hp
  have nd1 : [k, q, m, r, l].Nodup := i.nd
  have fr : ∀ x ∈ qs, H0 x = none ∧ x ∉ [k, q, m, r, l] := fun x hx => by
    obtain ⟨z1, z2, z3⟩ := i.free (hq x hx).1
    exact ⟨z2, z3⟩
  have p3 : p ∉ [k, q, m, r, l] := p3
  let F : Foot := ⟨dx, k, q, m, r, l, p, qs⟩
  refine ⟨F, ⟨?_, ?_, ?_, na _ _ (la _ _ c3) c3, na _ _ (la _ _ c4) c4, na _ _ (la _ _ c5) c5, na _ _ (la _ _ hp2) hp2, ?_, fun j x hx => ?_, ?_⟩, fun b hb => ?_, fun b o hb hh => na _ _ hb (i2.keep b o hb hh)⟩
  · rw [upd_same]
    show _ = some (HO.ins a_Net dx (nF (netNew s g) F))
    have e1 : stationCount (netNew s g) = s := List.length_replicate ..
    unfold nF
    rw [e1]
    rfl
  · refine na _ _ (la _ _ c1) (c1.trans ?_)
    show _ = some (HO.lst (zl ((List.replicate s (⟨0, 1⟩ : Station)).map (·.kind))))
    rw [List.map_replicate]
  · refine na _ _ (la _ _ c2) (c2.trans ?_)
    show _ = some (HO.lst (zl ((List.replicate s (⟨0, 1⟩ : Station)).map (·.servers))))
    rw [List.map_replicate]
  · show qs.length = (List.replicate (s * g) _).length
    rw [List.length_replicate, hl]
  · have hx : qs[j]? = some x := hx
    have hj : j < s * g := by
      have := (List.getElem?_eq_some_iff.mp hx).1
      omega
    have h2 := (hq x (List.mem_of_getElem? hx)).2
    refine na _ _ (la _ _ h2) (h2.trans ?_)
    show _ = some (HO.lst (zl ((List.replicate (s * g) (List.replicate (s * g) 0)).getD j [])))
    rw [List.getD_eq_getElem?_getD, List.getElem?_replicate_of_lt hj]
    rfl
  · show ([k, q, m, r, l, p] ++ qs).Nodup
    obtain ⟨n1, n2⟩ := List.nodup_cons.mp nd
    have e : [k, q, m, r, l, p] ++ qs = [k, q, m, r, l] ++ (p :: qs) := rfl
    rw [e]
    refine List.nodup_append.mpr ⟨nd1, nd, fun x hx y hy z => ?_⟩
    subst z
    rcases List.mem_cons.mp hy with w | w
    · subst w
      exact p3 hx
    · exact (fr x w).2 hx
  · have hb : b ∈ [k, q, m, r, l] ++ (p :: qs) := hb
    rcases List.mem_append.mp hb with w | w
    · simp only [List.mem_cons, List.not_mem_nil, or_false] at w
      rcases w with w | w | w | w | w <;> subst w <;> assumption
    · rcases List.mem_cons.mp w with w | w
      · subst w; exact p2
      · exact (fr b w).1
/-- self.weights = new rows -/
theorem i_rows {s g : Nat} (c : Cls X.K a_Net) (hn : NoAttr X.K a_Net "weights") (ho : XE X o Γ (rV (.ref a))) (he : PE X e (tXR Γ (s * g) (zl (List.replicate (s * g) 0)))) (hs : swapsWith e (some (.Attribute o "weights" p)) pos.line X.env = pure false := by rfl) :
    PS X (.Assign [.Attribute o "weights" p] e pos) (fun D σ H => ∃ fs L, P5 s g fs L ∧ Ini a dx H0 fs L H ∧ En Γ σ H ∧ ∀ H', PNw a H0 (netNew s g) H' → D.nx σ H') :=
  ⟨fun pins s' σ H D I ⟨fs, L, hP, i, en, q⟩ => by
    refine (ps_fld (pos := pos) ho he hs).run pins s' σ H D I ⟨en, fun b qs H1 ex hb hq nd hl hx => ⟨H1, Ex.refl _, en.up ex, fun x G2 H2 g2 r2 => ?_⟩⟩
    have z := net_new i hP (ex.trans g2.kept) hb (fun q m => ⟨(hq q m).1, g2.kept _ _ (hq q m).2⟩) nd hl (g2.kept _ _ hx)
    refine ⟨a, a_Net, dx, fs, r2, ((i.up ex).up g2.kept).obj, c, hn, ?_, q _ z⟩
    obtain ⟨k, q, m, r, l, rfl, _⟩ := hP
    show 7 < 1000
    decide⟩
end
end OQ
/-! net.py: __init__ -/
namespace OQ
open PySem PySem.Spec PyProof.Rows L2
open Lrx4 (Network Station stationCount placeCount)
def tE (a dx : Addr) (H0 : Hp) (s g : Nat) (Γ : Ctx) (P : List (Str × V) → List (Addr × List V) → Prop) : TS := fun D σ H => ∃ fs L, P fs L ∧ Ini a dx H0 fs L H ∧ En Γ σ H ∧ ∀ σ' H', PNw a H0 (netNew s g) H' → D.nx σ' H'
section
variable {X : Cx} {a dx : Addr} {H0 : Hp} {Γ Γ' : Ctx} {s g : Nat} {P P' : List (Str × V) → List (Addr × List V) → Prop} {st : Stmt} {rest : List Stmt} {pos : Pos} {Γ0 : Ctx}
theorem e_cons (h1 : PS X st (tI a dx H0 Γ Γ' P P')) (h2 : PSs X rest (tE a dx H0 s g Γ' P')) : PSs X (st :: rest) (tE a dx H0 s g Γ P) :=
  PSs.of (pss_cons h1 h2) fun D σ H ⟨fs, L, hP, i, en, q⟩ => ⟨fs, L, hP, i, en, fun σ' H' fs' L' hP' i' e' => ⟨fs', L', hP', i', e', q⟩⟩
theorem e_last (h : PS X st (fun D σ H => ∃ fs L, P5 s g fs L ∧ Ini a dx H0 fs L H ∧ En Γ σ H ∧ ∀ H', PNw a H0 (netNew s g) H' → D.nx σ H')) : PSs X [st] (tE a dx H0 s g Γ (P5 s g)) :=
  PSs.of (pss_one h) fun D σ H ⟨fs, L, hP, i, en, q⟩ => ⟨fs, L, hP, i, en, fun H' z => q σ H' z⟩
theorem f_rows {tg iter elt : Expr} {scope : Scope} {own : List (Str × Nat)} {n : Nat} {B : Nat → Itm} {is : List Nat} {gg : TG} {rs : List Rp} {row : List V} (hrow : ∀ vs G, All rs vs G → vs = row) (hN : X.N.Nodup) (hi : XI X tg iter Γ n B) (ok : BlkOk X.N X.env.scope scope own) (hio : is = own.map (·.2))
    (hsh : TgSh X.K is gg) (hg : ∀ (s : Shared) (H : Hp) (C : Addr) (cl : List (Str × Addr)) (fp : List Addr), PG (X.blk s H scope (compEnvC scope cl C X.env) fp) tg gg)
    (he : ∀ (s : Shared) (H : Hp) (C : Addr) (cl : List (Str × Addr)) (fp : List Addr) (i : Nat), i < n → XF (X.blk s H scope (compEnvC scope cl C X.env) fp) elt ((B i).put is (wipeG Γ is)) rs) (hn : n ≤ 1000) (hf : ∀ i, (B i).fits is = true := by intro _; rfl)
    (hc : X.calm = true := by rfl) (hs : ∀ x, foldedSetIterable iter X.env x = pure x := by intro _; rfl) : PE X (.ListComp elt [⟨tg, iter, [], 0⟩] scope pos) (tXR Γ n row) := by
  let te : TE := fun σ H Q => ∃ i, i < n ∧ tXF ((B i).put is (wipeG Γ is)) rs σ H Q
  refine PE.of (pe_lc (te := te) hc hN hi ok hg (fun _ _ _ _ _ => pts_nil) (fun s H C cl fp => ⟨fun pins s' σ H' Q I h => ?_⟩) hs) fun σ H Q h => lc_rows (Γi := fun i => (B i).put is (wipeG Γ is)) hrow hsh (fun i _ => into_put (hf i)) hn hio h
  obtain ⟨i, hi', h⟩ := h
  exact (he s H C cl fp i hi').run pins s' σ H' Q I h
end
def spI : Sp := fun vs H Q _ => ∃ (s g : Nat) (a dx : Addr), vs = [.ref a, .int (s : Int), .int (g : Int)] ∧ (1 ≤ s ∧ s ≤ 5 ∧ 1 ≤ g ∧ g ≤ 3) ∧ H a = some (.ins a_Net dx []) ∧ ∀ H', PNw a H (netNew s g) H' → Q .non H'
section
variable {P : Program} {w : World} {K : PySem.W.Frag} {mg : Str → Option Value} {base : Heap}
theorem ok_init (W : Wd P w K mg base) : ∃ fd, FnOk P w K mg base CX0 2 a_Net_init fd p_Net_init spI ∧ Binds K fd p_Net_init [] := by
  obtain ⟨fd, F⟩ := W.t.fn ⟨a_Net_init, "__init__", "Net.__init__", s_Net_init⟩ (List.mem_of_getElem? (i := 15) rfl)
  refine ⟨fd, F.ok sc_Net_init (fun vs H Q E ⟨s, g, a, dx, e, _⟩ => by rw [e]; rfl) fun cdv A outer s0 H vs Q E hr ⟨s, g, a, dx, e, ⟨s1, s5, g1, g3⟩, ho, q⟩ => ?_, F.binds (ps := p_Net_init) fun _ _ _ _ _ _ us hl => match us, hl with | [_, _, _], _ => rfl⟩
  subst e
  have n15 : s * g ≤ 15 := Nat.mul_le_mul s5 g3
  have pu0 : Pure [some (rV (.ref a)), some (rZ (s : Int)), some (rZ (g : Int)), some (rZ ((s * g : Nat) : Int)), none] := pu_val (pu_val (pu_val (pu_val (pu_none pu_nil))))
  have cl := W.t.cl
  have na := W.t.no
  let fz : List (Str × V) := [fv "stations" (.int (s : Int)), fv "groups" (.int (g : Int))]
  refine ⟨_, e_cons (a := a) (dx := dx) (H0 := H) (s := s) (g := g) (P := fun fs L => fs = [] ∧ L = []) (P' := fun fs L => fs = [] ∧ L = []) (Γ := [some (rV (.ref a)), some (rZ (s : Int)), some (rZ (g : Int)), none, none]) (Γ' := [some (rV (.ref a)), some (rZ (s : Int)), some (rZ (g : Int)), some (rZ ((s * g : Nat) : Int)), none])
      (i_lift (s_set (i := 3) (R := rZ ((s * g : Nat) : Int)) sc_Net_init.nd (x_eq (x_mul (x_var (i := 1)) (x_var (i := 2)) (small_mul (by omega) (by omega))) (congrArg rZ (Int.natCast_mul s g).symm))))
    (e_cons (P' := fun fs L => fs = [fv "stations" (.int (s : Int))] ∧ L = []) (i_val cl (na "stations" (by decide +kernel)) (x_var (i := 0)) (x_var (i := 1)) pu0 ?_)
    (e_cons (P' := fun fs L => fs = fz ∧ L = []) (i_val cl (na "groups" (by decide +kernel)) (x_var (i := 0)) (x_var (i := 2)) pu0 ?_)
    (e_cons (P' := fun fs L => ∃ k, fs = fz ++ [fv "kinds" (.ref k)] ∧ L = [(k, zl (List.replicate s 0))]) (i_lst (xs := zl (List.replicate s 0)) cl (na "kinds" (by decide +kernel)) (x_var (i := 0)) (f_rep (n := s) (R := rZ 0) (x_lst (a_cons (x_globI (W.t.zs "IN_ORDER" 0 (by decide +kernel))) a_nil)) (x_var (i := 1)) (by omega)) (fun vs G h => rep_zl 0 s h) pu0 ?_)
    (e_cons (P' := fun fs L => ∃ k q, fs = fz ++ [fv "kinds" (.ref k), fv "servers" (.ref q)] ∧ L = [(k, zl (List.replicate s 0)), (q, zl (List.replicate s 1))]) (i_lst (xs := zl (List.replicate s 1)) cl (na "servers" (by decide +kernel)) (x_var (i := 0)) (f_rep (n := s) (R := rZ 1) (x_lst (a_cons x_int a_nil)) (x_var (i := 1)) (by omega)) (fun vs G h => rep_zl 1 s h) pu0 ?_)
    (e_cons (P' := fun fs L => ∃ k q m, fs = fz ++ [fv "kinds" (.ref k), fv "servers" (.ref q), fv "services" (.ref m)] ∧ L = [(k, zl (List.replicate s 0)), (q, zl (List.replicate s 1)), (m, zl (List.replicate (s * g) 1))]) (i_lst (xs := zl (List.replicate (s * g) 1)) cl (na "services" (by decide +kernel)) (x_var (i := 0)) (f_rep (n := s * g) (R := rZ 1) (x_lst (a_cons x_int a_nil)) (x_var (i := 3)) (by omega)) (fun vs G h => rep_zl 1 (s * g) h) pu0 ?_)
    (e_cons (P' := fun fs L => ∃ k q m r, fs = fz ++ [fv "kinds" (.ref k), fv "servers" (.ref q), fv "services" (.ref m), fv "arrivals" (.ref r)] ∧ L = [(k, zl (List.replicate s 0)), (q, zl (List.replicate s 1)), (m, zl (List.replicate (s * g) 1)), (r, zl (List.replicate (s * g) 0))]) (i_lst (xs := zl (List.replicate (s * g) 0)) cl (na "arrivals" (by decide +kernel)) (x_var (i := 0)) (f_rep (n := s * g) (R := rZ 0) (x_lst (a_cons x_int a_nil)) (x_var (i := 3)) (by omega)) (fun vs G h => rep_zl 0 (s * g) h) pu0 ?_)
    (e_cons (P' := P5 s g) (i_lst (xs := zl (List.replicate (s * g) 0)) cl (na "leaving" (by decide +kernel)) (x_var (i := 0)) (f_rep (n := s * g) (R := rZ 0) (x_lst (a_cons x_int a_nil)) (x_var (i := 3)) (by omega)) (fun vs G h => rep_zl 0 (s * g) h) pu0 ?_)
    (e_last (i_rows cl (na "weights" (by decide +kernel)) (x_var (i := 0)) (f_rows (n := s * g) (is := [4]) (own := [("place", 4)]) (rs := List.replicate (s * g) (rZ 0)) (fun vs G h => rep_zl 0 (s * g) h) sc_Net_init.nd (i_range1 (W.t.frees _ (by decide +kernel)) (x_var (i := 3))) (blkOk_by (N := N_Net_init) (sc := defScope s_Net_init) (by decide +kernel)) rfl .one (fun _ _ _ _ _ => g_one sc_Net_init.nd) (fun s' H' C' cl' fp i hi => f_rep (n := s * g) (R := rZ 0) (x_lst (a_cons x_int a_nil)) (x_var (i := 3)) (by omega)) (by omega))))))))))), ?_⟩
  · rintro fs L ⟨rfl, rfl⟩
    exact ⟨by show 0 < 1000; decide, rfl, rfl⟩
  · rintro fs L ⟨rfl, rfl⟩
    exact ⟨by show 1 < 1000; decide, rfl, rfl⟩
  · rintro fs L p ⟨rfl, rfl⟩
    exact ⟨by show 2 < 1000; decide, p, rfl, rfl⟩
  · rintro fs L p ⟨k, rfl, rfl⟩
    exact ⟨by show 3 < 1000; decide, k, p, rfl, rfl⟩
  · rintro fs L p ⟨k, q, rfl, rfl⟩
    exact ⟨by show 4 < 1000; decide, k, q, p, rfl, rfl⟩
  · rintro fs L p ⟨k, q, m, rfl, rfl⟩
    exact ⟨by show 5 < 1000; decide, k, q, m, p, rfl, rfl⟩
  · rintro fs L p ⟨k, q, m, r, rfl, rfl⟩
    exact ⟨by show 6 < 1000; decide, k, q, m, r, p, rfl, rfl⟩
  · refine ⟨[], [], ⟨rfl, rfl⟩, ⟨⟨_, ho⟩, ho, fun b o hb h => h, fun q hq => by simp at hq, fun q hq => by simp at hq, by simp⟩, ?_, fun σ' H' z => q H' z⟩
    exact en_start (rs := [rV (.ref a), rZ (s : Int), rZ (g : Int)]) 2 ⟨rfl, rfl, rfl, trivial⟩
end
end OQ
/-! network.py: created -/
namespace OQ
open PySem PySem.Spec PyProof.Rows L2
open Lrx4 (Network Station stationCount placeCount)
def okSG (s g : Nat) : Bool := (decide (1 ≤ s) && decide (s ≤ 5)) && (decide (1 ≤ g) && decide (g ≤ 3))
theorem bad_eq (s g : Nat) {b : Bool} (h : okSG s g = b) : (!(decide (1 ≤ s) && decide (s ≤ 5)) || !(decide (1 ≤ g) && decide (g ≤ 3))) = !b := by
  rw [← h, ← Bool.not_and]
  rfl
def spC : Sp := fun vs H Q _ => ∃ (s g : Nat) (G : Hp), Ex G H ∧ All [rLN [s, g]] vs G ∧ (okSG s g = false → ∀ H', Ex H H' → Q .non H') ∧ (okSG s g = true → ∀ x F H', Ex H H' → NetAt a_Net H' x (netNew s g) F → (∀ b ∈ ft x F, H b = none) → Q (.ref x) H')
section
variable {X : Cx} {Γ Γ' : Ctx} {st : Stmt} {rest : List Stmt}
theorem r_lift {t : VK → St → Hp → Prop} (h1 : XS X st Γ (.nxt Γ')) (h : PSs X rest (fun D => t D.rt)) : PSs X (st :: rest) (fun D σ H => En Γ σ H ∧ ∀ σ' H', Ex H H' → En Γ' σ' H' → t D.rt σ' H') := ⟨fun pins s σ H D I ⟨en, q⟩ =>
  (pss_cons h1 h).run pins s σ H D I ⟨H, Ex.refl _, en, fun σ' G' H' g e' => q σ' H' g.kept (e'.up g.sub)⟩⟩
end
section
variable {P : Program} {w : World} {K : PySem.W.Frag} {mg : Str → Option Value} {base : Heap}
theorem ok_created (W : Wd P w K mg base) : ∃ f fd ps, FnOk P w K mg base CX0 4 f fd ps spC ∧ mg "created" = some (.ref f) ∧ PySem.W.keepIn K (.ref f) = true ∧ Binds K fd ps [] := by
  obtain ⟨fd, F⟩ := W.t.fn ⟨a_created, "created", "created", s_created⟩ (List.mem_of_getElem? (i := 96) rfl)
  refine ⟨_, fd, p_created, F.ok sc_created (fun vs H Q E ⟨s, g, G, _, h, _⟩ => by rw [h.len]; rfl) fun cdv A outer s0 H vs Q E hr ⟨s, g, G, ex, h, q1, q2⟩ => ?_, W.t.refs "created" a_created (by decide +kernel), F.kp, F.binds (ps := p_created) fun _ _ _ _ _ _ us hl => match us, hl with | [_], _ => rfl⟩
  have en0 : En [some (rLN [s, g]), none, none] (L2.start N_created vs) G := by
    match vs, h with
    | [v], h => exact en_start (rs := [rLN [s, g]]) 2 h
  cases hb : okSG s g with
  | false =>
    have b : XSs (cx P w K mg base N_created "created" s_created a_created cdv A outer s0 H E) (defBody s_created) [some (rLN [s, g]), none, none] (.ret (rV .non)) :=
      ss_cons (s_un2 (j0 := 1) (j1 := 2) (R0 := rZ (s : Int)) (R1 := rZ (g : Int)) sc_created.nd (x_var (i := 0))) (ss_if (k := true) (t_imp (k' := true) (PW.pt (w_or (t_not (t_within (i := 1) (l := 5) x_int (x_var (i := 1)) (x_globI (W.t.zs "MOST_STATIONS" 5 (by decide +kernel))))) fun _ => w_or1 (t_not (t_within (i := 1) (l := 3) x_int (x_var (i := 2)) (x_globI (W.t.zs "MOST_GROUPS" 3 (by decide +kernel))))))) (bad_eq s g hb)) (fun _ => ss_one (s_ret x_non)) (fun z => by cases z))
    exact ⟨_, b, G, ex, en0, fun v G' H' g' r => by
      have r : v = .non := r
      rw [r]
      exact q1 hb H' g'.kept⟩
  | true =>
    obtain ⟨fd1, F1, hb1⟩ := ok_init W
    have v1 := Bool.and_eq_true _ _ |>.mp hb
    have v2 := Bool.and_eq_true _ _ |>.mp v1.1
    have v3 := Bool.and_eq_true _ _ |>.mp v1.2
    have s1 : 1 ≤ s := of_decide_eq_true v2.1
    have s5 : s ≤ 5 := of_decide_eq_true v2.2
    have g1 : 1 ≤ g := of_decide_eq_true v3.1
    have g3 : g ≤ 3 := of_decide_eq_true v3.2
    let Γ1 : Ctx := [some (rLN [s, g]), some (rZ (s : Int)), some (rZ (g : Int))]
    let tn : VK → St → Hp → Prop := fun rt σ H => tRet (tMake a_Net spI [] E0 (tXA Γ1 [rZ (s : Int), rZ (g : Int)])) { nx := fun _ _ => False, rt := rt } σ H
    refine ⟨_, r_lift (Γ := [some (rLN [s, g]), none, none]) (Γ' := Γ1) (t := fun rt σ H => En Γ1 σ H ∧ ∀ H', Ex H H' → tn rt σ H') (s_un2 (j0 := 1) (j1 := 2) (R0 := rZ (s : Int)) (R1 := rZ (g : Int)) sc_created.nd (x_var (i := 0)))
      (r_skip (Γ := Γ1) (t := tn) (t_imp (PW.pt (w_or (t_not (t_within (i := 1) (l := 5) x_int (x_var (i := 1)) (x_globI (W.t.zs "MOST_STATIONS" 5 (by decide +kernel))))) fun _ => w_or1 (t_not (t_within (i := 1) (l := 3) x_int (x_var (i := 2)) (x_globI (W.t.zs "MOST_GROUPS" 3 (by decide +kernel))))))) (bad_eq s g hb))
      (pss_one (ps_ret (pe_make (E := E0) W.t.maker F1 (hr.mono (by decide)) rfl (W.t.refs "Net" a_Net (by decide +kernel)) hb1 .nil pass0 (a_cons (x_var (i := 1)) (a_cons (x_var (i := 2)) a_nil)))))), en0.up ex, fun σ1 H1 e1 en1 => ⟨en1, fun H2 e2 => ⟨H2, Ex.refl _, en1.up e2, fun vs G3 H3 g3' r3 => ?_⟩⟩⟩
    intro x dx hx hdx hne
    match vs, r3 with
    | [u, u2], ⟨r4, r5, _⟩ =>
      have r4 : u = .int (s : Int) := r4
      have r5 : u2 = .int (g : Int) := r5
      subst r4 r5
      refine ⟨s, g, x, dx, rfl, ⟨s1, s5, g1, g3⟩, upd_same, fun H' pn => ⟨rfl, ?_⟩⟩
      obtain ⟨Ft, n1, n2, n3⟩ := pn.ex
      have e03 := (e1.trans e2).trans g3'.kept
      refine q2 hb x Ft H' (fun b o hbo => ?_) n1 fun b hbb => ?_
      · have h3 := e03 b o hbo
        have bx : b ≠ x := fun z => by rw [z, hx] at h3; cases h3
        have bd : b ≠ dx := fun z => by rw [z, hdx] at h3; cases h3
        refine n3 b o bx ?_
        rw [upd_ne bx, upd_ne bd]
        exact h3
      · rcases List.mem_cons.mp hbb with z | z
        · rw [z]
          exact e03.free hx
        · have h4 := n2 b z
          by_cases bx : b = x
          · rw [bx]
            exact e03.free hx
          · rw [upd_ne bx] at h4
            by_cases bd : b = dx
            · rw [bd]
              exact e03.free hdx
            · rw [upd_ne bd] at h4
              exact e03.free h4
end
end OQ
/-! network.py: split_up -/
namespace OQ
open PySem PySem.Spec PyProof.Rows L2
abbrev Cl : Type := Nat × List Nat
def szs : List Nat := [2, 3, 3, 3, 5, 3, 2, 2, 4, 2, 0, 0, 2, 0, 0, 0, 0, 2, 2, 2, 0, 0, 2, 0, 0, 0]
def flat (c : Cl) : List Nat := if c.1 = 23 then c.1 :: c.2.length :: c.2 else c.1 :: c.2
def okc (c : Cl) : Prop := c.1 ≤ 25 ∧ (c.1 ≠ 23 → c.2.length = szs.getD c.1 0)
def posn (cs : List Cl) (k : Nat) : Nat := ((cs.take k).flatMap flat).length
def rCall (K : PySem.W.Frag) (c : Cl) : Rp := rPair K (rZ (c.1 : Int)) (rLN c.2)
theorem flat_pos (c : Cl) : 1 ≤ (flat c).length := by
  unfold flat
  split
  · show 1 ≤ _ + 1
    omega
  · show 1 ≤ _ + 1
    omega
theorem posn_succ {cs : List Cl} {k : Nat} (h : k < cs.length) : posn cs (k + 1) = posn cs k + (flat (cs.getD k (0, []))).length := by
  unfold posn
  rw [List.take_succ, List.getElem?_eq_getElem h, List.getD_eq_getElem?_getD, List.getElem?_eq_getElem h, List.flatMap_append, List.length_append]
  show _ + ([cs[k]].flatMap flat).length = _
  rw [List.flatMap_singleton]
  rfl
theorem split_at {cs : List Cl} {k : Nat} (h : k < cs.length) : ∃ post, cs.flatMap flat = (cs.take k).flatMap flat ++ (flat (cs.getD k (0, [])) ++ post) := by
  refine ⟨(cs.drop (k + 1)).flatMap flat, ?_⟩
  have e : cs = cs.take k ++ (cs.getD k (0, []) :: cs.drop (k + 1)) := by
    rw [List.getD_eq_getElem?_getD, List.getElem?_eq_getElem h]
    show cs = cs.take k ++ (cs[k] :: cs.drop (k + 1))
    rw [← List.drop_eq_getElem_cons h, List.take_append_drop]
  have e2 : cs.flatMap flat = (cs.take k ++ (cs.getD k (0, []) :: cs.drop (k + 1))).flatMap flat := congrArg (fun z => List.flatMap flat z) e
  rw [e2, List.flatMap_append, List.flatMap_cons]
theorem posn_lt {cs : List Cl} {k : Nat} (h : k < cs.length) : posn cs k < (cs.flatMap flat).length := by
  obtain ⟨post, e⟩ := split_at h
  rw [e, List.length_append, List.length_append]
  have := flat_pos (cs.getD k (0, []))
  unfold posn
  omega
theorem posn_all (cs : List Cl) : posn cs cs.length = (cs.flatMap flat).length := by
  unfold posn
  rw [List.take_length]
theorem at_here {cs : List Cl} {k : Nat} (h : k < cs.length) : (cs.flatMap flat).getD (posn cs k) 0 = (cs.getD k (0, [])).1 := by
  obtain ⟨post, e⟩ := split_at h
  rw [e, List.getD_eq_getElem?_getD]
  unfold posn
  rw [List.getElem?_append_right (Nat.le_refl _), Nat.sub_self]
  unfold flat
  split <;> rfl
theorem at_next {cs : List Cl} {k : Nat} (h : k < cs.length) (h23 : (cs.getD k (0, [])).1 = 23) : (cs.flatMap flat).getD (posn cs k + 1) 0 = (cs.getD k (0, [])).2.length ∧ posn cs k + 1 < (cs.flatMap flat).length := by
  obtain ⟨post, e⟩ := split_at h
  have f : flat (cs.getD k (0, [])) = (cs.getD k (0, [])).1 :: (cs.getD k (0, [])).2.length :: (cs.getD k (0, [])).2 := if_pos h23
  rw [e, f]
  unfold posn
  constructor
  · rw [List.getD_eq_getElem?_getD, List.getElem?_append_right (by omega), Nat.add_sub_cancel_left]
    rfl
  · rw [List.length_append]
    simp
def frst (cs : List Cl) (k : Nat) : Nat := if (cs.getD k (0, [])).1 = 23 then posn cs k + 2 else posn cs k + 1
theorem frst_end {cs : List Cl} {k : Nat} (h : k < cs.length) : frst cs k + (cs.getD k (0, [])).2.length = posn cs (k + 1) := by
  rw [posn_succ h]
  unfold frst flat
  split
  · simp; omega
  · simp; omega
theorem args_at {cs : List Cl} {k : Nat} (h : k < cs.length) : ((cs.flatMap flat).drop (frst cs k)).take (posn cs (k + 1) - frst cs k) = (cs.getD k (0, [])).2 := by
  obtain ⟨post, e⟩ := split_at h
  have e1 := frst_end h
  have e2 : posn cs (k + 1) - frst cs k = (cs.getD k (0, [])).2.length := by omega
  rw [e2, e]
  by_cases h23 : (cs.getD k (0, [])).1 = 23
  · have f : flat (cs.getD k (0, [])) = (cs.getD k (0, [])).1 :: (cs.getD k (0, [])).2.length :: (cs.getD k (0, [])).2 := if_pos h23
    have g : frst cs k = ((cs.take k).flatMap flat).length + 2 := if_pos h23
    rw [g, f, List.drop_length_add_append]
    simp
  · have f : flat (cs.getD k (0, [])) = (cs.getD k (0, [])).1 :: (cs.getD k (0, [])).2 := if_neg h23
    have g : frst cs k = ((cs.take k).flatMap flat).length + 1 := if_neg h23
    rw [g, f, List.drop_length_add_append]
    simp
section
variable {X : Cx} {Γ : Ctx} {e lo hi a b : Expr} {pos p2 : Pos}
theorem x_pair {R1 R2 : Rp} {k} (ha : XE X a Γ R1) (hb : XE X b Γ R2) (hs : starEach [a, b] X.env = (false, eval a X.env) :: starEach [b] X.env := by rfl) (hs2 : starEach [b] X.env = (false, eval b X.env) :: starEach [] X.env := by rfl) : XE X (.Tuple [a, b] k pos) Γ (rPair X.K R1 R2) :=
  PE.of (pe_tup (a_cons ha (a_cons hb a_nil hs2) hs)) fun _ _ _ ⟨G, e, en, q⟩ => ⟨G, e, en, fun vs G1 H1 g1 r1 => ⟨by rw [r1.len]; show 2 ≤ sizeLine; decide, fun p hp => by
    match vs, r1 with
    | [v, w], ⟨h1, h2, _⟩ =>
      have ee : Ex G1 (upd G1 p (.tup [v, w])) := Ex.new (g1.sub.free hp)
      exact q (.ref p) (upd G1 p (.tup [v, w])) _ (g1.trans (Gr.make g1.sub hp)) ⟨p, v, w, rfl, SqT.of upd_same, R1.up ee h1, R2.up ee h2⟩⟩⟩
theorem cut_zl {l : List Nat} {i j : Nat} (hi : i ≤ l.length) (hj : j ≤ l.length) : cutV (zl l) (some (i : Int)) (some (j : Int)) = zl ((l.drop i).take (j - i)) := by
  have e : ∀ (m d : Nat), m ≤ l.length → HT.sIx (zl l).length d (some (m : Int)) = m := fun m d hm => by
    rw [HT.sIx_nat, zl_len]
    omega
  unfold cutV
  rw [e i 0 hi, e j _ hj]
  unfold zl
  rw [List.map_take, List.map_drop]
theorem x_slice {l : List Nat} {i j : Nat} (he : XE X e Γ (rLN l)) (hl : XE X lo Γ (rZ (i : Int))) (hh : XE X hi Γ (rZ (j : Int))) (hi' : i ≤ l.length) (hj : j ≤ l.length) : XE X (.Subscript e (.Slice (some lo) (some hi) none p2) pos) Γ (rLN ((l.drop i).take (j - i))) :=
  PE.of (pe_slice sl_list he (po_some hl) (po_some hh)) fun _ _ _ ⟨G, ex, en, q⟩ => ⟨G, ex, en, fun v G1 H1 g1 r1 => ⟨G1, g1.sub, en.up g1.old, fun x G2 H2 g2 r2 => ⟨(i : Int), r2, G2, g2.sub, (en.up g1.old).up g2.old, fun y G3 H3 g3 r3 => ⟨(j : Int), r3, by
    obtain ⟨b, vs, k1, k2, k3⟩ := r1
    have k4 := zl_of k3
    subst k4
    refine ⟨b, zl l, k1, SqL.of (g3.sub _ _ (g3.old _ _ (g2.old _ _ k2))), fun p hp => ?_⟩
    rw [cut_zl hi' hj]
    exact q (.ref p) (upd G3 p (.lst (zl ((l.drop i).take (j - i))))) _ ((((g1.trans g2).trans g3)).trans (Gr.make g3.sub hp)) ⟨p, _, rfl, upd_same, zl_all _ _⟩⟩⟩⟩⟩
/-- a list that may have been handed in -/
def rSL (K : PySem.W.Frag) (l : List Nat) : Rp := ⟨fun v H => ∃ a, v = .ref a ∧ SqL K H a (zl l), fun e ⟨a, h1, h2⟩ => ⟨a, h1, e.l h2⟩⟩
theorem x_ixS {l : List Nat} {i d : Nat} (ha : XE X a Γ (rSL X.K l)) (hb : XE X b Γ (rZ (i : Int))) (hi : i < l.length) (hs : PlainIx b := by exact fun _ _ => rfl) : XE X (.Subscript a b pos) Γ (rZ ((l.getD i d : Nat) : Int)) :=
  PE.of (pe_ix ix_list ha hb hs) fun _ _ _ ⟨G, e, en, k⟩ => ⟨G, e, en, fun v G1 H1 g1 ⟨p, h1, h2⟩ => ⟨G1, g1.sub, en.up g1.old, fun w G2 H2 g2 r2 => by
    have e2 : (zl l)[i]? = some (V.int ((l.getD i d : Nat) : Int)) := by
      unfold zl
      rw [List.getElem?_map, List.getElem?_eq_getElem hi, List.getD_eq_getElem?_getD, List.getElem?_eq_getElem hi]
      rfl
    exact ⟨p, zl l, i, _, h1, r2, g2.sub.l (g2.old.l h2), atI_nat e2, k _ G2 H2 (g1.trans g2) rfl⟩⟩⟩
theorem x_lenS {l : List Nat} {p1 : Pos} (hm : X.mg "len" = none) (ha : XE X e Γ (rSL X.K l)) (hg : Gl X "len" := by rfl) (hs : starEach [e] X.env = (false, eval e X.env) :: starEach [] X.env := by rfl) : XE X (.Call (.Name "len" p1) [e] [] pos) Γ (rZ (l.length : Int)) :=
  x_cb call_len_seq hm PySem.boot_len ha (fun v G H Q ex ⟨q, h1, h2⟩ k => ⟨q, zl l, by rw [h1], .inl (ex.l h2), k _ G H (Gr.refl ex) (by rw [zl_len]; rfl)⟩) hg (hs := hs)
theorem x_sliceS {l : List Nat} {i j : Nat} (he : XE X e Γ (rSL X.K l)) (hl : XE X lo Γ (rZ (i : Int))) (hh : XE X hi Γ (rZ (j : Int))) (hi' : i ≤ l.length) (hj : j ≤ l.length) : XE X (.Subscript e (.Slice (some lo) (some hi) none p2) pos) Γ (rLN ((l.drop i).take (j - i))) :=
  PE.of (pe_slice sl_list he (po_some hl) (po_some hh)) fun _ _ _ ⟨G, ex, en, q⟩ => ⟨G, ex, en, fun v G1 H1 g1 ⟨b, k1, k2⟩ => ⟨G1, g1.sub, en.up g1.old, fun x G2 H2 g2 r2 => ⟨(i : Int), r2, G2, g2.sub, (en.up g1.old).up g2.old, fun y G3 H3 g3 r3 => ⟨(j : Int), r3, by
    refine ⟨b, zl l, k1, g3.sub.l (g3.old.l (g2.old.l k2)), fun p hp => ?_⟩
    rw [cut_zl hi' hj]
    exact q (.ref p) (upd G3 p (.lst (zl ((l.drop i).take (j - i))))) _ ((((g1.trans g2).trans g3)).trans (Gr.make g3.sub hp)) ⟨p, _, rfl, upd_same, zl_all _ _⟩⟩⟩⟩⟩
end
end OQ
/-! network.py: first_of, size_of, split_up -/
namespace OQ
open PySem PySem.Spec PyProof.Rows L2
section
variable {P : Program} {w : World} {K : PySem.W.Frag} {mg : Str → Option Value} {base : Heap}
abbrev CK : Type := List Cl × Nat
def WfC (cs : List Cl) : Prop := (∀ c ∈ cs, okc c) ∧ (cs.flatMap flat).length ≤ 1000
theorem ok_first_of (W : Wd P w K mg base) : FnG P w K mg base "first_of" 1 (fun x : CK => [rSL K (x.1.flatMap flat), rZ ((posn x.1 x.2 : Nat) : Int)]) (fun x => WfC x.1 ∧ x.2 < x.1.length) (fun x => rZ ((frst x.1 x.2 : Nat) : Int)) := by
  refine mk_first_of W.t 0 (fun _ => rfl) fun cdv A outer s0 H E x0 hc hr => ?_
  obtain ⟨cs, k⟩ := x0
  obtain ⟨wf, hk⟩ : WfC cs ∧ k < cs.length := hc
  have e0 := at_here hk
  have p0 := posn_lt hk
  refine ss_if (t_imp (t_eqI (x_ixS (d := 0) (x_var (i := 0)) (x_var (i := 1)) p0) (x_globI (W.t.zs "STATE_CHANCE" 23 (by decide +kernel)))) (dec_eq _ 23)) (fun h => ?_) (fun h => ?_)
  · have h1 := of_decide_eq_true h
    rw [e0] at h1
    refine ss_one (s_ret (x_eq (x_add (x_var (i := 1)) x_int) ?_))
    show rZ (((posn cs k : Nat) : Int) + 2) = rZ ((frst cs k : Nat) : Int)
    unfold frst
    rw [if_pos h1]
    rfl
  · have h1 := of_decide_eq_false h
    rw [e0] at h1
    refine ss_one (s_ret (x_eq (x_add (x_var (i := 1)) x_int) ?_))
    show rZ (((posn cs k : Nat) : Int) + 1) = rZ ((frst cs k : Nat) : Int)
    unfold frst
    rw [if_neg h1]
    rfl
theorem szs_at {n : Nat} (h : n ≤ 25) : (sizes.map V.int)[n]? = some (.int ((szs.getD n 0 : Nat) : Int)) := by
  have : ∀ m : Fin 26, (sizes.map V.int)[m.1]? = some (.int ((szs.getD m.1 0 : Nat) : Int)) := by decide +kernel
  exact this ⟨n, by omega⟩
theorem ok_size_of (W : Wd P w K mg base) : FnG P w K mg base "size_of" 1 (fun x : CK => [rSL K (x.1.flatMap flat), rZ ((posn x.1 x.2 : Nat) : Int)]) (fun x => WfC x.1 ∧ x.2 < x.1.length) (fun x => rZ (((x.1.getD x.2 (0, [])).2.length : Nat) : Int)) := by
  refine mk_size_of W.t 0 (fun _ => rfl) fun cdv A outer s0 H E x0 hc hr => ?_
  obtain ⟨cs, k⟩ := x0
  obtain ⟨wf, hk⟩ : WfC cs ∧ k < cs.length := hc
  have e0 := at_here hk
  have p0 := posn_lt hk
  have oc := wf.1 (cs.getD k (0, [])) (getD_mem hk)
  refine ss_if (t_imp (t_eqI (x_ixS (d := 0) (x_var (i := 0)) (x_var (i := 1)) p0) (x_globI (W.t.zs "STATE_CHANCE" 23 (by decide +kernel)))) (dec_eq _ 23)) (fun h => ?_) (fun h => ?_)
  · have h1 := of_decide_eq_true h
    rw [e0] at h1
    obtain ⟨e1, p1⟩ := at_next hk h1
    refine ss_one (s_ret (x_eq (x_ixS (d := 0) (i := posn cs k + 1) (x_var (i := 0)) (x_eq (x_add (x_var (i := 1)) x_int) rfl) p1) ?_))
    show rZ _ = rZ _
    rw [e1]
  · have h1 := of_decide_eq_false h
    rw [e0] at h1
    refine ss_one (s_ret (x_eq (x_tix (i := (cs.getD k (0, [])).1) (vs := sizes.map V.int) (x_globR (W.t.refs "SIZES" a_SIZES (by decide +kernel)) (fun G => ⟨a_SIZES, rfl, W.t.tSIZES G⟩)) (x_eq (x_ixS (d := 0) (x_var (i := 0)) (x_var (i := 1)) p0) (by rw [e0])) (szs_at oc.1)) ?_))
    show rV (V.int _) = rZ _
    rw [oc.2 h1]
theorem ok_split_up (W : Wd P w K mg base) : FnG P w K mg base "split_up" 2 (fun x : List Cl => [rSL K (x.flatMap flat)]) (fun x => WfC x) (fun x => rL (x.map (rCall K))) := by
  refine mk_split_up W.t 1 (fun _ => rfl) fun cdv A outer s0 H E cs hc hr => ?_
  have wf : WfC cs := hc
  have l1 : cs.length ≤ (cs.flatMap flat).length := by
    have : ∀ l : List Cl, l.length ≤ (l.flatMap flat).length := fun l => by
      induction l with
      | nil => exact Nat.le_refl _
      | cons c l ih =>
        rw [List.flatMap_cons, List.length_append, List.length_cons]
        have := flat_pos c
        omega
    exact this cs
  have l2 := wf.2
  refine o_all (i := 1) (rs := []) a_nil (by decide) sc_split_up.nd fun p G0 H0 => ?_
  let Γf : Nat → Ctx := fun k => [some (rSL K (cs.flatMap flat)), some (rV (.ref p)), some (rZ ((posn cs k : Nat) : Int)), none, none]
  refine or_cons (Γ' := Γf 0) (rs' := []) (o_lift (s_set (i := 2) (R := rZ ((posn cs 0 : Nat) : Int)) sc_split_up.nd (x_eq x_int rfl))) (or_cons (Γ' := Γf cs.length) (rs' := cs.map (rCall K)) (o_while Γf (fun k => (cs.take k).map (rCall K)) (fun k => k ≤ cs.length) (fun k => decide (k < cs.length)) (fun k => cs.length - k) 0 0 (Nat.zero_le _) (Le.refl _) (fun k hk => ?_) (fun k hk hlt => ?_) (fun k hk hge => ?_)) (or_ret (i := 1) rfl))
  · refine t_imp (t_lt (x_var (i := 2)) (x_lenS (W.t.frees _ (by decide +kernel)) (x_var (i := 0)))) ?_
    refine (dec_lt _ _).trans (decide_eq_decide.mpr ⟨fun z => ?_, fun z => posn_lt z⟩)
    by_cases e : k = cs.length
    · rw [e, posn_all] at z
      omega
    · omega
  · have hlt := of_decide_eq_true hlt
    have e1 := frst_end hlt
    have p0 := posn_lt hlt
    have p1 : posn cs (k + 1) ≤ (cs.flatMap flat).length := by
      by_cases e : k + 1 = cs.length
      · rw [e, posn_all]
        exact Nat.le_refl _
      · exact Nat.le_of_lt (posn_lt (by omega))
    refine ⟨k + 1, hlt, by omega, ?_⟩
    refine o_cons (Γ' := [some (rSL K (cs.flatMap flat)), some (rV (.ref p)), some (rZ ((posn cs k : Nat) : Int)), some (rZ ((frst cs k : Nat) : Int)), none]) (o_lift (s_set (i := 3) sc_split_up.nd (x_call (ok_first_of W) hr (by decide) (cs, k) (a_cons (x_var (i := 0)) (a_cons (x_var (i := 2)) a_nil)) rfl ⟨wf, hlt⟩)))
      (o_cons (Γ' := [some (rSL K (cs.flatMap flat)), some (rV (.ref p)), some (rZ ((posn cs k : Nat) : Int)), some (rZ ((frst cs k : Nat) : Int)), some (rZ ((posn cs (k + 1) : Nat) : Int))]) (o_lift (s_set (i := 4) (R := rZ ((posn cs (k + 1) : Nat) : Int)) sc_split_up.nd (x_eq (x_add (x_var (i := 3)) (x_call (ok_size_of W) hr (by decide) (cs, k) (a_cons (x_var (i := 0)) (a_cons (x_var (i := 2)) a_nil)) rfl ⟨wf, hlt⟩)) (congrArg rZ (show ((frst cs k : Nat) : Int) + (((cs.getD k (0, [])).2.length : Nat) : Int) = ((posn cs (k + 1) : Nat) : Int) by omega)))))
      (o_cons (o_append (R := rCall K (cs.getD k (0, []))) (i := 1) rfl (x_eq (x_pair (x_eq (x_ixS (d := 0) (x_var (i := 0)) (x_var (i := 2)) p0) (by rw [at_here hlt])) (x_eq (x_sliceS (x_var (i := 0)) (x_var (i := 3)) (x_var (i := 4)) (by omega) p1) (by rw [args_at hlt]))) rfl) (by rw [List.length_map, List.length_take]; omega))
      (o_cons (Γ' := [some (rSL K (cs.flatMap flat)), some (rV (.ref p)), some (rZ ((posn cs (k + 1) : Nat) : Int)), some (rZ ((frst cs k : Nat) : Int)), some (rZ ((posn cs (k + 1) : Nat) : Int))]) (o_lift (s_set (i := 2) sc_split_up.nd (x_var (i := 4))))
      (o_eq (o_le (le_same (le_same (le_same (le_drop (le_drop le_nil))))) o_nil) ?_))))
    show (cs.take k).map (rCall K) ++ [rCall K (cs.getD k (0, []))] = (cs.take (k + 1)).map (rCall K)
    rw [List.take_succ, List.getElem?_eq_getElem hlt, List.getD_eq_getElem?_getD, List.getElem?_eq_getElem hlt, List.map_append]
    rfl
  · have hge := of_decide_eq_false hge
    have e : k = cs.length := by omega
    subst e
    refine ⟨Le.refl _, ?_⟩
    rw [List.take_length]
end
end OQ
/-! network.py: answers, one call -/
namespace OQ
open PySem PySem.Spec PyProof.Rows L2
open Lrx4 (Network)
def stepC (st : Option Network) (c : Cl) : Option Network × List Int :=
  if c.1 = 0 then (if okSG (c.2.getD 0 0) (c.2.getD 1 0) then (some (netNew (c.2.getD 0 0) (c.2.getD 1 0)), [0]) else (st, [-22]))
  else match st with
    | none => (none, [-11])
    | some net => (some (stN (opC c.1 c.2) net), res (opC c.1 c.2) net)
def okq (c : Cl) : Prop := okc c ∧ c.2.length ≤ 1000
theorem okq_op {c : Cl} (h : okq c) (h0 : c.1 ≠ 0) : 1 ≤ c.1 ∧ c.1 ≤ 25 ∧ opN c.1 c.2 := by
  obtain ⟨⟨h1, h2⟩, h3⟩ := h
  refine ⟨by omega, h1, ⟨fun e => ?_, fun e => ?_, fun e => ?_⟩, fun e => ?_, fun e => ?_, h3⟩
  · rcases e with e | e | e | e <;> · rw [h2 (by omega), e]; rfl
  · rw [h2 (by omega), e]; rfl
  · rcases e with e | e <;> · rw [h2 (by omega), e]; rfl
  · rw [h2 (by omega), e]; rfl
  · rcases e with e | e | e | e | e | e <;> · rw [h2 (by omega), e]; rfl
theorem new_ok {s g : Nat} (h : okSG s g = true) : NetOk (netNew s g) := by
  have v1 := Bool.and_eq_true _ _ |>.mp h
  have v2 := Bool.and_eq_true _ _ |>.mp v1.1
  have v3 := Bool.and_eq_true _ _ |>.mp v1.2
  have s1 : 1 ≤ s := of_decide_eq_true v2.1
  have s5 : s ≤ 5 := of_decide_eq_true v2.2
  have g1 : 1 ≤ g := of_decide_eq_true v3.1
  have g3 : g ≤ 3 := of_decide_eq_true v3.2
  have e1 : Lrx4.stationCount (netNew s g) = s := List.length_replicate ..
  have e2 : Lrx4.placeCount (netNew s g) = s * g := by
    unfold Lrx4.placeCount
    rw [e1]
    rfl
  refine ⟨by rw [e1]; omega, ⟨g1, g3⟩, by rw [e2]; exact List.length_replicate .., by rw [e2]; exact List.length_replicate .., by rw [e2]; exact List.length_replicate .., by rw [e2]; exact List.length_replicate .., fun r hr => ?_, fun a ha => ?_, fun a ha => ?_, fun a ha => ?_, fun r hr x hx => ?_, fun st hs => ?_⟩
  · rw [e2, (List.mem_replicate.mp hr).2]
    exact List.length_replicate ..
  · rw [(List.mem_replicate.mp ha).2]; decide
  · rw [(List.mem_replicate.mp ha).2]; decide
  · rw [(List.mem_replicate.mp ha).2]; decide
  · rw [(List.mem_replicate.mp hr).2] at hx
    rw [(List.mem_replicate.mp hx).2]; decide
  · rw [(List.mem_replicate.mp hs).2]
    exact ⟨by decide, fun _ => by decide, fun z => absurd rfl z⟩
/-- where the net stands -/
def NtAt (p : Addr) (G H0 : Hp) (nv : V) (H : Hp) : Option Network → Prop
  | none => nv = .non
  | some net => NetOk net ∧ ∃ a F, nv = .ref a ∧ NetAt a_Net H a net F ∧ ∀ b ∈ ft a F, G b = none ∧ H0 b = none ∧ b ≠ p
structure Iv (p : Addr) (G H0 : Hp) (st : Option Network) (zs : List Int) (nv : V) (H : Hp) : Prop where
  fr : Ex G H
  gp : G p = none
  k0 : Ex H0 H
  p0 : H0 p = none
  fd : H p = some (.lst (zs.map V.int))
  nt : NtAt p G H0 nv H st
theorem NtAt.up {p : Addr} {G H0 H H' : Hp} {nv : V} {st : Option Network} (h : NtAt p G H0 nv H st) (e : ∀ b o, b ≠ p → H b = some o → H' b = some o) : NtAt p G H0 nv H' st := by
  cases st with
  | none => exact h
  | some net =>
    obtain ⟨ok, a, F, h1, h2, h3⟩ := h
    obtain ⟨f1, f2, f3, f4, f5, f6⟩ := in_ft F a
    refine ⟨ok, a, F, h1, ⟨e _ _ (h3 a List.mem_cons_self).2.2 h2.obj, e _ _ (h3 _ f1).2.2 h2.k, e _ _ (h3 _ f2).2.2 h2.s, e _ _ (h3 _ f3).2.2 h2.m, e _ _ (h3 _ f4).2.2 h2.r, e _ _ (h3 _ f5).2.2 h2.l, e _ _ (h3 _ f6).2.2 h2.w, h2.rl, fun i q hq => e _ _ (h3 q ?_).2.2 (h2.rw i q hq), h2.nd⟩, h3⟩
    exact List.mem_cons_of_mem _ (List.mem_append_right _ (List.mem_of_getElem? hq))
theorem Iv.up {p : Addr} {G H0 H H' : Hp} {nv : V} {st : Option Network} {zs : List Int} (h : Iv p G H0 st zs nv H) (e : Ex H H') : Iv p G H0 st zs nv H' :=
  ⟨h.fr.trans e, h.gp, h.k0.trans e, h.p0, e _ _ h.fd, h.nt.up fun b o _ hb => e b o hb⟩
/-- all but one -/
noncomputable def Wout1 (p : Addr) (H : Hp) : Hp := fun b => if b = p then none else H b
theorem np_sub {p : Addr} {H : Hp} : Ex (Wout1 p H) H := fun b o h => by
  unfold Wout1 at h
  split at h
  · cases h
  · exact h
theorem np_self {p : Addr} {H : Hp} : Wout1 p H p = none := if_pos rfl
theorem np_of {p : Addr} {G H : Hp} (e : Ex G H) (h : G p = none) : Ex G (Wout1 p H) := fun b o hb => by
  unfold Wout1
  rw [if_neg (ne_of_none hb h)]
  exact e b o hb
abbrev gA (nv : V) (p : Addr) (c : Cl) : Ctx := [none, some (rV nv), some (rV (.ref p)), some (rZ (c.1 : Int)), some (rLN c.2), none, none]
abbrev gB (nv : V) (p : Addr) (ans : List Int) : Ctx := [none, some (rV nv), some (rV (.ref p)), none, none, none, some (rLZ ans)]
def tA (c : Cl) : TS := fun D σ H => ∃ (p : Addr) (G H0 : Hp) (st : Option Network) (zs : List Int) (nv : V), Iv p G H0 st zs nv H ∧ En (gA nv p c) σ G ∧ ∀ σ' H' nv', Iv p G H0 (stepC st c).1 zs nv' H' → En (gB nv' p (stepC st c).2) σ' (Wout1 p H') → D.nx σ' H'
section
variable {X : Cx} {p : Addr} {G H0 : Hp} {pos ap cp : Pos} {e1 e2 : Expr}
/-- found.append(len(answer)); found.extend(answer) -/
theorem ans_tail {st1 st2 : Stmt} {nv : V} {zs ans : List Int} (h : ∀ p G0 H0, OSs X p G0 H0 [st1, st2] (gB nv p ans) (zs.map fun n => rV (.int n)) (gB nv p ans) ((zs ++ ((ans.length : Int) :: ans)).map fun n => rV (.int n))) :
    PSs X [st1, st2] (fun D σ H => ∃ (p : Addr) (G H0 : Hp) (st : Option Network), Iv p G H0 st zs nv H ∧ En (gB nv p ans) σ (Wout1 p H) ∧ ∀ σ' H', Iv p G H0 st (zs ++ ((ans.length : Int) :: ans)) nv H' → En [none, some (rV nv), some (rV (.ref p)), none, none, none, none] σ' G → D.nx σ' H') :=
  ⟨fun pins s σ H D I ⟨p, G, H0, st, iv, en, q⟩ => by
    refine (h p (Wout1 p H) (Wout1 p H)).run pins s σ H D I ⟨Wout1 p H, ⟨np_self, Ex.refl _, np_sub, np_self, Ex.refl _, np_sub, fun b o hb => .inl hb, _, iv.fd, vals_all (f := fun (n : Int) => V.int n)⟩, en, fun σ' G' H' o ex en' => ?_⟩
    obtain ⟨vs, h1, h2⟩ := o.at_
    have hv := all_vals (f := fun (n : Int) => V.int n) h2
    subst hv
    have kp := o.kept
    refine q σ' H' ⟨(np_of iv.fr iv.gp).trans kp, iv.gp, (np_of iv.k0 iv.p0).trans kp, iv.p0, h1, iv.nt.up fun b o hb hh => kp b o ?_⟩ ?_
    · unfold Wout1
      rw [if_neg hb]
      exact hh
    · match σ', en' with
      | [y0, y1, y2, y3, y4, y5, y6], ⟨z1, z2, _⟩ => exact ⟨z1, z2, trivial⟩⟩
end
end OQ
/-! network.py: answers, one call's walk -/
namespace OQ
open PySem PySem.Spec PyProof.Rows L2
open Lrx4 (Network)
theorem wo_of {p : Addr} {G H H' G' : Hp} (hp : ∃ o, H p = some o) (gp : G p = none) (g : Gr G H G' H') : G' p = none := by
  obtain ⟨o, hp⟩ := hp
  cases q : G' p with
  | none => rfl
  | some u =>
    rcases g.new p u q with z | z
    · rw [gp] at z; cases z
    · rw [hp] at z; cases z
theorem le_AB {nv : V} {p : Addr} {c : Cl} {ans : List Int} : Le [none, some (rV nv), some (rV (.ref p)), some (rZ (c.1 : Int)), some (rLN c.2), none, some (rLZ ans)] (gB nv p ans) := le_same (le_same (le_same (le_drop (le_drop (le_same (le_same le_nil))))))
section
variable {P : Program} {w : World} {K : PySem.W.Frag} {mg : Str → Option Value} {base : Heap}
abbrev xA (P : Program) (w : World) (K : PySem.W.Frag) (mg : Str → Option Value) (base : Heap) (cdv : Value) (A : Around) (outer : List Env) (s0 : Shared) (H : Hp) (E : XK) : Cx := cx P w K mg base N_answers "answers" s_answers a_answers cdv A outer s0 H E
/-- answer = answered(net, number, args) -/
theorem ans_else (W : Wd P w K mg base) {cdv : Value} {A : Around} {outer : List Env} {s0 : Shared} {Hs : Hp} {E : XK} {c : Cl} (hq : okq c) (h0 : c.1 ≠ 0) (hr : Room 55 (xA P w K mg base cdv A outer s0 Hs E).A) {p1 p2 p3 p4 p5 pos cpos : Pos} (hsw : swapsWith (.Call (.Name "answered" p1) [.Name "net" p2, .Name "number" p3, .Name "args" p4] [] cpos) (some (.Name "answer" p5)) pos.line (xA P w K mg base cdv A outer s0 Hs E).env = pure false := by rfl)
    (he : starEach [.Name "net" p2, .Name "number" p3, .Name "args" p4] (xA P w K mg base cdv A outer s0 Hs E).env = (false, eval (.Name "net" p2) (xA P w K mg base cdv A outer s0 Hs E).env) :: starEach [.Name "number" p3, .Name "args" p4] (xA P w K mg base cdv A outer s0 Hs E).env := by rfl) (hpl : (backTo cpos (starEach [.Name "number" p3, .Name "args" p4] (xA P w K mg base cdv A outer s0 Hs E).env)).any (·.1) = false := by rfl) :
    PS (xA P w K mg base cdv A outer s0 Hs E) (.Assign [.Name "answer" p5] (.Call (.Name "answered" p1) [.Name "net" p2, .Name "number" p3, .Name "args" p4] [] cpos) pos) (tA c) := by
  obtain ⟨f1, fd1, ps1, F1, hm1, kp1, hb1⟩ := ok_answered W
  obtain ⟨n1, n25, hN⟩ := okq_op hq h0
  refine ⟨fun pins s σ H D I ⟨p, G, H0, st, zs, nv, iv, en, q⟩ => ?_⟩
  refine (ps_set (i := 6) sc_answers.nd rfl (Or.inl rfl) (pe_call (p := p1) (pos := cpos) (E := E0) F1 hr (by rfl) hm1 kp1 hb1 .nil pass0 (a_cons (Γ := gA nv p c) (x_var (i := 1)) (a_cons (x_var (i := 3)) (a_cons (x_var (i := 4)) a_nil)) he) (by decide) he hpl) hsw (.inr rfl)).run pins s σ H D I ?_
  refine ⟨G, iv.fr, en, fun vs G1 H1 g1 r1 => ?_⟩
  show spAn (vs ++ []) H1 _ E0
  rw [List.append_nil]
  have G1p := wo_of ⟨_, iv.fd⟩ iv.gp g1
  have iv1 := iv.up g1.kept
  cases st with
  | none =>
    have e : nv = .non := iv.nt
    have stp : stepC none c = (none, [-11]) := if_neg h0
    rw [stp] at q
    refine .inl ⟨c.1, c.2, G1, g1.sub, by rw [← e]; exact r1, fun v G' H' g' r => ?_⟩
    have gg := g1.trans g'
    have G'p := wo_of ⟨_, iv.fd⟩ iv.gp gg
    refine q _ H' nv (iv.up gg.kept) ?_
    exact le_AB (c := c) _ _ (((en.up gg.old).set (i := 6) r).up (np_of gg.sub G'p))
  | some net =>
    have stp : stepC (some net) c = (some (stN (opC c.1 c.2) net), res (opC c.1 c.2) net) := if_neg h0
    obtain ⟨ok, a, F, e, hn0, hd⟩ := iv.nt
    have hn := hn0.up g1.kept
    have hH := ft_some hn0
    rw [stp] at q
    match vs, r1 with
    | u :: ws, ⟨ru, rw'⟩ =>
      have ru : u = nv := ru
      subst ru
      refine .inr ⟨net, c.1, c.2, a, F, ws, G1, by rw [e], hn, ⟨ok, n1, n25, hN⟩, g1.sub, fun b hb => ?_, rw', fun b H' F' k hn' hb' hor => ?_⟩
      · cases z : G1 b with
        | none => rfl
        | some o =>
          rcases g1.new b o z with y | y
          · rw [(hd b hb).1] at y; cases y
          · obtain ⟨o2, h2⟩ := hH b hb
            rw [y] at h2; cases h2
      · have okn : NetOk (stN (opC c.1 c.2) net) := by
          unfold opC
          split
          · exact (chg_step ok n1 (by omega) c.2).2
          · rw [ask_st]; exact ok
        have pf : p ∉ ft a F := fun m => (hd p m).2.2 rfl
        have p1 := iv1.fd
        have p2 := k.keep p _ pf p1
        have bp : b ≠ p := fun z => by
          rcases hor with y | ⟨o, y⟩ | y
          · exact pf (z ▸ y)
          · rw [z, G1p] at y; cases y
          · rw [z, p1] at y; cases y
        refine q _ H' u ⟨fun x o hx => k.keep x o (fun m => ?_) (iv1.fr x o hx), iv.gp, fun x o hx => k.keep x o (fun m => ?_) (iv1.k0 x o hx), iv.p0, p2, okn, a, F', e, hn', fun x hx => ?_⟩ ?_
        · rw [(hd x m).1] at hx; cases hx
        · rw [(hd x m).2.1] at hx; cases hx
        · rcases k.foot x hx with y | y
          · exact hd x y
          · exact ⟨iv1.fr.free y, iv1.k0.free y, fun z => by rw [z, p1] at y; cases y⟩
        · have hw : Wout1 p H' b = some (.lst ((res (opC c.1 c.2) net).map V.int)) := by
            unfold Wout1
            rw [if_neg bp]
            exact hb'
          have eG : Ex G (Wout1 p H') := np_of (fun x o hx => k.keep x o (fun m => by rw [(hd x m).1] at hx; cases hx) (iv1.fr x o hx)) iv.gp
          refine le_AB (c := c) _ _ ((en.up eG).set (i := 6) ?_)
          exact ⟨b, _, rfl, hw, vals_all (f := fun (n : Int) => V.int n)⟩
end
end OQ
/-! network.py: answers, the loop's body -/
namespace OQ
open PySem PySem.Spec PyProof.Rows L2
open Lrx4 (Network)
def forBody : List Stmt := match defBody s_answers with
  | _ :: _ :: .For _ _ b _ _ :: _ => b
  | _ => []
def forIf : Stmt := forBody.getD 0 (.Pass ⟨0, 0, 0, 0⟩)
def ifThen : List Stmt := match forIf with
  | .If _ a _ _ => a
  | _ => []
abbrev gC (nv : V) (p : Addr) (c : Cl) (mv : V) (ans : Option Rp) : Ctx := [none, some (rV nv), some (rV (.ref p)), some (rZ (c.1 : Int)), some (rLN c.2), some (rV mv), ans]
theorem le_CB {nv : V} {p : Addr} {c : Cl} {mv : V} {ans : List Int} : Le (gC nv p c mv (some (rLZ ans))) (gB nv p ans) := le_same (le_same (le_same (le_drop (le_drop (le_drop (le_same le_nil))))))
section
variable {P : Program} {w : World} {K : PySem.W.Frag} {mg : Str → Option Value} {base : Heap} {cdv : Value} {A : Around} {outer : List Env} {s0 : Shared} {Hs : Hp} {E : XK} {c : Cl}
theorem ans_no (W : Wd P w K mg base) {nv : V} {p : Addr} : XSs (xA P w K mg base cdv A outer s0 Hs E) (ifThen.drop 1) (gC nv p c .non none) (.nxt (gC nv p c .non (some (rLZ [-22])))) :=
  ss_cons (s_set (i := 6) (R := rLZ [-22]) sc_answers.nd (x_ifExp (t_isN (x_var (i := 5))) (fun _ => x_eq (x_lst (a_cons (x_globI (W.t.zs "OUTSIDE" (-22) (by decide +kernel))) a_nil)) rfl) (fun z => by cases z)))
    (ss_one (s_set (i := 1) (R := rV nv) sc_answers.nd (x_ifExp (t_isN (x_var (i := 5))) (fun _ => x_var (i := 1)) (fun z => by cases z))))
theorem ans_yes (W : Wd P w K mg base) {nv : V} {p x : Addr} : XSs (xA P w K mg base cdv A outer s0 Hs E) (ifThen.drop 1) (gC nv p c (.ref x) none) (.nxt (gC (.ref x) p c (.ref x) (some (rLZ [0])))) :=
  ss_cons (s_set (i := 6) (R := rLZ [0]) sc_answers.nd (x_ifExp (t_isN (x_var (i := 5))) (fun z => by cases z) (fun _ => x_eq (x_lst (a_cons x_int a_nil)) rfl)))
    (ss_one (s_set (i := 1) (R := rV (.ref x)) sc_answers.nd (x_ifExp (t_isN (x_var (i := 5))) (fun z => by cases z) (fun _ => x_var (i := 5)))))
theorem ans_then (W : Wd P w K mg base) (hq : okq c) (h0 : c.1 = 0) (hr : Room 55 (xA P w K mg base cdv A outer s0 Hs E).A) : PSs (xA P w K mg base cdv A outer s0 Hs E) ifThen (tA c) := by
  obtain ⟨f1, fd1, ps1, F1, hm1, kp1, hb1⟩ := ok_created W
  obtain ⟨sx, gx, e2⟩ : ∃ a b, c.2 = [a, b] := len2 (by rw [hq.1.2 (by omega), h0]; rfl)
  have e3 : c.2.getD 0 0 = sx ∧ c.2.getD 1 0 = gx := by rw [e2]; exact ⟨rfl, rfl⟩
  let t2 : TS := fun D σ H => ∃ (p : Addr) (nv mv : V) (G : Hp), Ex G H ∧ En (gC nv p c mv none) σ G ∧ ((mv = .non ∧ ∀ σ' G' H', Gr G H G' H' → En (gC nv p c .non (some (rLZ [-22]))) σ' G' → D.nx σ' H') ∨ ∃ x, mv = .ref x ∧ ∀ σ' G' H', Gr G H G' H' → En (gC (.ref x) p c (.ref x) (some (rLZ [0]))) σ' G' → D.nx σ' H')
  have hrest : PSs (xA P w K mg base cdv A outer s0 Hs E) (ifThen.drop 1) t2 := ⟨fun pins s σ H D I ⟨p, nv, mv, G, ex, en, h⟩ => by
    rcases h with ⟨rfl, q⟩ | ⟨x, rfl, q⟩
    · exact (ans_no W).run pins s σ H D I ⟨G, ex, en, fun σ' G' H' g e => q σ' G' H' g e⟩
    · exact (ans_yes W).run pins s σ H D I ⟨G, ex, en, fun σ' G' H' g e => q σ' G' H' g e⟩⟩
  refine ⟨fun pins s σ H D I ⟨p, G, H0, st, zs, nv, iv, en, q⟩ => ?_⟩
  refine (pss_cons (ps_set (i := 5) sc_answers.nd rfl (Or.inl rfl) (pe_call (E := E0) F1 (hr.mono (by decide)) (by rfl) hm1 kp1 hb1 .nil pass0 (a_cons (Γ := gA nv p c) (x_var (i := 4)) a_nil) (by decide) rfl rfl) rfl (.inr rfl)) hrest : PSs (xA P w K mg base cdv A outer s0 Hs E) ifThen _).run pins s σ H D I ?_
  refine ⟨G, iv.fr, en, fun vs G1 H1 g1 r1 => ?_⟩
  show spC (vs ++ []) H1 _ E0
  rw [List.append_nil]
  have iv1 := iv.up g1.kept
  have hp1 := iv1.fd
  have stp : stepC st c = if okSG sx gx then (some (netNew sx gx), [0]) else (st, [-22]) := by
    unfold stepC
    rw [if_pos h0, e3.1, e3.2]
  refine ⟨sx, gx, G1, g1.sub, by rw [← e2]; exact r1, fun hb H' ex' => ?_, fun hb x F H' ex' hn hf => ?_⟩
  · have iv2 := iv1.up ex'
    refine ⟨p, nv, .non, G, iv2.fr, en.set (i := 5) (r := rV .non) rfl, .inl ⟨rfl, fun σ' G' H2 g e => ?_⟩⟩
    have gp := wo_of ⟨_, iv2.fd⟩ iv.gp g
    rw [stp, hb] at q
    exact q σ' H2 nv (iv2.up g.kept) (le_CB _ _ (e.up (np_of g.sub gp)))
  · have iv2 := iv1.up ex'
    refine ⟨p, nv, .ref x, G, iv2.fr, en.set (i := 5) (r := rV (.ref x)) rfl, .inr ⟨x, rfl, fun σ' G' H2 g e => ?_⟩⟩
    have gp := wo_of ⟨_, iv2.fd⟩ iv.gp g
    rw [stp, hb] at q
    have i3 := iv2.up g.kept
    refine q σ' H2 (.ref x) ⟨i3.fr, i3.gp, i3.k0, i3.p0, i3.fd, new_ok hb, x, F, rfl, hn.up g.kept, fun b hb' => ?_⟩ (le_CB _ _ (e.up (np_of g.sub gp)))
    have := hf b hb'
    exact ⟨iv1.fr.free this, iv1.k0.free this, fun z => by rw [z, hp1] at this; cases this⟩
theorem ans_if (W : Wd P w K mg base) (hq : okq c) (hr : Room 55 (xA P w K mg base cdv A outer s0 Hs E).A) : PS (xA P w K mg base cdv A outer s0 Hs E) forIf (tA c) := by
  refine ⟨fun pins s σ H D I ⟨p, G, H0, st, zs, nv, iv, en, q⟩ => ?_⟩
  by_cases h0 : c.1 = 0
  · refine (ps_if (u := fun _ _ _ => False) (t_imp (k' := true) (t_eqI (Γ := gA nv p c) (x_var (i := 3)) (x_globI (W.t.zs "CREATE" 0 (by decide +kernel)))) (decide_eq_true (by omega))) (ans_then W hq h0 hr) ⟨fun _ _ _ _ _ _ h => h.elim⟩ : PS (xA P w K mg base cdv A outer s0 Hs E) forIf _).run pins s σ H D I ?_
    exact ⟨G, iv.fr, en, fun G' H' g => ⟨p, G, H0, st, zs, nv, iv.up g.kept, en, q⟩⟩
  · refine (ps_if (t := fun _ _ _ => False) (t_imp (k' := false) (t_eqI (Γ := gA nv p c) (x_var (i := 3)) (x_globI (W.t.zs "CREATE" 0 (by decide +kernel)))) (decide_eq_false (by omega))) ⟨fun _ _ _ _ _ _ h => h.elim⟩ (pss_one (ans_else W hq h0 hr)) : PS (xA P w K mg base cdv A outer s0 Hs E) forIf _).run pins s σ H D I ?_
    exact ⟨G, iv.fr, en, fun G' H' g => ⟨p, G, H0, st, zs, nv, iv.up g.kept, en, q⟩⟩
def tBd (c : Cl) : TS := fun D σ H => ∃ (p : Addr) (G H0 : Hp) (st : Option Network) (zs : List Int) (nv : V), Iv p G H0 st zs nv H ∧ En (gA nv p c) σ G ∧ zs.length + 1 + (stepC st c).2.length ≤ 10000000 ∧ ∀ σ' H' nv', Iv p G H0 (stepC st c).1 (zs ++ (((stepC st c).2.length : Int) :: (stepC st c).2)) nv' H' → En [none, some (rV nv'), some (rV (.ref p)), none, none, none, none] σ' G → D.nx σ' H'
theorem ans_two (W : Wd P w K mg base) {nv : V} {zs ans : List Int} (hl : zs.length + 1 + ans.length ≤ 10000000) (p : Addr) (G0 H0 : Hp) : OSs (xA P w K mg base cdv A outer s0 Hs E) p G0 H0 (forBody.drop 1) (gB nv p ans) (zs.map fun n => rV (.int n)) (gB nv p ans) ((zs ++ ((ans.length : Int) :: ans)).map fun n => rV (.int n)) := by
  have e : (zs.map fun n => rV (.int n)) ++ [rZ (ans.length : Int)] ++ (ans.map fun n => rV (.int n)) = (zs ++ ((ans.length : Int) :: ans)).map fun n => rV (.int n) := by
    rw [List.map_append, List.map_cons, List.append_assoc]
    rfl
  rw [← e]
  exact o_cons (o_append (i := 2) rfl (x_eq (x_len (W.t.frees _ (by decide +kernel)) (x_var (i := 6))) (by rw [List.length_map])) (by rw [List.length_map]; omega)) (o_cons (o_extend (i := 2) rfl (x_var (i := 6)) (by rw [List.length_append, List.length_map, List.length_map]; show zs.length + 1 + ans.length ≤ 10000000; exact hl)) o_nil)
theorem ans_body (W : Wd P w K mg base) (hq : okq c) (hr : Room 55 (xA P w K mg base cdv A outer s0 Hs E).A) : PSs (xA P w K mg base cdv A outer s0 Hs E) forBody (tBd c) := by
  let t2 : TS := fun D σ H => ∃ (nv : V) (zs ans : List Int), zs.length + 1 + ans.length ≤ 10000000 ∧ ∃ (p : Addr) (G H0 : Hp) (st : Option Network), Iv p G H0 st zs nv H ∧ En (gB nv p ans) σ (Wout1 p H) ∧ ∀ σ' H', Iv p G H0 st (zs ++ ((ans.length : Int) :: ans)) nv H' → En [none, some (rV nv), some (rV (.ref p)), none, none, none, none] σ' G → D.nx σ' H'
  have h2 : PSs (xA P w K mg base cdv A outer s0 Hs E) (forBody.drop 1) t2 := ⟨fun pins s σ H D I ⟨nv, zs, ans, hl, h⟩ => (ans_tail (X := xA P w K mg base cdv A outer s0 Hs E) (nv := nv) (zs := zs) (ans := ans) (st1 := forBody.getD 1 (.Pass ⟨0, 0, 0, 0⟩)) (st2 := forBody.getD 2 (.Pass ⟨0, 0, 0, 0⟩)) (fun p G0 H0 => ans_two W hl p G0 H0)).run pins s σ H D I h⟩
  refine PSs.of (pss_cons (ans_if W hq hr) h2 : PSs (xA P w K mg base cdv A outer s0 Hs E) forBody _) fun D σ H ⟨p, G, H0, st, zs, nv, iv, en, hl, q⟩ => ?_
  exact ⟨p, G, H0, st, zs, nv, iv, en, fun σ' H' nv' iv' en' => ⟨nv', zs, (stepC st c).2, hl, p, G, H0, (stepC st c).1, iv', en', fun σ2 H2 iv2 en2 => q σ2 H2 nv' iv2 en2⟩⟩
end
end OQ
/-! network.py: answers -/
namespace OQ
open PySem PySem.Spec PyProof.Rows L2
open Lrx4 (Network)
def outC : Option Network → List Cl → List Int
  | _, [] => []
  | st, c :: cs => (((stepC st c).2.length : Int) :: (stepC st c).2) ++ outC (stepC st c).1 cs
def stF (st : Option Network) (cs : List Cl) : Option Network := cs.foldl (fun s c => (stepC s c).1) st
theorem out_snoc : ∀ (cs : List Cl) (st : Option Network) (c : Cl), outC st (cs ++ [c]) = outC st cs ++ (((stepC (stF st cs) c).2.length : Int) :: (stepC (stF st cs) c).2)
  | [], st, c => by
    show (_ :: _) ++ [] = [] ++ _
    rw [List.append_nil, List.nil_append]
    rfl
  | d :: cs, st, c => by
    show _ ++ outC _ (cs ++ [c]) = _
    rw [out_snoc cs]
    show _ = (_ ++ outC _ cs) ++ _
    rw [List.append_assoc]
    rfl
theorem out_le : ∀ (cs : List Cl) (st : Option Network) (k : Nat), (outC st (cs.take k)).length ≤ (outC st cs).length
  | [], st, k => by rw [List.take_nil]; exact Nat.le_refl _
  | c :: cs, st, 0 => Nat.zero_le _
  | c :: cs, st, k + 1 => by
    show (_ ++ outC _ (cs.take k)).length ≤ (_ ++ outC _ cs).length
    rw [List.length_append, List.length_append]
    have := out_le cs (stepC st c).1 k
    omega
theorem take_c {cs : List Cl} {k : Nat} (h : k < cs.length) : cs.take (k + 1) = cs.take k ++ [cs.getD k (0, [])] := by
  rw [List.take_succ, List.getElem?_eq_getElem h, List.getD_eq_getElem?_getD, List.getElem?_eq_getElem h]
  rfl
theorem st_snoc (cs : List Cl) (st : Option Network) (c : Cl) : stF st (cs ++ [c]) = (stepC (stF st cs) c).1 := by
  unfold stF
  rw [List.foldl_append]
  rfl
section
variable {P : Program} {w : World} {K : PySem.W.Frag} {mg : Str → Option Value} {base : Heap}
abbrev gE (nv : V) (p : Addr) : Ctx := [none, some (rV nv), some (rV (.ref p)), none, none, none, none]
abbrev rsQ (K : PySem.W.Frag) (x : List Cl) : List Rp := [rSL K (x.flatMap flat)]
def okQ (x : List Cl) : Prop := WfC x ∧ (∀ c ∈ x, okq c) ∧ (outC none x).length ≤ 10000000
abbrev reQ (x : List Cl) : Rp := rLZ (outC none x)
theorem bd_answers (W : Wd P w K mg base) (cdv : Value) (A : Around) (outer : List Env) (s0 : Shared) (Hs : Hp) (E : XK) (cs : List Cl) (hc : okQ cs) (hr : Room 55 (xA P w K mg base cdv A outer s0 Hs E).A) : XSs (xA P w K mg base cdv A outer s0 Hs E) (defBody s_answers) [some (rSL K (cs.flatMap flat)), none, none, none, none, none, none] (.ret (reQ cs)) := by
  obtain ⟨wf, hq, hl⟩ : WfC cs ∧ (∀ c ∈ cs, okq c) ∧ (outC none cs).length ≤ 10000000 := hc
  let tb : TS := fun D σ H => ∃ c, okq c ∧ tBd c D σ H
  have hb : PSs (xA P w K mg base cdv A outer s0 Hs E) forBody tb := ⟨fun pins s σ H D I ⟨c, h1, h2⟩ => (ans_body W h1 hr).run pins s σ H D I h2⟩
  let Γ1 : Addr → Ctx := fun p => [some (rSL K (cs.flatMap flat)), some (rV .non), some (rV (.ref p)), none, none, none, none]
  let t3 : TS := fun D σ H => ∃ (p : Addr) (nv : V) (G : Hp), Ex G H ∧ En (gE nv p) σ G ∧ ∀ G' H', Gr G H G' H' → D.rt (.ref p) H'
  have h3 : ∀ {q1 q2 : Pos}, PSs (xA P w K mg base cdv A outer s0 Hs E) [.Return (some (.Name "found" q1)) q2] t3 := fun {q1 q2} => ⟨fun pins s σ H D I ⟨p, nv, G, ex, en, q⟩ => (pss_one (ps_ret (pos := q2) (x_var (pos := q1) (Γ := gE nv p) (R := rV (.ref p)) (i := 2)))).run pins s σ H D I ⟨G, ex, en, fun v G' H' g r => by
    have r : v = .ref p := r
    rw [r]
    exact q G' H' g⟩⟩
  let t2 : TS := fun D σ H => ∃ (p : Addr) (G : Hp), Ex G H ∧ En (Γ1 p) σ G ∧ G p = none ∧ H p = some (.lst []) ∧ ∀ H', (∀ b o, b ≠ p → H b = some o → H' b = some o) → H' p = some (.lst ((outC none cs).map V.int)) → D.rt (.ref p) H'
  have h2 : PSs (xA P w K mg base cdv A outer s0 Hs E) ((defBody s_answers).drop 2) t2 := ⟨fun pins s σ H D I ⟨p, G, ex, en, gp, hp, q⟩ => by
    have hsp : ∀ {q1 q2 q3 : Pos}, XE (xA P w K mg base cdv A outer s0 Hs E) (.Call (.Name "split_up" q1) [.Name "calls" q2] [] q3) (Γ1 p) (rL (cs.map (rCall K))) := fun {q1 q2 q3} => x_call (ok_split_up W) hr (by decide) cs (a_cons (R := rSL K (cs.flatMap flat)) (x_var (i := 0)) a_nil) rfl wf
    refine (pss_cons (ps_for (tb := tb) PassesOwn.never rfl (pi_list hsp) (g_two (i := 3) (j := 4) sc_answers.nd) hb (by intro _; rfl)) h3 : PSs (xA P w K mg base cdv A outer s0 Hs E) ((defBody s_answers).drop 2) _).run pins s σ H D I ?_
    refine ⟨G, ex, en, fun v G2 H2 g2 r2 => ?_⟩
    obtain ⟨b, us, e1, e2, e3⟩ := r2
    have G2p := wo_of ⟨_, hp⟩ gp g2
    have lu : us.length = cs.length := by rw [e3.len, List.length_map]
    refine ⟨b, e1, ⟨_, SqL.of (g2.sub _ _ e2)⟩, ?_⟩
    let H0 : Hp := Wout1 p H
    have k0 : Ex H0 H2 := np_sub.trans g2.kept
    refine for_it (walk_list (K := K) (a := b) (xs := us)) (fun k σ H => ∃ nv, Iv p G2 H0 (stF none (cs.take k)) (outC none (cs.take k)) nv H ∧ En (gE nv p) σ G2) ⟨.non, ⟨g2.sub, G2p, k0, np_self, g2.kept _ _ hp, rfl⟩, ?_⟩ (fun i σ H _ ⟨nv, iv, _⟩ => SqL.of (iv.fr _ _ e2)) ?_ ?_
    · exact le_drop (le_same (le_same (Le.refl _))) _ _ (en.up g2.old)
    · rintro k x σ2 Hc Hc' hlt ⟨nv, iv, en2⟩ ⟨z1, z2⟩
      subst z1
      have hk : k < cs.length := by omega
      obtain ⟨x', z3, z4⟩ := e3.get (i := k) (r := rCall K (cs.getD k (0, []))) (by rw [List.getElem?_map, List.getElem?_eq_getElem hk, List.getD_eq_getElem?_getD, List.getElem?_eq_getElem hk]; rfl)
      rw [z2] at z3
      have z3 := Option.some.inj z3
      subst z3
      obtain ⟨a, y, z, w1, w2, w3, w4⟩ := z4
      refine ⟨a, [y, z], w1, iv.fr.t w2, rfl, y, [z], rfl, z, [], rfl, rfl, ?_⟩
      have hle := out_le cs none (k + 1)
      rw [take_c hk, out_snoc, List.length_append] at hle
      refine ⟨cs.getD k (0, []), hq _ (getD_mem hk), p, G2, H0, _, _, nv, iv, ?_, ?_, fun σ3 H3 nv3 iv3 en3 => ⟨nv3, ?_, en3⟩⟩
      · exact (en2.set (i := 3) w3).set (i := 4) w4
      · have hle : (outC none (cs.take k)).length + ((stepC (stF none (cs.take k)) (cs.getD k (0, []))).2.length + 1) ≤ (outC none cs).length := hle
        omega
      · rw [take_c hk, out_snoc, st_snoc]
        exact iv3
    · rintro σ2 Hc ⟨nv, iv, en2⟩
      rw [lu, List.take_length] at iv
      refine ⟨p, nv, G2, iv.fr, en2, fun G' H' g' => q H' (fun x o hx hh => ?_) (g'.kept _ _ iv.fd)⟩
      refine g'.kept _ _ (iv.k0 x o ?_)
      show Wout1 p H x = some o
      unfold Wout1
      rw [if_neg hx]
      exact hh⟩
  refine PSs.of (pss_cons (s_set (Γ := [some (rSL K (cs.flatMap flat)), none, none, none, none, none, none]) (i := 1) (R := rV .non) sc_answers.nd x_non) (pss_cons (ps_set (i := 2) sc_answers.nd rfl (Or.inl rfl) (pe_lst pa_nil) rfl (.inr rfl)) h2) : PSs (xA P w K mg base cdv A outer s0 Hs E) (defBody s_answers) _) fun D σ H ⟨G, ex, en, q⟩ => ?_
  refine ⟨G, ex, en, fun σ1 G1 H1 g1 en1 => ⟨Nat.zero_le _, fun p hp => ?_⟩⟩
  have G1p := g1.sub.free hp
  refine ⟨p, G1, g1.sub.trans (Ex.new hp), en1.set (i := 2) (r := rV (.ref p)) rfl, G1p, upd_same, fun H' kp fd => ?_⟩
  have k1 : Ex H1 H' := fun x o hx => kp x o (ne_of_none hx hp) ((Ex.new hp) x o hx)
  have Gp : G p = none := g1.old.free G1p
  refine q (.ref p) (upd G1 p (.lst ((outC none cs).map V.int))) H' ⟨fun x o hx => ?_, g1.old.trans (Ex.new G1p), g1.kept.trans k1, fun x o hx => ?_⟩ ⟨p, _, rfl, upd_same, vals_all (f := fun (n : Int) => V.int n)⟩
  · by_cases e : x = p
    · subst e
      rw [upd_same] at hx
      rw [fd]
      exact hx
    · rw [upd_ne e] at hx
      exact k1 x o (g1.sub x o hx)
  · by_cases e : x = p
    · subst e
      exact .inr (g1.kept.free hp)
    · rw [upd_ne e] at hx
      exact g1.new x o hx
theorem ok_answers (W : Wd P w K mg base) {fd : FuncData} (F : Fun K "answers" "answers" s_answers a_answers fd) : FnOk P w K mg base CX0 56 a_answers fd p_answers (spG (rsQ K) okQ reQ) :=
  ok_mk (N := N_answers) (ps := p_answers) (k := 55) (Rs := rsQ K) (C := okQ) (R := reQ) F sc_answers (fun _ => rfl) (by decide) fun cdv A outer s0 Hs E cs hc hr => bd_answers W cdv A outer s0 Hs E cs hc hr
end
end OQ
/-! the list of numbers, its calls, and the document's answers -/
namespace OQ
open Lrx4 (Network)
def ofN (l : List Nat) : List Int := l.map fun (n : Nat) => (n : Int)
def raw (c : Cl) : List (List Int) := if c.1 = 23 then [[23], ofN c.2] else [(c.1 : Int) :: ofN c.2]
theorem toN (l : List Nat) : (ofN l).map Int.toNat = l := by
  unfold ofN
  rw [List.map_map]
  exact List.map_id'' (fun n => Int.toNat_natCast n) l
theorem whole_id (c : List (List Int)) : PyLrx4.whole c = c := by
  unfold PyLrx4.whole
  split <;> rfl
theorem ofN_len (l : List Nat) : (ofN l).length = l.length := List.length_map ..
theorem ofN_back {l : List Int} (h : ∀ x ∈ l, 0 ≤ x) : ofN (l.map Int.toNat) = l := by
  unfold ofN
  rw [List.map_map]
  refine (List.map_congr_left fun x hx => ?_).trans (List.map_id l)
  exact Int.toNat_of_nonneg (h x hx)
theorem shape_ok {p : Int} {n k : Nat} (h : PyLrx4.shape p = some (n, k)) : 0 ≤ p ∧ p ≤ 25 ∧ ((p = 23 ∧ n = 0 ∧ k = 1) ∨ (p ≠ 23 ∧ k = 0 ∧ n = szs.getD p.toNat 0)) := by
  unfold PyLrx4.shape at h
  by_cases e0 : p = 0
  · skip
    rw [if_pos e0] at h
    cases h
    subst e0
    exact ⟨by decide, by decide, by decide⟩
  by_cases e1 : p = 1
  · rw [if_neg e0] at h;
    rw [if_pos e1] at h
    cases h
    subst e1
    exact ⟨by decide, by decide, by decide⟩
  by_cases e2 : p = 2
  · rw [if_neg e0] at h; rw [if_neg e1] at h;
    rw [if_pos e2] at h
    cases h
    subst e2
    exact ⟨by decide, by decide, by decide⟩
  by_cases e3 : p = 3
  · rw [if_neg e0] at h; rw [if_neg e1] at h; rw [if_neg e2] at h;
    rw [if_pos e3] at h
    cases h
    subst e3
    exact ⟨by decide, by decide, by decide⟩
  by_cases e4 : p = 4
  · rw [if_neg e0] at h; rw [if_neg e1] at h; rw [if_neg e2] at h; rw [if_neg e3] at h;
    rw [if_pos e4] at h
    cases h
    subst e4
    exact ⟨by decide, by decide, by decide⟩
  by_cases e5 : p = 5
  · rw [if_neg e0] at h; rw [if_neg e1] at h; rw [if_neg e2] at h; rw [if_neg e3] at h; rw [if_neg e4] at h;
    rw [if_pos e5] at h
    cases h
    subst e5
    exact ⟨by decide, by decide, by decide⟩
  by_cases e6 : p = 6
  · rw [if_neg e0] at h; rw [if_neg e1] at h; rw [if_neg e2] at h; rw [if_neg e3] at h; rw [if_neg e4] at h; rw [if_neg e5] at h;
    rw [if_pos e6] at h
    cases h
    subst e6
    exact ⟨by decide, by decide, by decide⟩
  by_cases e7 : p = 7
  · rw [if_neg e0] at h; rw [if_neg e1] at h; rw [if_neg e2] at h; rw [if_neg e3] at h; rw [if_neg e4] at h; rw [if_neg e5] at h; rw [if_neg e6] at h;
    rw [if_pos e7] at h
    cases h
    subst e7
    exact ⟨by decide, by decide, by decide⟩
  by_cases e8 : p = 8
  · rw [if_neg e0] at h; rw [if_neg e1] at h; rw [if_neg e2] at h; rw [if_neg e3] at h; rw [if_neg e4] at h; rw [if_neg e5] at h; rw [if_neg e6] at h; rw [if_neg e7] at h;
    rw [if_pos e8] at h
    cases h
    subst e8
    exact ⟨by decide, by decide, by decide⟩
  by_cases e9 : p = 9
  · rw [if_neg e0] at h; rw [if_neg e1] at h; rw [if_neg e2] at h; rw [if_neg e3] at h; rw [if_neg e4] at h; rw [if_neg e5] at h; rw [if_neg e6] at h; rw [if_neg e7] at h; rw [if_neg e8] at h;
    rw [if_pos e9] at h
    cases h
    subst e9
    exact ⟨by decide, by decide, by decide⟩
  by_cases e10 : p = 10
  · rw [if_neg e0] at h; rw [if_neg e1] at h; rw [if_neg e2] at h; rw [if_neg e3] at h; rw [if_neg e4] at h; rw [if_neg e5] at h; rw [if_neg e6] at h; rw [if_neg e7] at h; rw [if_neg e8] at h; rw [if_neg e9] at h;
    rw [if_pos e10] at h
    cases h
    subst e10
    exact ⟨by decide, by decide, by decide⟩
  by_cases e11 : p = 11
  · rw [if_neg e0] at h; rw [if_neg e1] at h; rw [if_neg e2] at h; rw [if_neg e3] at h; rw [if_neg e4] at h; rw [if_neg e5] at h; rw [if_neg e6] at h; rw [if_neg e7] at h; rw [if_neg e8] at h; rw [if_neg e9] at h; rw [if_neg e10] at h;
    rw [if_pos e11] at h
    cases h
    subst e11
    exact ⟨by decide, by decide, by decide⟩
  by_cases e12 : p = 12
  · rw [if_neg e0] at h; rw [if_neg e1] at h; rw [if_neg e2] at h; rw [if_neg e3] at h; rw [if_neg e4] at h; rw [if_neg e5] at h; rw [if_neg e6] at h; rw [if_neg e7] at h; rw [if_neg e8] at h; rw [if_neg e9] at h; rw [if_neg e10] at h; rw [if_neg e11] at h;
    rw [if_pos e12] at h
    cases h
    subst e12
    exact ⟨by decide, by decide, by decide⟩
  by_cases e13 : p = 13
  · rw [if_neg e0] at h; rw [if_neg e1] at h; rw [if_neg e2] at h; rw [if_neg e3] at h; rw [if_neg e4] at h; rw [if_neg e5] at h; rw [if_neg e6] at h; rw [if_neg e7] at h; rw [if_neg e8] at h; rw [if_neg e9] at h; rw [if_neg e10] at h; rw [if_neg e11] at h; rw [if_neg e12] at h;
    rw [if_pos e13] at h
    cases h
    subst e13
    exact ⟨by decide, by decide, by decide⟩
  by_cases e14 : p = 14
  · rw [if_neg e0] at h; rw [if_neg e1] at h; rw [if_neg e2] at h; rw [if_neg e3] at h; rw [if_neg e4] at h; rw [if_neg e5] at h; rw [if_neg e6] at h; rw [if_neg e7] at h; rw [if_neg e8] at h; rw [if_neg e9] at h; rw [if_neg e10] at h; rw [if_neg e11] at h; rw [if_neg e12] at h; rw [if_neg e13] at h;
    rw [if_pos e14] at h
    cases h
    subst e14
    exact ⟨by decide, by decide, by decide⟩
  by_cases e15 : p = 15
  · rw [if_neg e0] at h; rw [if_neg e1] at h; rw [if_neg e2] at h; rw [if_neg e3] at h; rw [if_neg e4] at h; rw [if_neg e5] at h; rw [if_neg e6] at h; rw [if_neg e7] at h; rw [if_neg e8] at h; rw [if_neg e9] at h; rw [if_neg e10] at h; rw [if_neg e11] at h; rw [if_neg e12] at h; rw [if_neg e13] at h; rw [if_neg e14] at h;
    rw [if_pos e15] at h
    cases h
    subst e15
    exact ⟨by decide, by decide, by decide⟩
  by_cases e16 : p = 16
  · rw [if_neg e0] at h; rw [if_neg e1] at h; rw [if_neg e2] at h; rw [if_neg e3] at h; rw [if_neg e4] at h; rw [if_neg e5] at h; rw [if_neg e6] at h; rw [if_neg e7] at h; rw [if_neg e8] at h; rw [if_neg e9] at h; rw [if_neg e10] at h; rw [if_neg e11] at h; rw [if_neg e12] at h; rw [if_neg e13] at h; rw [if_neg e14] at h; rw [if_neg e15] at h;
    rw [if_pos e16] at h
    cases h
    subst e16
    exact ⟨by decide, by decide, by decide⟩
  by_cases e17 : p = 17
  · rw [if_neg e0] at h; rw [if_neg e1] at h; rw [if_neg e2] at h; rw [if_neg e3] at h; rw [if_neg e4] at h; rw [if_neg e5] at h; rw [if_neg e6] at h; rw [if_neg e7] at h; rw [if_neg e8] at h; rw [if_neg e9] at h; rw [if_neg e10] at h; rw [if_neg e11] at h; rw [if_neg e12] at h; rw [if_neg e13] at h; rw [if_neg e14] at h; rw [if_neg e15] at h; rw [if_neg e16] at h;
    rw [if_pos e17] at h
    cases h
    subst e17
    exact ⟨by decide, by decide, by decide⟩
  by_cases e18 : p = 18
  · rw [if_neg e0] at h; rw [if_neg e1] at h; rw [if_neg e2] at h; rw [if_neg e3] at h; rw [if_neg e4] at h; rw [if_neg e5] at h; rw [if_neg e6] at h; rw [if_neg e7] at h; rw [if_neg e8] at h; rw [if_neg e9] at h; rw [if_neg e10] at h; rw [if_neg e11] at h; rw [if_neg e12] at h; rw [if_neg e13] at h; rw [if_neg e14] at h; rw [if_neg e15] at h; rw [if_neg e16] at h; rw [if_neg e17] at h;
    rw [if_pos e18] at h
    cases h
    subst e18
    exact ⟨by decide, by decide, by decide⟩
  by_cases e19 : p = 19
  · rw [if_neg e0] at h; rw [if_neg e1] at h; rw [if_neg e2] at h; rw [if_neg e3] at h; rw [if_neg e4] at h; rw [if_neg e5] at h; rw [if_neg e6] at h; rw [if_neg e7] at h; rw [if_neg e8] at h; rw [if_neg e9] at h; rw [if_neg e10] at h; rw [if_neg e11] at h; rw [if_neg e12] at h; rw [if_neg e13] at h; rw [if_neg e14] at h; rw [if_neg e15] at h; rw [if_neg e16] at h; rw [if_neg e17] at h; rw [if_neg e18] at h;
    rw [if_pos e19] at h
    cases h
    subst e19
    exact ⟨by decide, by decide, by decide⟩
  by_cases e20 : p = 20
  · rw [if_neg e0] at h; rw [if_neg e1] at h; rw [if_neg e2] at h; rw [if_neg e3] at h; rw [if_neg e4] at h; rw [if_neg e5] at h; rw [if_neg e6] at h; rw [if_neg e7] at h; rw [if_neg e8] at h; rw [if_neg e9] at h; rw [if_neg e10] at h; rw [if_neg e11] at h; rw [if_neg e12] at h; rw [if_neg e13] at h; rw [if_neg e14] at h; rw [if_neg e15] at h; rw [if_neg e16] at h; rw [if_neg e17] at h; rw [if_neg e18] at h; rw [if_neg e19] at h;
    rw [if_pos e20] at h
    cases h
    subst e20
    exact ⟨by decide, by decide, by decide⟩
  by_cases e21 : p = 21
  · rw [if_neg e0] at h; rw [if_neg e1] at h; rw [if_neg e2] at h; rw [if_neg e3] at h; rw [if_neg e4] at h; rw [if_neg e5] at h; rw [if_neg e6] at h; rw [if_neg e7] at h; rw [if_neg e8] at h; rw [if_neg e9] at h; rw [if_neg e10] at h; rw [if_neg e11] at h; rw [if_neg e12] at h; rw [if_neg e13] at h; rw [if_neg e14] at h; rw [if_neg e15] at h; rw [if_neg e16] at h; rw [if_neg e17] at h; rw [if_neg e18] at h; rw [if_neg e19] at h; rw [if_neg e20] at h;
    rw [if_pos e21] at h
    cases h
    subst e21
    exact ⟨by decide, by decide, by decide⟩
  by_cases e22 : p = 22
  · rw [if_neg e0] at h; rw [if_neg e1] at h; rw [if_neg e2] at h; rw [if_neg e3] at h; rw [if_neg e4] at h; rw [if_neg e5] at h; rw [if_neg e6] at h; rw [if_neg e7] at h; rw [if_neg e8] at h; rw [if_neg e9] at h; rw [if_neg e10] at h; rw [if_neg e11] at h; rw [if_neg e12] at h; rw [if_neg e13] at h; rw [if_neg e14] at h; rw [if_neg e15] at h; rw [if_neg e16] at h; rw [if_neg e17] at h; rw [if_neg e18] at h; rw [if_neg e19] at h; rw [if_neg e20] at h; rw [if_neg e21] at h;
    rw [if_pos e22] at h
    cases h
    subst e22
    exact ⟨by decide, by decide, by decide⟩
  by_cases e23 : p = 23
  · rw [if_neg e0] at h; rw [if_neg e1] at h; rw [if_neg e2] at h; rw [if_neg e3] at h; rw [if_neg e4] at h; rw [if_neg e5] at h; rw [if_neg e6] at h; rw [if_neg e7] at h; rw [if_neg e8] at h; rw [if_neg e9] at h; rw [if_neg e10] at h; rw [if_neg e11] at h; rw [if_neg e12] at h; rw [if_neg e13] at h; rw [if_neg e14] at h; rw [if_neg e15] at h; rw [if_neg e16] at h; rw [if_neg e17] at h; rw [if_neg e18] at h; rw [if_neg e19] at h; rw [if_neg e20] at h; rw [if_neg e21] at h; rw [if_neg e22] at h;
    rw [if_pos e23] at h
    cases h
    subst e23
    exact ⟨by decide, by decide, by decide⟩
  by_cases e24 : p = 24
  · rw [if_neg e0] at h; rw [if_neg e1] at h; rw [if_neg e2] at h; rw [if_neg e3] at h; rw [if_neg e4] at h; rw [if_neg e5] at h; rw [if_neg e6] at h; rw [if_neg e7] at h; rw [if_neg e8] at h; rw [if_neg e9] at h; rw [if_neg e10] at h; rw [if_neg e11] at h; rw [if_neg e12] at h; rw [if_neg e13] at h; rw [if_neg e14] at h; rw [if_neg e15] at h; rw [if_neg e16] at h; rw [if_neg e17] at h; rw [if_neg e18] at h; rw [if_neg e19] at h; rw [if_neg e20] at h; rw [if_neg e21] at h; rw [if_neg e22] at h; rw [if_neg e23] at h;
    rw [if_pos e24] at h
    cases h
    subst e24
    exact ⟨by decide, by decide, by decide⟩
  by_cases e25 : p = 25
  · rw [if_neg e0] at h; rw [if_neg e1] at h; rw [if_neg e2] at h; rw [if_neg e3] at h; rw [if_neg e4] at h; rw [if_neg e5] at h; rw [if_neg e6] at h; rw [if_neg e7] at h; rw [if_neg e8] at h; rw [if_neg e9] at h; rw [if_neg e10] at h; rw [if_neg e11] at h; rw [if_neg e12] at h; rw [if_neg e13] at h; rw [if_neg e14] at h; rw [if_neg e15] at h; rw [if_neg e16] at h; rw [if_neg e17] at h; rw [if_neg e18] at h; rw [if_neg e19] at h; rw [if_neg e20] at h; rw [if_neg e21] at h; rw [if_neg e22] at h; rw [if_neg e23] at h; rw [if_neg e24] at h;
    rw [if_pos e25] at h
    cases h
    subst e25
    exact ⟨by decide, by decide, by decide⟩
  rw [if_neg e0, if_neg e1, if_neg e2, if_neg e3, if_neg e4, if_neg e5, if_neg e6, if_neg e7, if_neg e8, if_neg e9, if_neg e10, if_neg e11, if_neg e12, if_neg e13, if_neg e14, if_neg e15, if_neg e16, if_neg e17, if_neg e18, if_neg e19, if_neg e20, if_neg e21, if_neg e22, if_neg e23, if_neg e24, if_neg e25] at h
  cases h
theorem lenN : ∀ (n : Nat) (l : List Nat), l.length = n → (n = 0 → l = []) ∧ (n = 2 → ∃ a b, l = [a, b]) ∧ (n = 3 → ∃ a b c, l = [a, b, c]) ∧ (n = 4 → ∃ a b c d, l = [a, b, c, d]) ∧ (n = 5 → ∃ a b c d e, l = [a, b, c, d, e]) := fun n l h => by
  refine ⟨fun e => ?_, fun e => ?_, fun e => ?_, fun e => ?_, fun e => ?_⟩ <;> subst e
  · exact List.length_eq_zero_iff.mp h
  · exact len2 h
  · exact len3 h
  · exact len4 h
  · exact len5 h
theorem call_of {c : Cl} (h : okc c) (h0 : c.1 ≠ 0) : Lrx4Neutral.callOf (raw c) = some (opC c.1 c.2) := by
  obtain ⟨n, a⟩ := c
  obtain ⟨h1, h2⟩ := h
  have h1 : n ≤ 25 := h1
  have h2 : n ≠ 23 → a.length = szs.getD n 0 := h2
  have h0 : n ≠ 0 := h0
  by_cases e23 : n = 23
  · subst e23
    show Lrx4Neutral.callOf [[23], ofN a] = some (.stateProbability a)
    show some (Lrx4.Call.stateProbability ((ofN a).map Int.toNat)) = _
    rw [toN]
  · have h2 := h2 e23
    have L := lenN _ a h2
    have cs : n = 1 ∨ n = 2 ∨ n = 3 ∨ n = 4 ∨ n = 5 ∨ n = 6 ∨ n = 7 ∨ n = 8 ∨ n = 9 ∨ n = 10 ∨ n = 11 ∨ n = 12 ∨ n = 13 ∨ n = 14 ∨ n = 15 ∨ n = 16 ∨ n = 17 ∨ n = 18 ∨ n = 19 ∨ n = 20 ∨ n = 21 ∨ n = 22 ∨ n = 24 ∨ n = 25 := by omega
    rcases cs with e | e | e | e | e | e | e | e | e | e | e | e | e | e | e | e | e | e | e | e | e | e | e | e <;> subst e
    · obtain ⟨x0, x1, x2, rfl⟩ := L.2.2.1 rfl; rfl
    · obtain ⟨x0, x1, x2, rfl⟩ := L.2.2.1 rfl; rfl
    · obtain ⟨x0, x1, x2, rfl⟩ := L.2.2.1 rfl; rfl
    · obtain ⟨x0, x1, x2, x3, x4, rfl⟩ := L.2.2.2.2 rfl; rfl
    · obtain ⟨x0, x1, x2, rfl⟩ := L.2.2.1 rfl; rfl
    · obtain ⟨x0, x1, rfl⟩ := L.2.1 rfl; rfl
    · obtain ⟨x0, x1, rfl⟩ := L.2.1 rfl; rfl
    · obtain ⟨x0, x1, x2, x3, rfl⟩ := L.2.2.2.1 rfl; rfl
    · obtain ⟨x0, x1, rfl⟩ := L.2.1 rfl; rfl
    · rw [L.1 rfl]; rfl
    · rw [L.1 rfl]; rfl
    · obtain ⟨x0, x1, rfl⟩ := L.2.1 rfl; rfl
    · rw [L.1 rfl]; rfl
    · rw [L.1 rfl]; rfl
    · rw [L.1 rfl]; rfl
    · rw [L.1 rfl]; rfl
    · obtain ⟨x0, x1, rfl⟩ := L.2.1 rfl; rfl
    · obtain ⟨x0, x1, rfl⟩ := L.2.1 rfl; rfl
    · obtain ⟨x0, x1, rfl⟩ := L.2.1 rfl; rfl
    · rw [L.1 rfl]; rfl
    · rw [L.1 rfl]; rfl
    · obtain ⟨x0, x1, rfl⟩ := L.2.1 rfl; rfl
    · rw [L.1 rfl]; rfl
    · rw [L.1 rfl]; rfl
theorem one_st {c : Prop} {d : Decidable c} {a b : Lrx4.State × Lrx4.Result} (ha : ∃ m, a.1 = some m) (hb : ∃ m, b.1 = some m) : ∃ m, (@ite _ c d a b).1 = some m := by
  by_cases h : c
  · rw [if_pos h]; exact ha
  · rw [if_neg h]; exact hb
theorem some_st (n : Nat) (a : List Nat) (net : Network) : (Lrx4.step (some net) (opC n a)).1 = some (stN (opC n a) net) := by
  have : ∃ m, (Lrx4.step (some net) (opC n a)).1 = some m := by
    unfold opC
    split
    · unfold chgC
      split
      · exact one_st ⟨_, rfl⟩ (one_st ⟨_, rfl⟩ ⟨_, rfl⟩)
      · exact one_st ⟨_, rfl⟩ (one_st ⟨_, rfl⟩ ⟨_, rfl⟩)
      · exact one_st ⟨_, rfl⟩ (one_st ⟨_, rfl⟩ ⟨_, rfl⟩)
      · exact one_st ⟨_, rfl⟩ (one_st ⟨_, rfl⟩ ⟨_, rfl⟩)
      · exact one_st ⟨_, rfl⟩ (one_st ⟨_, rfl⟩ ⟨_, rfl⟩)
      · exact one_st ⟨_, rfl⟩ ⟨_, rfl⟩
      · exact one_st ⟨_, rfl⟩ (one_st ⟨_, rfl⟩ ⟨_, rfl⟩)
    · refine ⟨net, ?_⟩
      unfold askC
      split <;> rfl
  obtain ⟨m, e⟩ := this
  unfold stN
  rw [e]
  rfl
theorem none_st (n : Nat) (a : List Nat) : Lrx4.step none (opC n a) = (none, Lrx4.error (-11)) := by
  unfold opC
  split
  · unfold chgC
    split <;> rfl
  · unfold askC
    split <;> rfl
theorem step_raw {c : Cl} (h : okc c) (st : Option Network) : Lrx4Neutral.step st (raw c) = stepC st c := by
  by_cases h0 : c.1 = 0
  · obtain ⟨n, a⟩ := c
    have h0 : n = 0 := h0
    subst h0
    obtain ⟨x, y, e⟩ := len2 (h.2 (show (0 : Nat) ≠ 23 by decide) : a.length = 2)
    subst e
    show (let r := Lrx4.step st (.create x y); (r.1, r.2.num :: r.2.nums)) = (if okSG x y then (some (netNew x y), [0]) else (st, [-22]))
    have hb : (x = 0 ∨ 5 < x ∨ y = 0 ∨ 3 < y) ↔ okSG x y = false := by
      unfold okSG
      rw [Bool.and_eq_false_iff, Bool.and_eq_false_iff, Bool.and_eq_false_iff, decide_eq_false_iff_not, decide_eq_false_iff_not, decide_eq_false_iff_not, decide_eq_false_iff_not]
      omega
    have hs : Lrx4.step st (.create x y) = if x = 0 ∨ 5 < x ∨ y = 0 ∨ 3 < y then (st, Lrx4.error (-22)) else (some (netNew x y), Lrx4.number 0) := rfl
    rw [hs]
    cases hk : okSG x y with
    | false =>
      rw [if_pos (hb.mpr hk)]
      rfl
    | true =>
      rw [if_neg (fun z => by rw [hb.mp z] at hk; cases hk)]
      rfl
  · have e := call_of h h0
    unfold Lrx4Neutral.step stepC
    rw [e, if_neg h0]
    cases st with
    | none =>
      show ((Lrx4.step none (opC c.1 c.2)).1, (Lrx4.step none (opC c.1 c.2)).2.num :: (Lrx4.step none (opC c.1 c.2)).2.nums) = _
      rw [none_st]
      rfl
    | some net =>
      show ((Lrx4.step (some net) (opC c.1 c.2)).1, res (opC c.1 c.2) net) = _
      rw [some_st]
theorem told_out : ∀ (cs : List Cl) (st : Option Network), (∀ c ∈ cs, okc c) → PyFlat.told (PyFlat.played Lrx4Neutral.step st (cs.map raw)) = outC st cs
  | [], _, _ => rfl
  | c :: cs, st, h => by
    show PyFlat.told ((Lrx4Neutral.step st (raw c)).2 :: PyFlat.played Lrx4Neutral.step (Lrx4Neutral.step st (raw c)).1 (cs.map raw)) = _
    rw [step_raw (h c List.mem_cons_self)]
    show (_ :: _) ++ PyFlat.told (PyFlat.played Lrx4Neutral.step (stepC st c).1 (cs.map raw)) = _
    rw [told_out cs _ fun x hx => h x (List.mem_cons_of_mem _ hx)]
    rfl
theorem parse : ∀ (f : Nat) (l : List Int) (cs : List (List (List Int))), (∀ x ∈ l, 0 ≤ x) → PyFlat.calls PyLrx4.shape f l = some cs → ∃ cl : List Cl, l = ofN (cl.flatMap flat) ∧ (∀ c ∈ cl, okc c) ∧ cs = cl.map raw
  | f, [], cs, _, h => by
    have h : some [] = some cs := by
      cases f <;> exact h
    cases h
    exact ⟨[], rfl, fun c hc => by simp at hc, rfl⟩
  | 0, p :: r, cs, _, h => by cases h
  | f + 1, p :: r, cs, hn, h => by
    have hr : ∀ x ∈ r, 0 ≤ x := fun x hx => hn x (List.mem_cons_of_mem _ hx)
    unfold PyFlat.calls PyFlat.call at h
    dsimp only at h
    cases hs : PyLrx4.shape p with
    | none =>
      rw [hs] at h
      cases h
    | some nk =>
      obtain ⟨n, k⟩ := nk
      obtain ⟨p0, p25, hp⟩ := shape_ok hs
      rw [hs] at h
      dsimp only at h
      by_cases hl : r.length < n
      · rw [if_pos hl] at h
        cases h
      · rw [if_neg hl] at h
        rcases hp with ⟨rfl, rfl, rfl⟩ | ⟨h23, rfl, en⟩
        · cases r with
          | nil => cases h
          | cons m r =>
            unfold PyFlat.rows PyFlat.row at h
            dsimp only [List.drop] at h
            by_cases hm : 0 ≤ m ∧ m.toNat ≤ r.length
            · rw [if_pos hm] at h
              dsimp only [PyFlat.rows] at h
              cases hc : PyFlat.calls PyLrx4.shape f (r.drop m.toNat) with
              | none =>
                rw [hc] at h
                cases h
              | some cs' =>
                rw [hc] at h
                have h := Option.some.inj h
                have hr2 : ∀ x ∈ r, 0 ≤ x := fun x hx => hr x (List.mem_cons_of_mem _ hx)
                obtain ⟨cl, e1, e2, e3⟩ := parse f _ cs' (fun x hx => hr2 x (List.mem_of_mem_drop hx)) hc
                have et : ofN ((r.take m.toNat).map Int.toNat) = r.take m.toNat := ofN_back fun x hx => hr2 x (List.mem_of_mem_take hx)
                have ln : ((r.take m.toNat).map Int.toNat).length = m.toNat := by
                  rw [List.length_map, List.length_take]
                  omega
                refine ⟨(23, (r.take m.toNat).map Int.toNat) :: cl, ?_, fun c hc => ?_, ?_⟩
                · rw [List.flatMap_cons]
                  unfold ofN
                  rw [List.map_append]
                  show 23 :: m :: r = (23 :: (((r.take m.toNat).map Int.toNat).length : Int) :: ofN ((r.take m.toNat).map Int.toNat)) ++ ofN (cl.flatMap flat)
                  rw [et, ← e1, ln, Int.toNat_of_nonneg hm.1]
                  show _ = 23 :: m :: (r.take m.toNat ++ r.drop m.toNat)
                  rw [List.take_append_drop]
                · rcases List.mem_cons.mp hc with z | z
                  · rw [z]
                    exact ⟨by show 23 ≤ 25; decide, fun y => absurd rfl y⟩
                  · exact e2 c z
                · rw [← h, e3, List.map_cons]
                  show _ = [[23], ofN ((r.take m.toNat).map Int.toNat)] :: _
                  rw [et]
                  rfl
            · rw [if_neg hm] at h
              cases h
        · unfold PyFlat.rows at h
          dsimp only at h
          cases hc : PyFlat.calls PyLrx4.shape f (r.drop n) with
          | none =>
            rw [hc] at h
            cases h
          | some cs' =>
            rw [hc] at h
            have h := Option.some.inj h
            obtain ⟨cl, e1, e2, e3⟩ := parse f _ cs' (fun x hx => hr x (List.mem_of_mem_drop hx)) hc
            have et : ofN ((r.take n).map Int.toNat) = r.take n := ofN_back fun x hx => hr x (List.mem_of_mem_take hx)
            have ep : ((p.toNat : Nat) : Int) = p := Int.toNat_of_nonneg p0
            have n23 : p.toNat ≠ 23 := by omega
            have ef : flat (p.toNat, (r.take n).map Int.toNat) = p.toNat :: (r.take n).map Int.toNat := if_neg n23
            have er : raw (p.toNat, (r.take n).map Int.toNat) = [((p.toNat : Nat) : Int) :: ofN ((r.take n).map Int.toNat)] := if_neg n23
            refine ⟨(p.toNat, (r.take n).map Int.toNat) :: cl, ?_, fun c hc => ?_, ?_⟩
            · rw [List.flatMap_cons, ef]
              unfold ofN
              rw [List.map_append]
              show p :: r = (((p.toNat : Nat) : Int) :: ofN ((r.take n).map Int.toNat)) ++ ofN (cl.flatMap flat)
              rw [et, ep, ← e1]
              show _ = p :: (r.take n ++ r.drop n)
              rw [List.take_append_drop]
            · rcases List.mem_cons.mp hc with z | z
              · rw [z]
                refine ⟨by show p.toNat ≤ 25; omega, fun _ => ?_⟩
                show ((r.take n).map Int.toNat).length = szs.getD p.toNat 0
                rw [List.length_map, List.length_take, ← en]
                omega
              · exact e2 c z
            · rw [← h, e3, List.map_cons, er, et, ep]
theorem mem_flat {cs : List Cl} {c : Cl} (h : c ∈ cs) : c.2.length ≤ (cs.flatMap flat).length := by
  induction cs with
  | nil => simp at h
  | cons d cs ih =>
    rw [List.flatMap_cons, List.length_append]
    rcases List.mem_cons.mp h with z | z
    · have : c.2.length ≤ (flat c).length := by
        unfold flat
        split <;> simp
        omega
      rw [← z]
      omega
    · have := ih z
      omega
/-- the plain law: what is asked of a list, and what it is answered -/
theorem plain {l : List Int} (hl : l.length ≤ 600) (h0 : ∀ x ∈ l, 0 ≤ x) (ha : PyLrx4.answers_asked l = true) : ∃ cs : List Cl, l = ofN (cs.flatMap flat) ∧ WfC cs ∧ (∀ c ∈ cs, okq c) ∧ (outC none cs).length ≤ 10000000 ∧ outC none cs = PyLrx4.answers l := by
  unfold PyLrx4.answers_asked at ha
  cases hc : PyFlat.calls PyLrx4.shape l.length l with
  | none =>
    rw [hc] at ha
    cases ha
  | some rw' =>
    rw [hc] at ha
    dsimp only at ha
    rw [Bool.and_eq_true] at ha
    have hs : (PyLrx4.answers l).length ≤ 10000000 := of_decide_eq_true ha.2
    obtain ⟨cs, e1, e2, e3⟩ := parse _ l rw' h0 hc
    have ea : PyLrx4.answers l = outC none cs := by
      unfold PyLrx4.answers PyLrx4.calls
      rw [hc]
      dsimp only
      have e4 : rw'.map PyLrx4.whole = cs.map raw := by
        rw [e3]
        exact (List.map_congr_left fun c _ => whole_id c).trans (List.map_id _)
      rw [e4]
      exact told_out cs none e2
    have ll : (cs.flatMap flat).length = l.length := by
      have := congrArg List.length e1
      rw [ofN_len] at this
      exact this.symm
    refine ⟨cs, e1, ⟨e2, by omega⟩, fun c hc => ⟨e2 c hc, ?_⟩, by rw [← ea]; exact hs, ea.symm⟩
    have := mem_flat hc
    omega
end OQ
/-! the row -/
namespace OQ
open PySem PySem.Spec PyProof.Rows L2
abbrev RQ : PySem.W.OpenSpec := PySem.Challenge.rw_openqueues_s01_answers
abbrev vQ : Program := PySem.W.view RQ.prog [pkA]
theorem dw_nats {K : PySem.W.Frag} {H : Hp} : ∀ (l : List Nat) {xs : List V}, DwAll K H xs ((ofN l).map PySem.W.WData.int) → xs = zl l
  | [], [], _ => rfl
  | n :: l, x :: xs, h => by
    cases h with
    | cons h1 h2 =>
      cases h1
      rw [dw_nats l h2]
      rfl
  | [], _ :: _, h => by cases h
  | _ :: _, [], h => by cases h
theorem ints_dw {K : PySem.W.Frag} {H : Hp} : ∀ (l : List Int), DwAll K H (l.map V.int) (l.map PySem.W.WData.int)
  | [] => .nil
  | i :: l => .cons (.int i) (ints_dw l)
theorem tree_none : RQ.prog.given.tree = none := by rfl
theorem no_imports : importsNone vQ = true := by decide +kernel
theorem here (w : World) {K : PySem.W.Frag} {mg : Str → Option Value} {h : Heap} (c : obx K = vax) (KX : K.In h) (G : h.Ns mainGlobals mg) (N : h.NoSeer) {fd : FuncData} (F : Fun K "answers" "answers" s_answers a_answers fd) (base : Heap) (i' : K.In base) (G' : base.Ns mainGlobals mg) :
    FnOk RQ.prog w K mg base CX0 56 a_answers fd p_answers (spG (rsQ K) okQ reQ) :=
  ok_answers ⟨tx_of KX G c, seer_of c KX i' N G G', tree_none⟩ F
theorem walk_here {loose : List Str} {XP : (Str → Option Value) → Heap → Prop} {d : DefRec} (hn : d.name = "answers") : PySem.W.WalkOS vQ loose XP hk.says RQ d [] (fun f vs => PySem.call f vs) := by
  intro w s0 s1 mg mb G Y fa o pm cd doc dV kV ho hd hcd hD hmg hg args vals as hpre hlay hrd hwl hlo
  obtain ⟨a, e1, e2⟩ := PySem.W.os_pre_some hpre
  obtain ⟨e3, hwi⟩ := PySem.W.Codec.encAll_of_decAll RQ.args args a e1
  subst e3
  obtain ⟨K, KX, c⟩ := Y
  have T := tx_of KX G.T.g c
  have N := G.T.seer no_imports
  obtain ⟨fd, F⟩ := T.fn ⟨a_answers, "answers", "answers", s_answers⟩ (List.mem_of_getElem? (i := 98) rfl)
  have efa : fa = a_answers := by
    rw [hn, T.refs "answers" a_answers (by decide +kernel)] at hmg
    cases hmg
    rfl
  subst efa
  obtain ⟨l, u⟩ := a
  have inl : (decide (0 ≤ l.length) && decide (l.length ≤ 600) && l.all (fun z => decide ((0 : Int) ≤ z) && decide (z ≤ 4294967295))) = true := (Bool.and_eq_true _ _ |>.mp hwi).1
  have i2 := Bool.and_eq_true _ _ |>.mp inl
  have i3 := Bool.and_eq_true _ _ |>.mp i2.1
  have l600 : l.length ≤ 600 := of_decide_eq_true i3.2
  have l0 : ∀ x ∈ l, 0 ≤ x := fun x hx => of_decide_eq_true (Bool.and_eq_true _ _ |>.mp (List.all_eq_true.mp i2.2 x hx)).1
  have ask : PyLrx4.answers_asked l = true := e2
  obtain ⟨cs, p1, p2, p3, p4, p5⟩ := plain l600 l0 ask
  have hbind : ∀ (s : Shared) (us : List Value), us.length = p_answers.length → BindsTo s fd ⟨us, []⟩ (p_answers.zip us) := fun s us hl => by
    obtain ⟨oc, od, kV, doc, pm, an, cdv, ct, osl, rfl, lk, hcd⟩ := F.ex
    match us, hl with
    | [v], _ => exact .of_eq rfl
  refine PySem.W.enter_call (codeAny_mono (spec_call (R := []) (cl := classAt s0.heap) (d0 := RQ.ret.enc (PySem.W.Codec.app RQ.args RQ.f (l, u))) KX G.T.g G.T.b G.T.builtins G.T.nolimit hg hwl (pl_encAll _ _) (layable_weight hlay) ⟨rfl, by decide, by decide⟩
    (here w c KX G.T.g N F) hbind rfl (fun H xs hO hS => ?_) fun H e s' z => z) fun r' s' hq => ?_)
  · have hS : DwAll K H xs [PySem.W.WData.list (l.map PySem.W.WData.int)] := hS
    show spG (rsQ K) okQ reQ xs H _ _
    cases hS with
    | cons h1 h2 =>
      cases h2
      cases h1 with
      | lst hq hd =>
        rw [p1] at hd
        have ex := dw_nats _ hd
        subst ex
        refine ⟨cs, H, Ex.refl _, ⟨⟨_, rfl, hq⟩, trivial⟩, ⟨p2, p3, p4⟩, fun v G' H' g r => ?_⟩
        obtain ⟨b, us, q1, q2, q3⟩ := r
        have q4 := ints_vs q3
        subst q1 q4
        have e : RQ.ret.enc (PySem.W.Codec.app RQ.args RQ.f (l, u)) = PySem.W.WData.list ((PyLrx4.answers l).map PySem.W.WData.int) := rfl
        rw [e, ← p5]
        exact .lst (SqL.of (g.sub _ _ q2)) (ints_dw _)
  · obtain ⟨v', as', rfl, h1, h2, h3, h4⟩ := hq
    exact ⟨.inl ⟨v', _, as', rfl, fun _ => rfl, h1, (PySem.W.OpenSpec.post_iff (by decide +kernel) hwi _ _).mpr rfl, fun z => by cases z⟩, h2, h3, h4⟩
end OQ
open PySem PySem.W PySem.Calls PyProof.Rows
theorem PySem.Challenge.cw_openqueues_s01_answers_holds : PySem.Challenge.rw_openqueues_s01_answers.Holds := by
  w_on
  refine HeadRun.head_spec (r := PySem.Challenge.rw_openqueues_s01_answers) (q := OQ.vQ) (H := OQ.hk) (ob := OQ.ob) (M := 8000) (loose := OQ.nms) (kwd := []) OQ.ob_eq (by kernel_rfl) (fun s => by kernel_rfl) OQ.run (by rfl) (by rfl) (by rfl) os_shapes (by first | assumption | decide +kernel) (by decide +kernel) ⟨rfl, rfl, rfl, rfl, rfl, by decide +kernel⟩ ?hw ?hc
  case hw => exact ⟨[.list [.int 10]], by decide +kernel, by decide +kernel⟩
  case hc => exact OQ.walk_here rfl
