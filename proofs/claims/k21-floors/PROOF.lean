import PyProof.Rows.All
import Flt.RightSqrt
import Wide.All
import OpenK.AllK
import Wide.FinOn
import HandS.ForMost
import HandS.Zip
import HandS.Gcd
import HandS.RaiseMore
import HandS.Evl
import HandS.TupAny
import HandS.Style
import KE.GoesNew
import KE.GoesMore
import KE.KMathG
import HandS.SortKw
import KE.KEqSeq
import PySem.Challenge.RW_nonearer_k21_whole_floors_and_ceilings
set_option Elab.async false
set_option linter.all false
set_option maxRecDepth 100000
/-! KMath: distances of lists of integers, floors and ceilings of regions; no program here. -/
namespace K21
/-! ### kinds, parts, distances -/
inductive Kd | sq | su | mo | un deriving DecidableEq
def Kd.isSq : Kd → Bool | .sq => true | _ => false
def Kd.isUn : Kd → Bool | .un => true | _ => false
def Kd.isMo : Kd → Bool | .mo => true | _ => false
def absI (i : Int) : Int := if i < 0 then -i else i
def partOf (k : Kd) (d : Int) : Int := if k.isSq = true then d * d else if k.isUn = true then (if d ≠ 0 then 1 else 0) else absI d
def comb (k : Kd) (a b : Int) : Int := if k.isMo = true then (if b > a then b else a) else a + b
def joined (k : Kd) : List Int → Int
  | [] => 0
  | a :: l => comb k a (joined k l)
def diffs (xs ys : List Int) : List Int := List.zipWith (fun a b => a - b) xs ys
def dist (k : Kd) (xs ys : List Int) : Int := joined k ((diffs xs ys).map (partOf k))

theorem sq_nn (x : Int) : 0 ≤ x * x := by
  rcases Int.le_total 0 x with h | h
  · exact Int.mul_nonneg h h
  · exact Int.mul_nonneg_of_nonpos_of_nonpos h h
theorem part_nn (k : Kd) (d : Int) : 0 ≤ partOf k d := by
  cases k <;> simp only [partOf, Kd.isSq, Kd.isUn, absI, if_true, if_false, Bool.false_eq_true] <;> first | exact sq_nn d | (split <;> omega)
theorem comb_nn (k : Kd) {a b : Int} (ha : 0 ≤ a) (hb : 0 ≤ b) : 0 ≤ comb k a b := by
  unfold comb
  split
  · split <;> omega
  · omega
theorem comb_mono (k : Kd) {a b c d : Int} (h1 : a ≤ c) (h2 : b ≤ d) : comb k a b ≤ comb k c d := by
  unfold comb
  split
  · split <;> split <;> omega
  · omega
theorem joined_nn (k : Kd) : ∀ l : List Int, (∀ x ∈ l, 0 ≤ x) → 0 ≤ joined k l
  | [], _ => Int.le_refl _
  | a :: l, h => comb_nn k (h a List.mem_cons_self) (joined_nn k l fun x hx => h x (List.mem_cons_of_mem _ hx))
theorem parts_nn (k : Kd) (ds : List Int) : ∀ x ∈ ds.map (partOf k), 0 ≤ x := fun x hx => by
  obtain ⟨d, _, rfl⟩ := List.mem_map.mp hx
  exact part_nn k d
theorem dist_nn (k : Kd) (xs ys : List Int) : 0 ≤ dist k xs ys := joined_nn k _ (parts_nn k _)
theorem dist_nil (k : Kd) (ys : List Int) : dist k [] ys = 0 := rfl
theorem dist_cons (k : Kd) (x y : Int) (xs ys : List Int) : dist k (x :: xs) (y :: ys) = comb k (partOf k (x - y)) (dist k xs ys) := rfl
theorem part_neg (k : Kd) (d : Int) : partOf k (-d) = partOf k d := by
  cases k <;> simp only [partOf, Kd.isSq, Kd.isUn, absI, if_true, if_false, Bool.false_eq_true]
  · exact Int.neg_mul_neg d d
  · split <;> split <;> omega
  · split <;> split <;> omega
  · split <;> split <;> omega
theorem part_sub (k : Kd) (a b : Int) : partOf k (a - b) = partOf k (b - a) := by
  rw [← part_neg k (b - a)]
  congr 1
  omega
theorem dist_comm (k : Kd) : ∀ xs ys : List Int, dist k xs ys = dist k ys xs
  | [], [] => rfl
  | [], _ :: _ => rfl
  | _ :: _, [] => rfl
  | x :: xs, y :: ys => by rw [dist_cons, dist_cons, part_sub, dist_comm k xs ys]
theorem dist_self (k : Kd) : ∀ xs : List Int, dist k xs xs = 0
  | [] => rfl
  | x :: xs => by
    rw [dist_cons, dist_self k xs, Int.sub_self]
    cases k <;> rfl
/-- joined of nonnegative numbers is sum, or the greatest -/
theorem joined_sum {k : Kd} (h : k.isMo = false) : ∀ l : List Int, joined k l = l.sum
  | [] => rfl
  | a :: l => by
    rw [List.sum_cons, ← joined_sum h l]
    show comb k a (joined k l) = _
    unfold comb
    rw [if_neg (by rw [h]; exact Bool.false_ne_true)]
theorem joined_ge : ∀ (l : List Int) (x : Int), x ∈ l → x ≤ joined .mo l
  | a :: l, x, h => by
    show x ≤ comb .mo a (joined .mo l)
    have e : comb .mo a (joined .mo l) = if joined .mo l > a then joined .mo l else a := rfl
    rw [e]
    rcases List.mem_cons.mp h with rfl | h
    · split <;> omega
    · have := joined_ge l x h
      split <;> omega
theorem joined_mem : ∀ (l : List Int), (∀ x ∈ l, 0 ≤ x) → l ≠ [] → joined .mo l ∈ l
  | [], _, h => absurd rfl h
  | a :: l, h, _ => by
    have e : joined .mo (a :: l) = if joined .mo l > a then joined .mo l else a := rfl
    rw [e]
    split
    · rename_i hg
      have ha := h a List.mem_cons_self
      have hne : l ≠ [] := fun z => by
        rw [z] at hg
        have : joined .mo [] = 0 := rfl
        omega
      exact List.mem_cons_of_mem _ (joined_mem l (fun x hx => h x (List.mem_cons_of_mem _ hx)) hne)
    · exact List.mem_cons_self
theorem joined_max {l : List Int} {m : Int} (h0 : ∀ x ∈ l, 0 ≤ x) (hm : m ∈ l) (hu : ∀ y ∈ l, y ≤ m) : joined .mo l = m := by
  have h1 := joined_ge l m hm
  have h2 := hu _ (joined_mem l h0 (fun z => by rw [z] at hm; cases hm))
  omega

/-! ### the root -/
def IsRt (n r : Int) : Prop := 0 ≤ r ∧ r * r ≤ n ∧ n < (r + 1) * (r + 1)
def rt (n : Int) : Int := ((PySem.Float64.isqrt n.toNat : Nat) : Int)
theorem rt_is {n : Int} (h : 0 ≤ n) : IsRt n (rt n) := by
  obtain ⟨h1, h2⟩ := PySem.Float64.isqrt_spec n.toNat
  have e : ((n.toNat : Nat) : Int) = n := Int.toNat_of_nonneg h
  refine ⟨Int.natCast_nonneg _, ?_, ?_⟩
  · have := Int.ofNat_le.mpr h1
    rw [Int.natCast_mul, e] at this
    exact this
  · have := Int.ofNat_lt.mpr h2
    rw [Int.natCast_mul, Int.natCast_add, e] at this
    exact this
theorem sq_lt {a b : Int} (h0 : 0 ≤ a) (h : a < b) : a * a < b * b := by
  have h1 : a * a ≤ a * b := Int.mul_le_mul_of_nonneg_left (Int.le_of_lt h) h0
  have h2 : a * b < b * b := Int.mul_lt_mul_of_pos_right h (by omega)
  omega
theorem sq_le {a b : Int} (h0 : 0 ≤ a) (h : a ≤ b) : a * a ≤ b * b := Int.mul_le_mul h h h0 (Int.le_trans h0 h)
theorem le_of_sq {a b : Int} (hb : 0 ≤ b) (h : a * a ≤ b * b) : a ≤ b := by
  rcases Int.lt_or_le b a with z | z
  · have := sq_lt hb z
    omega
  · exact z
theorem IsRt.uniq {n r s : Int} (h : IsRt n r) (h' : IsRt n s) : r = s := by
  obtain ⟨a0, a1, a2⟩ := h
  obtain ⟨b0, b1, b2⟩ := h'
  have x : r < s + 1 := by
    rcases Int.lt_or_le r (s + 1) with z | z
    · exact z
    · have := sq_le (by omega) z
      omega
  have y : s < r + 1 := by
    rcases Int.lt_or_le s (r + 1) with z | z
    · exact z
    · have := sq_le (by omega) z
      omega
  omega
/-- what is at most the root -/
theorem le_rt {n r t : Int} (h : IsRt n r) (ht : t * t ≤ n) : t ≤ r := by
  obtain ⟨a0, a1, a2⟩ := h
  rcases Int.lt_or_le r t with z | z
  · have := sq_le (by omega) (show r + 1 ≤ t by omega)
    omega
  · exact z
theorem rt_mono {n m r s : Int} (h : IsRt n r) (h' : IsRt m s) (e : n ≤ m) : r ≤ s := le_rt h' (Int.le_trans h.2.1 e)

/-! ### gaps -/
def gapOf (k : Kd) (a b : Int) : Int := if k.isSq = true then a + b - rt (4 * a * b) else absI (a - b)
def leastBeyond (k : Kd) (f r : Int) : Int := if f > r then gapOf k f r else 0
def mostBeyond (k : Kd) (f r : Int) : Int := if k.isSq = true then f + r + rt (4 * f * r) else f + r
theorem gap_comm (k : Kd) (a b : Int) : gapOf k a b = gapOf k b a := by
  unfold gapOf
  split
  · rw [Int.mul_assoc, Int.mul_comm a b, ← Int.mul_assoc, Int.add_comm a b]
  · unfold absI
    split <;> split <;> omega

/-! ### Cauchy's inequality, the triangle -/
def dot : List Int → List Int → Int
  | x :: xs, y :: ys => x * y + dot xs ys
  | _, _ => 0
theorem dot_self_nn : ∀ xs : List Int, 0 ≤ dot xs xs
  | [] => Int.le_refl _
  | x :: xs => Int.add_nonneg (sq_nn x) (dot_self_nn xs)
theorem psd {a b c x y : Int} (ha : 0 ≤ a) (hb : 0 ≤ b) (h : c * c ≤ a * b) : 2 * (x * y * c) ≤ x * x * b + y * y * a := by
  rcases Int.lt_or_le 0 b with hp | hz
  · have e : b * (x * x * b + y * y * a - 2 * (x * y * c)) = (x * b - y * c) * (x * b - y * c) + y * y * (a * b - c * c) := by grind
    have h1 : 0 ≤ y * y * (a * b - c * c) := Int.mul_nonneg (sq_nn y) (by omega)
    have h2 := sq_nn (x * b - y * c)
    have h3 : 0 ≤ b * (x * x * b + y * y * a - 2 * (x * y * c)) := by omega
    have h4 : 0 ≤ x * x * b + y * y * a - 2 * (x * y * c) := by
      rcases Int.lt_or_le (x * x * b + y * y * a - 2 * (x * y * c)) 0 with z | z
      · have := Int.mul_neg_of_pos_of_neg hp z
        omega
      · exact z
    omega
  · have hb0 : b = 0 := by omega
    subst hb0
    have hc : c = 0 := by
      rw [Int.mul_zero] at h
      have := sq_nn c
      have e : c * c = 0 := by omega
      rcases Int.mul_eq_zero.mp e with z | z <;> exact z
    subst hc
    have := Int.mul_nonneg (sq_nn y) ha
    simp only [Int.mul_zero]
    omega
theorem cauchy : ∀ xs ys : List Int, dot xs ys * dot xs ys ≤ dot xs xs * dot ys ys
  | [], ys => by
    show (0 : Int) * 0 ≤ 0 * _
    rw [Int.zero_mul, Int.zero_mul]
    exact Int.le_refl _
  | x :: xs, [] => by
    show (0 : Int) * 0 ≤ _ * 0
    rw [Int.mul_zero, Int.mul_zero]
    exact Int.le_refl _
  | x :: xs, y :: ys => by
    have ih := cauchy xs ys
    show (x * y + dot xs ys) * (x * y + dot xs ys) ≤ (x * x + dot xs xs) * (y * y + dot ys ys)
    have hp := psd (x := x) (y := y) (dot_self_nn xs) (dot_self_nn ys) ih
    generalize dot xs ys = c at *
    generalize dot xs xs = a at *
    generalize dot ys ys = b at *
    have e1 : (x * y + c) * (x * y + c) = x * x * (y * y) + 2 * (x * y * c) + c * c := by grind
    have e2 : (x * x + a) * (y * y + b) = x * x * (y * y) + (x * x * b + y * y * a) + a * b := by grind
    omega
theorem dist_sq : ∀ p v c : List Int, p.length = c.length → v.length = c.length →
    dist .sq p c = dot (diffs p c) (diffs p c) ∧ dist .sq c v = dot (diffs v c) (diffs v c) ∧ dist .sq p v = dist .sq p c + dist .sq c v - 2 * dot (diffs p c) (diffs v c)
  | [], [], [], _, _ => ⟨rfl, rfl, rfl⟩
  | [], _ :: _, [], _, h => by simp at h
  | [], _, _ :: _, h, _ => by simp at h
  | _ :: _, _, [], h, _ => by simp at h
  | _ :: _, [], _ :: _, _, h => by simp at h
  | a :: p, b :: v, d :: c, h1, h2 => by
    obtain ⟨i1, i2, i3⟩ := dist_sq p v c (by simpa using h1) (by simpa using h2)
    have f : ∀ u w : Int, ∀ us ws : List Int, dist .sq (u :: us) (w :: ws) = (u - w) * (u - w) + dist .sq us ws := fun u w us ws => rfl
    have g : ∀ u w : Int, ∀ us ws : List Int, diffs (u :: us) (w :: ws) = (u - w) :: diffs us ws := fun u w us ws => rfl
    have g2 : ∀ u w : Int, ∀ us ws : List Int, dot (u :: us) (w :: ws) = u * w + dot us ws := fun u w us ws => rfl
    rw [f, f, f, g, g, g2, g2, g2, i3]
    refine ⟨by rw [i1], by rw [i2]; grind, ?_⟩
    grind
/-- D lies within the root of the sum of A and B -/
theorem within_sq {p v c : List Int} (h1 : p.length = c.length) (h2 : v.length = c.length) {r : Int} (hr : IsRt (4 * dist .sq p c * dist .sq c v) r) :
    dist .sq p c + dist .sq c v - r ≤ dist .sq p v ∧ dist .sq p v ≤ dist .sq p c + dist .sq c v + r := by
  obtain ⟨e1, e2, e3⟩ := dist_sq p v c h1 h2
  have hc := cauchy (diffs p c) (diffs v c)
  rw [← e1, ← e2] at hc
  rw [e3]
  generalize dot (diffs p c) (diffs v c) = x at *
  generalize dist .sq p c = a at *
  generalize dist .sq c v = b at *
  have q1 : (2 * x) * (2 * x) ≤ 4 * a * b := by
    have : (2 * x) * (2 * x) = 4 * (x * x) := by grind
    have : 4 * a * b = 4 * (a * b) := by grind
    omega
  have q2 : (-(2 * x)) * (-(2 * x)) ≤ 4 * a * b := by
    rw [Int.neg_mul_neg]
    exact q1
  have l1 := le_rt hr q1
  have l2 := le_rt hr q2
  omega
theorem part_tri {k : Kd} (hk : k.isSq = false) (a b c : Int) : partOf k (a - b) ≤ partOf k (a - c) + partOf k (c - b) := by
  cases k
  · cases hk
  all_goals simp only [partOf, Kd.isSq, Kd.isUn, absI, if_true, if_false, Bool.false_eq_true]
  · split <;> split <;> split <;> omega
  · split <;> split <;> split <;> omega
  · split <;> split <;> split <;> omega
theorem comb_add (k : Kd) {a b c d e f : Int} (h1 : a ≤ c + e) (h2 : b ≤ d + f) : comb k a b ≤ comb k c d + comb k e f := by
  unfold comb
  split
  · split <;> split <;> split <;> omega
  · omega
theorem dist_tri {k : Kd} (hk : k.isSq = false) : ∀ p v c : List Int, p.length = c.length → v.length = c.length → dist k p v ≤ dist k p c + dist k c v
  | [], [], [], _, _ => by
    show (0 : Int) ≤ 0 + 0
    omega
  | [], _ :: _, [], _, h => by simp at h
  | [], _, _ :: _, h, _ => by simp at h
  | _ :: _, _, [], h, _ => by simp at h
  | _ :: _, [], _ :: _, _, h => by simp at h
  | a :: p, b :: v, d :: c, h1, h2 => by
    rw [dist_cons, dist_cons, dist_cons]
    exact comb_add k (part_tri hk a b d) (dist_tri hk p v c (by simpa using h1) (by simpa using h2))
theorem rt_nn (n : Int) : 0 ≤ rt n := Int.natCast_nonneg _
theorem mul4_nn {a b : Int} (ha : 0 ≤ a) (hb : 0 ≤ b) : 0 ≤ 4 * a * b := Int.mul_nonneg (by omega) hb
/-! ### shells: a centre at A from p; v in the shell at B -/
theorem low_far (k : Kd) {p v c : List Int} (h1 : p.length = c.length) (h2 : v.length = c.length) {g : Int} (hb : dist k c v ≤ g) (ha : g < dist k p c) : gapOf k (dist k p c) g ≤ dist k p v := by
  have nB := dist_nn k c v
  cases hk : k.isSq with
  | false =>
    have t1 := dist_tri hk p c v (by omega) (by omega)
    rw [dist_comm k v c] at t1
    unfold gapOf
    rw [if_neg (by rw [hk]; exact Bool.false_ne_true)]
    unfold absI
    split <;> omega
  | true =>
    have ek : k = .sq := by cases k <;> first | rfl | cases hk
    subst ek
    have nA := dist_nn .sq p c
    have hr := rt_is (mul4_nn nA nB)
    have hs := rt_is (mul4_nn nA (show 0 ≤ g by omega))
    obtain ⟨w1, _⟩ := within_sq h1 h2 hr
    show dist .sq p c + g - rt (4 * dist .sq p c * g) ≤ _
    refine Int.le_trans ?_ w1
    generalize dist .sq p c = a at *
    generalize dist .sq c v = b at *
    generalize rt (4 * a * b) = s at *
    -- s + (g - b) is at most the root of 4 a g
    have key : s + (g - b) ≤ rt (4 * a * g) := by
      refine le_rt hs ?_
      obtain ⟨s0, s1, _⟩ := hr
      have h2s : 2 * s ≤ 3 * a + b := by
        refine le_of_sq (by omega) ?_
        have e1 : (2 * s) * (2 * s) = 4 * (s * s) := by grind
        have e2 : (3 * a + b) * (3 * a + b) = 4 * (4 * a * b) + (9 * a - b) * (a - b) := by grind
        have e3 : 0 ≤ (9 * a - b) * (a - b) := Int.mul_nonneg (by omega) (by omega)
        omega
      have e4 : (s + (g - b)) * (s + (g - b)) = s * s + (g - b) * (2 * s + (g - b)) := by grind
      have e5 : 4 * a * g = 4 * a * b + (g - b) * (4 * a) := by grind
      have e6 : (g - b) * (2 * s + (g - b)) ≤ (g - b) * (4 * a) := Int.mul_le_mul_of_nonneg_left (by omega) (by omega)
      omega
    omega
theorem low_near (k : Kd) {p v c : List Int} (h1 : p.length = c.length) (h2 : v.length = c.length) {l : Int} (hb : l ≤ dist k c v) (ha : dist k p c < l) : gapOf k l (dist k p c) ≤ dist k p v := by
  have nB := dist_nn k c v
  have nA := dist_nn k p c
  cases hk : k.isSq with
  | false =>
    have t1 := dist_tri hk c v p (by omega) (by omega)
    rw [dist_comm k c p] at t1
    unfold gapOf
    rw [if_neg (by rw [hk]; exact Bool.false_ne_true)]
    unfold absI
    split <;> omega
  | true =>
    have ek : k = .sq := by cases k <;> first | rfl | cases hk
    subst ek
    have hr := rt_is (mul4_nn nA nB)
    have hs := rt_is (mul4_nn (show 0 ≤ l by omega) nA)
    obtain ⟨w1, _⟩ := within_sq h1 h2 hr
    show l + dist .sq p c - rt (4 * l * dist .sq p c) ≤ _
    refine Int.le_trans ?_ w1
    generalize dist .sq p c = a at *
    generalize dist .sq c v = b at *
    generalize rt (4 * a * b) = s at *
    generalize rt (4 * l * a) = t at *
    have key : s ≤ t + (b - l) := by
      rcases Int.lt_or_le (t + (b - l)) s with z | z
      · exfalso
        obtain ⟨s0, s1, _⟩ := hr
        obtain ⟨t0, _, t2⟩ := hs
        have q1 : (t + 1 + (b - l)) * (t + 1 + (b - l)) ≤ s * s := sq_le (by omega) (by omega)
        have q2 : 2 * a ≤ t + 1 := by
          refine le_of_sq (by omega) ?_
          have e1 : (2 * a) * (2 * a) = 4 * a * a := by grind
          have e2 : 4 * l * a = 4 * a * a + 4 * (l - a) * a := by grind
          have e3 : 0 ≤ 4 * (l - a) * a := Int.mul_nonneg (by omega) nA
          omega
        have e4 : (t + 1 + (b - l)) * (t + 1 + (b - l)) = (t + 1) * (t + 1) + (b - l) * (2 * (t + 1) + (b - l)) := by grind
        have e5 : 4 * a * b = 4 * l * a + (b - l) * (4 * a) := by grind
        have e6 : (b - l) * (4 * a) ≤ (b - l) * (2 * (t + 1) + (b - l)) := Int.mul_le_mul_of_nonneg_left (by omega) (by omega)
        omega
      · exact z
    omega
theorem high_all (k : Kd) {p v c : List Int} (h1 : p.length = c.length) (h2 : v.length = c.length) {g : Int} (hb : dist k c v ≤ g) : dist k p v ≤ mostBeyond k (dist k p c) g := by
  have nB := dist_nn k c v
  have nA := dist_nn k p c
  unfold mostBeyond
  cases hk : k.isSq with
  | false =>
    have t1 := dist_tri hk p v c h1 h2
    rw [if_neg Bool.false_ne_true]
    omega
  | true =>
    have ek : k = .sq := by cases k <;> first | rfl | cases hk
    subst ek
    rw [if_pos rfl]
    have hr := rt_is (mul4_nn nA nB)
    have hs := rt_is (mul4_nn nA (show 0 ≤ g by omega))
    obtain ⟨_, w2⟩ := within_sq h1 h2 hr
    have e5 : 4 * dist .sq p c * dist .sq c v ≤ 4 * dist .sq p c * g := Int.mul_le_mul_of_nonneg_left hb (by omega)
    have := rt_mono hr hs e5
    omega
theorem dist_un_le : ∀ p v : List Int, dist .un p v ≤ p.length
  | [], _ => Int.le_refl _
  | _ :: _, [] => by
    show (0 : Int) ≤ _
    exact Int.natCast_nonneg _
  | a :: p, b :: v => by
    have ih := dist_un_le p v
    have e : dist .un (a :: p) (b :: v) = (if a - b ≠ 0 then 1 else 0) + dist .un p v := rfl
    rw [e, List.length_cons]
    split <;> omega
end K21
/-! KMath2: regions. -/
namespace K21
inductive Reg where
  | ball (c : List Int) (r : Int)
  | box (lo hi : List Int)
  | cell (c : List Int) (l g : Int)
def Reg.one : Reg → List Int
  | .ball c _ => c
  | .box lo _ => lo
  | .cell c _ _ => c
def Reg.isBox : Reg → Bool
  | .box _ _ => true
  | _ => false
def Reg.isBall : Reg → Bool
  | .ball _ _ => true
  | _ => false
/-- the least and the greatest distance from the centre (of a box: not used) -/
def Reg.low : Reg → Int
  | .cell _ l _ => l
  | _ => 0
def Reg.high : Reg → Int
  | .ball _ r => r
  | .cell _ _ g => g
  | _ => 0
/-- the vectors have n places, the numbers are in order -/
def Reg.Ok (n : Nat) : Reg → Prop
  | .ball c r => c.length = n ∧ 0 ≤ r
  | .box lo hi => lo.length = n ∧ hi.length = n ∧ ∀ (i : Nat) (a b : Int), lo[i]? = some a → hi[i]? = some b → a ≤ b
  | .cell c l g => c.length = n ∧ 0 ≤ l ∧ l ≤ g

/-! ### boxes, place by place -/
def gapTo (lo hi p : Int) : Int := if p < lo then lo - p else if p > hi then p - hi else 0
def max2 (i j : Int) : Int := if j > i then j else i
def min2 (i j : Int) : Int := if j < i then j else i
def roomTo (lo hi p : Int) : Int := max2 (absI (p - lo)) (absI (hi - p))
def zip3 (f : Int → Int → Int → α) : List Int → List Int → List Int → List α
  | a :: as, b :: bs, c :: cs => f a b c :: zip3 f as bs cs
  | _, _, _ => []
theorem zip3_len (f : Int → Int → Int → α) : ∀ {as bs cs : List Int} {n : Nat}, as.length = n → bs.length = n → cs.length = n → (zip3 f as bs cs).length = n
  | [], _, _, _, h, _, _ => h
  | _ :: _, [], _, _, h, h2, _ => by
    subst h2
    simp at h
  | _ :: _, _ :: _, [], _, h, _, h2 => by
    subst h2
    simp at h
  | _ :: as, _ :: bs, _ :: cs, n, h, h2, h3 => by
    show (zip3 f as bs cs).length + 1 = n
    have := zip3_len f (n := as.length) (as := as) (bs := bs) (cs := cs) rfl (by simp at h h2; omega) (by simp at h h3; omega)
    simp at h
    omega
theorem zip3_get (f : Int → Int → Int → α) : ∀ {as bs cs : List Int} {i : Nat} {a b c : Int}, as[i]? = some a → bs[i]? = some b → cs[i]? = some c → (zip3 f as bs cs)[i]? = some (f a b c)
  | [], _, _, _, _, _, _, h, _, _ => by simp at h
  | _ :: _, [], _, _, _, _, _, _, h, _ => by simp at h
  | _ :: _, _ :: _, [], _, _, _, _, _, _, h => by simp at h
  | x :: as, y :: bs, z :: cs, 0, a, b, c, h, h2, h3 => by
    cases (show some x = some a from h)
    cases (show some y = some b from h2)
    cases (show some z = some c from h3)
    rfl
  | x :: as, y :: bs, z :: cs, i + 1, a, b, c, h, h2, h3 => zip3_get f (i := i) h h2 h3
def inBox (lo hi v : List Int) : Bool := (zip3 (fun a p b => decide (a ≤ p) && decide (p ≤ b)) lo v hi).all id

def shellFloor (k : Kd) (l g a : Int) : Int := if a > g then leastBeyond k a g else if a < l then gapOf k l a else 0
def holds (k : Kd) (R : Reg) (v : List Int) : Bool := match R with
  | .box lo hi => inBox lo hi v
  | .ball c r => decide (0 ≤ dist k c v) && decide (dist k c v ≤ r)
  | .cell c l g => decide (l ≤ dist k c v) && decide (dist k c v ≤ g)
def floorOf (k : Kd) (R : Reg) (v : List Int) : Int := match R with
  | .box lo hi => joined k ((zip3 gapTo lo hi v).map (partOf k))
  | .ball c r => shellFloor k 0 r (dist k c v)
  | .cell c l g => shellFloor k l g (dist k c v)
def capped (k : Kd) (m n : Int) : Int := if k.isUn = true then min2 m n else m
def ceilOf (k : Kd) (R : Reg) (v : List Int) : Int := match R with
  | .box lo hi => joined k ((zip3 roomTo lo hi v).map (partOf k))
  | .ball c r => capped k (mostBeyond k (dist k c v) r) v.length
  | .cell c l g => capped k (mostBeyond k (dist k c v) g) v.length

/-! ### what the law asks, in shells -/
theorem shell_floor_le (k : Kd) {c p v : List Int} (hp : p.length = c.length) (hv : v.length = c.length) {l g : Int} (h1 : l ≤ dist k c v) (h2 : dist k c v ≤ g) : shellFloor k l g (dist k c p) ≤ dist k p v := by
  unfold shellFloor leastBeyond
  rw [dist_comm k c p]
  split
  · rename_i z
    exact low_far k hp hv h2 z
  · split
    · rename_i z
      exact low_near k hp hv h1 z
    · exact dist_nn k p v
theorem shell_le_ceil (k : Kd) {c p v : List Int} (hp : p.length = c.length) (hv : v.length = c.length) {g : Int} (h2 : dist k c v ≤ g) : dist k p v ≤ capped k (mostBeyond k (dist k c p) g) p.length := by
  rw [dist_comm k c p]
  have h := high_all k hp hv h2
  unfold capped
  split
  · rename_i hk
    have ek : k = .un := by cases k <;> first | rfl | cases hk
    subst ek
    have := dist_un_le p v
    unfold min2
    split <;> omega
  · exact h
theorem shell_floor_zero (k : Kd) {l g a : Int} (h1 : l ≤ a) (h2 : a ≤ g) : shellFloor k l g a = 0 := by
  unfold shellFloor
  rw [if_neg (by omega), if_neg (by omega)]

/-! ### in boxes -/
theorem part_mono (k : Kd) {a b : Int} (h0 : 0 ≤ a) (h : a ≤ absI b) : partOf k a ≤ partOf k b := by
  have e : partOf k b = partOf k (absI b) := by
    unfold absI
    split
    · exact (part_neg k b).symm
    · rfl
  rw [e]
  generalize absI b = c at *
  cases k <;> simp only [partOf, Kd.isSq, Kd.isUn, absI, if_true, if_false, Bool.false_eq_true]
  · exact sq_le h0 h
  · split <;> split <;> omega
  · split <;> split <;> omega
  · split <;> split <;> omega
theorem part_abs (k : Kd) (b : Int) : partOf k (absI b) = partOf k b := by
  unfold absI
  split
  · exact part_neg k b
  · rfl
theorem in_cons {a b q : Int} {lo hi v : List Int} (h : inBox (a :: lo) (b :: hi) (q :: v) = true) : (a ≤ q ∧ q ≤ b) ∧ inBox lo hi v = true := by
  have h' : (zip3 (fun a p b => decide (a ≤ p) && decide (p ≤ b)) (a :: lo) (q :: v) (b :: hi)).all id = true := h
  have e : zip3 (fun a p b => decide (a ≤ p) && decide (p ≤ b)) (a :: lo) (q :: v) (b :: hi) = (decide (a ≤ q) && decide (q ≤ b)) :: zip3 (fun a p b => decide (a ≤ p) && decide (p ≤ b)) lo v hi := rfl
  rw [e, List.all_cons, Bool.and_eq_true, id, Bool.and_eq_true, decide_eq_true_eq, decide_eq_true_eq] at h'
  exact h'
theorem in_of {a b q : Int} {lo hi v : List Int} (h1 : a ≤ q) (h2 : q ≤ b) (h : inBox lo hi v = true) : inBox (a :: lo) (b :: hi) (q :: v) = true := by
  show (zip3 (fun a p b => decide (a ≤ p) && decide (p ≤ b)) (a :: lo) (q :: v) (b :: hi)).all id = true
  have e : zip3 (fun a p b => decide (a ≤ p) && decide (p ≤ b)) (a :: lo) (q :: v) (b :: hi) = (decide (a ≤ q) && decide (q ≤ b)) :: zip3 (fun a p b => decide (a ≤ p) && decide (p ≤ b)) lo v hi := rfl
  rw [e, List.all_cons, Bool.and_eq_true, id, Bool.and_eq_true, decide_eq_true_eq, decide_eq_true_eq]
  exact ⟨⟨h1, h2⟩, h⟩
theorem box_bounds (k : Kd) : ∀ {lo hi p v : List Int}, lo.length = hi.length → p.length = hi.length → v.length = hi.length → inBox lo hi v = true →
    joined k ((zip3 gapTo lo hi p).map (partOf k)) ≤ dist k p v ∧ dist k p v ≤ joined k ((zip3 roomTo lo hi p).map (partOf k))
  | [], [], [], [], _, _, _, _ => ⟨Int.le_refl _, Int.le_refl _⟩
  | a :: lo, b :: hi, x :: p, q :: v, h1, h2, h3, h4 => by
    obtain ⟨⟨l1, l2⟩, h5⟩ := in_cons h4
    obtain ⟨i1, i2⟩ := box_bounds k (by simpa using h1) (by simpa using h2) (by simpa using h3) h5
    rw [dist_cons]
    show comb k (partOf k (gapTo a b x)) (joined k ((zip3 gapTo lo hi p).map (partOf k))) ≤ _ ∧ _ ≤ comb k (partOf k (roomTo a b x)) (joined k ((zip3 roomTo lo hi p).map (partOf k)))
    refine ⟨comb_mono k (part_mono k ?_ ?_) i1, comb_mono k ?_ i2⟩
    · unfold gapTo
      split
      · omega
      · split <;> omega
    · unfold gapTo absI
      split
      · split <;> omega
      · split <;> split <;> omega
    · rw [← part_abs k (x - q)]
      refine part_mono k ?_ ?_
      · unfold absI
        split <;> omega
      · unfold roomTo max2 absI
        repeat' split
        all_goals omega
  | [], _ :: _, _, _, h, _, _, _ => by simp at h
  | _ :: _, [], _, _, h, _, _, _ => by simp at h
  | [], [], _ :: _, _, _, h, _, _ => by simp at h
  | [], [], [], _ :: _, _, _, h, _ => by simp at h
  | _ :: _, _ :: _, [], _, _, h, _, _ => by simp at h
  | _ :: _, _ :: _, _ :: _, [], _, _, h, _ => by simp at h
theorem box_zero (k : Kd) : ∀ {lo hi p : List Int}, lo.length = hi.length → p.length = hi.length → inBox lo hi p = true → joined k ((zip3 gapTo lo hi p).map (partOf k)) = 0
  | [], [], [], _, _, _ => rfl
  | a :: lo, b :: hi, x :: p, h1, h2, h4 => by
    obtain ⟨⟨l1, l2⟩, h5⟩ := in_cons h4
    show comb k (partOf k (gapTo a b x)) (joined k ((zip3 gapTo lo hi p).map (partOf k))) = 0
    rw [box_zero k (by simpa using h1) (by simpa using h2) h5]
    have e : gapTo a b x = 0 := by
      unfold gapTo
      rw [if_neg (by omega), if_neg (by omega)]
    rw [e]
    cases k <;> rfl
  | [], _ :: _, _, h, _, _ => by simp at h
  | _ :: _, [], _, h, _, _ => by simp at h
  | [], [], _ :: _, _, h, _ => by simp at h
  | _ :: _, _ :: _, [], _, h, _ => by simp at h
/-- the nearest vector of a box; the farthest, as the law picks them -/
def nearAt (lo hi p : Int) : Int := min2 (max2 p lo) hi
def nearest (lo hi p : List Int) : List Int := zip3 nearAt lo hi p
def farAt (k : Kd) (lo hi p : Int) : Int := if p - lo > hi - p ∨ (k.isUn = true ∧ p = hi) then lo else hi
def farthest (k : Kd) (lo hi p : List Int) : List Int := zip3 (farAt k) lo hi p
def farAt2 (k : Kd) (lo hi p : Int) : Int := if k.isUn = true then (if hi ≠ p then hi else lo) else if 2 * p ≥ lo + hi then lo else hi
def farthest2 (k : Kd) (lo hi p : List Int) : List Int := zip3 (farAt2 k) lo hi p
theorem near_part (k : Kd) {lo hi p : Int} (h : lo ≤ hi) : partOf k (p - nearAt lo hi p) = partOf k (gapTo lo hi p) := by
  have e : p - nearAt lo hi p = gapTo lo hi p ∨ p - nearAt lo hi p = - gapTo lo hi p := by
    unfold nearAt min2 max2 gapTo
    repeat' split
    all_goals omega
  rcases e with e | e
  · rw [e]
  · rw [e, part_neg]
theorem far_part (k : Kd) {lo hi p : Int} (h : lo ≤ hi) : partOf k (p - farAt k lo hi p) = partOf k (roomTo lo hi p) := by
  cases k <;> simp only [partOf, Kd.isSq, Kd.isUn, if_true, if_false, Bool.false_eq_true]
  · have e : p - farAt .sq lo hi p = roomTo lo hi p ∨ p - farAt .sq lo hi p = - roomTo lo hi p := by
      unfold farAt roomTo max2 absI
      simp only [Kd.isUn, Bool.false_eq_true, false_and, or_false]
      repeat' split
      all_goals omega
    rcases e with e | e
    · rw [e]
    · rw [e, Int.neg_mul_neg]
  all_goals
    unfold farAt roomTo max2 absI
    simp only [Kd.isUn, Bool.false_eq_true, false_and, or_false, true_and]
    repeat' split
    all_goals omega
theorem far2_part (k : Kd) {lo hi p : Int} (h : lo ≤ hi) : partOf k (p - farAt2 k lo hi p) = partOf k (roomTo lo hi p) := by
  cases k <;> simp only [partOf, Kd.isSq, Kd.isUn, if_true, if_false, Bool.false_eq_true]
  · have e : p - farAt2 .sq lo hi p = roomTo lo hi p ∨ p - farAt2 .sq lo hi p = - roomTo lo hi p := by
      unfold farAt2 roomTo max2 absI
      simp only [Kd.isUn, Bool.false_eq_true, if_false]
      repeat' split
      all_goals omega
    rcases e with e | e
    · rw [e]
    · rw [e, Int.neg_mul_neg]
  all_goals
    unfold farAt2 roomTo max2 absI
    simp only [Kd.isUn, Bool.false_eq_true, if_false, if_true]
    repeat' split
    all_goals omega
def Ordered (lo hi : List Int) : Prop := ∀ (i : Nat) (a b : Int), lo[i]? = some a → hi[i]? = some b → a ≤ b
theorem Ordered.tail {a b : Int} {lo hi : List Int} (h : Ordered (a :: lo) (b :: hi)) : a ≤ b ∧ Ordered lo hi := ⟨h 0 a b rfl rfl, fun i x y h1 h2 => h (i + 1) x y h1 h2⟩
/-- a vector picked place by place: its distance -/
theorem pick_dist (k : Kd) {f g : Int → Int → Int → Int} (hf : ∀ lo hi p : Int, lo ≤ hi → partOf k (p - f lo hi p) = partOf k (g lo hi p)) :
    ∀ {lo hi p : List Int}, lo.length = hi.length → p.length = hi.length → Ordered lo hi → dist k p (zip3 f lo hi p) = joined k ((zip3 g lo hi p).map (partOf k))
  | [], [], [], _, _, _ => rfl
  | a :: lo, b :: hi, x :: p, h1, h2, h4 => by
    obtain ⟨h5, h6⟩ := h4.tail
    show comb k (partOf k (x - f a b x)) (dist k p (zip3 f lo hi p)) = comb k (partOf k (g a b x)) (joined k ((zip3 g lo hi p).map (partOf k)))
    rw [pick_dist k hf (by simpa using h1) (by simpa using h2) h6, hf a b x h5]
  | [], _ :: _, _, h, _, _ => by simp at h
  | _ :: _, [], _, h, _, _ => by simp at h
  | [], [], _ :: _, _, h, _ => by simp at h
  | _ :: _, _ :: _, [], _, h, _ => by simp at h
theorem pick_in {f : Int → Int → Int → Int} (hf : ∀ lo hi p : Int, lo ≤ hi → lo ≤ f lo hi p ∧ f lo hi p ≤ hi) :
    ∀ {lo hi p : List Int}, lo.length = hi.length → p.length = hi.length → Ordered lo hi → inBox lo hi (zip3 f lo hi p) = true
  | [], [], [], _, _, _ => rfl
  | a :: lo, b :: hi, x :: p, h1, h2, h4 => by
    obtain ⟨h5, h6⟩ := h4.tail
    exact in_of (hf a b x h5).1 (hf a b x h5).2 (pick_in hf (by simpa using h1) (by simpa using h2) h6)
  | [], _ :: _, _, h, _, _ => by simp at h
  | _ :: _, [], _, h, _, _ => by simp at h
  | [], [], _ :: _, _, h, _ => by simp at h
  | _ :: _, _ :: _, [], _, h, _ => by simp at h
theorem near_in (lo hi p : Int) (h : lo ≤ hi) : lo ≤ nearAt lo hi p ∧ nearAt lo hi p ≤ hi := by
  unfold nearAt min2 max2
  repeat' split
  all_goals omega
theorem far_in (k : Kd) (lo hi p : Int) (h : lo ≤ hi) : lo ≤ farAt k lo hi p ∧ farAt k lo hi p ≤ hi := by
  unfold farAt
  split <;> omega

/-! ### what the law asks -/
theorem floor_le (k : Kd) {R : Reg} {n : Nat} {p v : List Int} (hR : R.Ok n) (hp : p.length = n) (hv : v.length = n) (h : holds k R v = true) : floorOf k R p ≤ dist k p v ∧ dist k p v ≤ ceilOf k R p := by
  cases R with
  | box lo hi => exact box_bounds k (by have := hR.1; have := hR.2.1; omega) (by have := hR.2.1; omega) (by have := hR.2.1; omega) h
  | ball c r =>
    have h' : (decide (0 ≤ dist k c v) && decide (dist k c v ≤ r)) = true := h
    rw [Bool.and_eq_true, decide_eq_true_eq, decide_eq_true_eq] at h'
    have := hR.1
    exact ⟨shell_floor_le k (by omega) (by omega) h'.1 h'.2, shell_le_ceil k (by omega) (by omega) h'.2⟩
  | cell c l g =>
    have h' : (decide (l ≤ dist k c v) && decide (dist k c v ≤ g)) = true := h
    rw [Bool.and_eq_true, decide_eq_true_eq, decide_eq_true_eq] at h'
    have := hR.1
    exact ⟨shell_floor_le k (by omega) (by omega) h'.1 h'.2, shell_le_ceil k (by omega) (by omega) h'.2⟩
theorem floor_zero (k : Kd) {R : Reg} {n : Nat} {p : List Int} (hR : R.Ok n) (hp : p.length = n) (h : holds k R p = true) : floorOf k R p = 0 := by
  cases R with
  | box lo hi => exact box_zero k (by have := hR.1; have := hR.2.1; omega) (by have := hR.2.1; omega) h
  | ball c r =>
    have h' : (decide (0 ≤ dist k c p) && decide (dist k c p ≤ r)) = true := h
    rw [Bool.and_eq_true, decide_eq_true_eq, decide_eq_true_eq] at h'
    exact shell_floor_zero k h'.1 h'.2
  | cell c l g =>
    have h' : (decide (l ≤ dist k c p) && decide (dist k c p ≤ g)) = true := h
    rw [Bool.and_eq_true, decide_eq_true_eq, decide_eq_true_eq] at h'
    exact shell_floor_zero k h'.1 h'.2
theorem box_near (k : Kd) {lo hi p : List Int} {n : Nat} (hR : (Reg.box lo hi).Ok n) (hp : p.length = n) : holds k (.box lo hi) (nearest lo hi p) = true ∧ dist k p (nearest lo hi p) = floorOf k (.box lo hi) p := by
  obtain ⟨h1, h2, h3⟩ := hR
  exact ⟨pick_in near_in (by omega) (by omega) h3, pick_dist k (fun a b c h => near_part k h) (by omega) (by omega) h3⟩
theorem box_far (k : Kd) {lo hi p : List Int} {n : Nat} (hR : (Reg.box lo hi).Ok n) (hp : p.length = n) : holds k (.box lo hi) (farthest k lo hi p) = true ∧ dist k p (farthest k lo hi p) = ceilOf k (.box lo hi) p := by
  obtain ⟨h1, h2, h3⟩ := hR
  exact ⟨pick_in (far_in k) (by omega) (by omega) h3, pick_dist k (fun a b c h => far_part k h) (by omega) (by omega) h3⟩
theorem box_far2 (k : Kd) {lo hi p : List Int} {n : Nat} (hR : (Reg.box lo hi).Ok n) (hp : p.length = n) : dist k p (farthest2 k lo hi p) = ceilOf k (.box lo hi) p := by
  obtain ⟨h1, h2, h3⟩ := hR
  exact pick_dist k (fun a b c h => far2_part k h) (by omega) (by omega) h3

/-! ### how great -/
/-- small integers, few -/
def Bd (zs : List Int) : Prop := ∀ z ∈ zs, -20000 ≤ z ∧ z ≤ 20000
theorem part_le (k : Kd) {d : Int} (h : -40000 ≤ d ∧ d ≤ 40000) : partOf k d ≤ 1600000000 := by
  have h1 : absI d ≤ 40000 := by
    unfold absI
    split <;> omega
  have h0 : 0 ≤ absI d := by
    unfold absI
    split <;> omega
  rw [← part_abs k d]
  generalize absI d = c at *
  cases k <;> simp only [partOf, Kd.isSq, Kd.isUn, absI, if_true, if_false, Bool.false_eq_true]
  · have := sq_le h0 h1
    omega
  · split <;> omega
  · split <;> omega
  · split <;> omega
theorem dist_le (k : Kd) : ∀ {xs ys : List Int}, Bd xs → Bd ys → dist k xs ys ≤ 1600000000 * (xs.length : Int)
  | [], _, _, _ => Int.le_refl _
  | _ :: _, [], _, _ => by
    show (0 : Int) ≤ _
    exact Int.mul_nonneg (by omega) (Int.natCast_nonneg _)
  | x :: xs, y :: ys, h1, h2 => by
    have ih := dist_le k (xs := xs) (ys := ys) (fun z hz => h1 z (List.mem_cons_of_mem _ hz)) (fun z hz => h2 z (List.mem_cons_of_mem _ hz))
    have b1 := h1 x List.mem_cons_self
    have b2 := h2 y List.mem_cons_self
    have hp := part_le k (d := x - y) (by omega)
    have h0 := dist_nn k xs ys
    have h3 := part_nn k (x - y)
    rw [dist_cons, List.length_cons]
    unfold comb
    split
    · split <;> omega
    · omega
/-- a region whose numbers are small -/
def Reg.Sm : Reg → Prop
  | .ball c r => Bd c ∧ r ≤ 30000000
  | .box lo hi => Bd lo ∧ Bd hi
  | .cell c _ g => Bd c ∧ g ≤ 30000000
end K21
/-! KRules: rules of our own: isqrt, repr, zip of three tuples, comprehensions by the list that they make. -/
namespace K21
open PySem PySem.Spec PyProof.Rows L2 Evl
section
variable {X : Cx}
/-! ### isqrt, repr of bools -/
def rSqrt : List V → Hp → VK → Prop := fun vs H Q => ∃ a : Int, vs = [.int a] ∧ 0 ≤ a ∧ a < 2 ^ 64 ∧ Q (.int (rt a)) H
theorem cr_isqrt : CallR X (.builtin "math.isqrt") rSqrt := by
  intro pins s σ H vs us Q I r h
  obtain ⟨a, rfl, h0, h1, q⟩ := h
  obtain ⟨u, rfl, t, rfl⟩ := vals1 r
  exact PySem.W.mg_isqrt h0 h1 ⟨.int (rt a), H, I.tok _, ⟨_, rfl⟩, q⟩
def rReprB : List V → Hp → VK → Prop := fun vs H Q => ∃ b : Bool, vs = [.bl b] ∧ Q (.str (if b = true then "True" else "False")) H
theorem cr_reprB : CallR X (.builtin "repr") rReprB := by
  intro pins s σ H vs us Q I r h
  obtain ⟨b, rfl, q⟩ := h
  obtain ⟨u, rfl, rb⟩ := vals1 r
  cases rb
  exact PySem.P.repr_of_bool ⟨.str _, H, I.tok _, ⟨_, rfl⟩, q⟩
end

/-! ### zip of three tuples -/
def ItzT3 (K : PySem.W.Frag) (a b c : Addr) : It where
  go := fun i H => ∃ (xs ys zs : List V) (x y z : V), (SqT K H a xs ∧ SqT K H b ys ∧ SqT K H c zs) ∧ xs[i]? = some x ∧ ys[i]? = some y ∧ zs[i]? = some z ∧ xs.length = ys.length ∧ xs.length = zs.length
  yld := fun i H v H' => ∃ T x y z, v = .ref T ∧ H T = none ∧ H' = upd H T (.tup [x, y, z]) ∧ (∀ l, SqT K H a l → l[i]? = some x) ∧ (∀ l, SqT K H b l → l[i]? = some y) ∧ ∀ l, SqT K H c l → l[i]? = some z
  stop := fun i H => ∃ xs ys zs : List V, (SqT K H a xs ∧ SqT K H b ys ∧ SqT K H c zs) ∧ xs.length = i ∧ ys.length = i ∧ zs.length = i
abbrev cells6 (N : Addr) : List Addr := [N + 5, N + 3, N + 4, N, N + 1, N + 2]
def St3 (a b c N : Addr) (i : Nat) (h : Heap) : Prop :=
  IsZip h (N + 5) (N + 3) (N + 4) .none ∧ IsTupOf3 h (N + 3) (.ref N) (.ref (N + 1)) (.ref (N + 2)) ∧ (∃ x y z, IsTupOf3 h (N + 4) x y z) ∧ h.IsTupleIter N a i ∧ h.IsTupleIter (N + 1) b i ∧ h.IsTupleIter (N + 2) c i
theorem mem6 {N b : Addr} (h : b ∈ cells6 N) : b = N + 5 ∨ b = N + 3 ∨ b = N + 4 ∨ b = N ∨ b = N + 1 ∨ b = N + 2 := by
  simpa [cells6] using h
theorem St3.obj {a b c N : Addr} {i : Nat} {h : Heap} (st : St3 a b c N i h) : ∀ d ∈ cells6 N, ∃ o, h.get? d = some o ∧ ∀ v, o.data ≠ .cell v := by
  intro d hd
  obtain ⟨hz, hI, ⟨x, y, z, hO⟩, ⟨o1, e1, _, d1⟩, ⟨o2, e2, _, d2⟩, ⟨o3, e3, _, d3⟩⟩ := st
  rcases mem6 hd with q | q | q | q | q | q
  · rw [q]; exact ⟨_, hz, fun v q => nomatch q⟩
  · rw [q]; exact ⟨_, hI, fun v q => nomatch q⟩
  · rw [q]; exact ⟨_, hO, fun v q => nomatch q⟩
  · rw [q]; exact ⟨_, e1, fun v q => by rw [d1] at q; cases q⟩
  · rw [q]; exact ⟨_, e2, fun v q => by rw [d2] at q; cases q⟩
  · rw [q]; exact ⟨_, e3, fun v q => by rw [d3] at q; cases q⟩
theorem St3.lt {a b c N : Addr} {i : Nat} {h : Heap} (st : St3 a b c N i h) {d : Addr} (hd : d ∈ cells6 N) : d < h.objs.size :=
  let ⟨_, e, _⟩ := st.obj d hd
  Heap.lt_size e
theorem turn_z3 {P : Program} {w : World} {K : PySem.W.Frag} {elts : List Expr} {kk : Nat} {tpos : Pos} {a b c N : Addr} (ha : a < N) (hb : b < N) (hc : c < N) :
    Turn P w K (.Tuple elts kk tpos) (ItzT3 K a b c) (cells6 N) (N + 5) (St3 a b c N) where
  mem := List.mem_cons_self
  obj := fun i h st d hd => st.obj d hd
  keep := fun i h h' st k => by
    obtain ⟨hz, hI, ⟨x, y, z, hO⟩, h1, h2, h3⟩ := st
    exact ⟨k _ (by simp) _ hz, k _ (by simp) _ hI, ⟨x, y, z, k _ (by simp) _ hO⟩, h1.at fun o q => k _ (by simp) o q, h2.at fun o q => k _ (by simp) o q, h3.at fun o q => k _ (by simp) o q⟩
  item := by
    intro X hP hw hK hcalm i pins s σ H E I hf st hg
    subst hP hw hK
    obtain ⟨xs, ys, zs, x, y, z, ⟨qx, qy, qz⟩, ex, ey, ez, l1, l2⟩ := hg
    obtain ⟨ia, va, pa, _⟩ := I.tuple qx
    obtain ⟨ib, vb, pb, _⟩ := I.tuple qy
    obtain ⟨ic, vc, pc, _⟩ := I.tuple qz
    obtain ⟨u1, g1, r1⟩ := va.get ex
    obtain ⟨u2, g2, r2⟩ := vb.get ey
    obtain ⟨u3, g3, r3⟩ := vc.get ez
    have hh : X.A.in1.handled = none := I.ok.hd hcalm
    have lt1 := (List.getElem?_eq_some_iff.mp g1).1
    have m1 := va.length
    have m2 := vb.length
    have m3 := vc.length
    have W := GoesN.zip3 (prog := X.prog) (w := X.w) (A := X.A) (elts := elts) (x1 := kk) (pos := tpos) (zip_sep3 (N := N) (fp1 := [a]) (fp2 := [b]) (fp3 := [c]) (by simpa using ha) (by simpa using hb) (by simpa using hc))
      (Draws.tuple hh N a (Nat.ne_of_lt ha) ia.toArray) (Draws.tuple hh (N + 1) b (Nat.ne_of_lt (Nat.lt_succ_of_lt hb)) ib.toArray) (Draws.tuple hh (N + 2) c (Nat.ne_of_lt (Nat.lt_succ_of_lt (Nat.lt_succ_of_lt hc))) ic.toArray)
    obtain ⟨hz, hI, hO, h1, h2, h3⟩ := id st
    refine wpAny_mono (W.goes i s (fun v s' => ∃ x H', Inv X pins σ H' s' ∧ RelV x v ∧ (ItzT3 X.K a b c).yld i H x H' ∧ St3 a b c N (i + 1) s'.heap ∧ ∀ d ∈ cells6 N, H' d = none) E ?_ ⟨hz, hI, hO, ⟨h1, pa⟩, ⟨h2, pb⟩, ⟨h3, pc⟩⟩ ?_) (fun r s1 hr => hr) fun _ _ e => e
    · simp only [List.size_toArray]
      omega
    · rintro v h' tk ⟨T, v1, v2, v3, rfl, hT, p1, p2, p3, hTup⟩ ⟨nz, nI, nO, ⟨n1, _⟩, ⟨n2, _⟩, ⟨n3, _⟩⟩ hk _
      have e1 : v1 = u1 := Option.some.inj (p1.symm.trans (by simpa using g1))
      have e2 : v2 = u2 := Option.some.inj (p2.symm.trans (by simpa using g2))
      have e3 : v3 = u3 := Option.some.inj (p3.symm.trans (by simpa using g3))
      subst e1 e2 e3
      have new : ObjOk X.prog X.w (upd H T (.tup [x, y, z])) h' T (.tup [x, y, z]) :=
        ⟨by show 3 ≤ sizeLine; decide, [v1, v2, v3], .cons r1 (.cons r2 (.cons r3 .nil)), hTup⟩
      refine ⟨.ref T, _, I.turnedNew (t' := tk) (ch := cells6 N) (fun d o hd e => hk d o (fun q => hd ?_) e) hf hT new, rfl, ⟨T, x, y, z, rfl, I.hok.fresh hT, rfl, fun l hl => by rw [I.tuple_inj hl qx]; exact ex, fun l hl => by rw [I.tuple_inj hl qy]; exact ey, fun l hl => by rw [I.tuple_inj hl qz]; exact ez⟩, ⟨nz, nI, nO, n1, n2, n3⟩, fun d hd => ?_⟩
      · have q' : d = N + 5 ∨ d = N + 4 ∨ d = N ∨ d = N + 1 ∨ d = N + 2 := by simpa using q
        rcases q' with q | q | q | q | q <;> rw [q] <;> simp [cells6]
      · rw [upd_ne (Nat.ne_of_lt (Nat.lt_of_lt_of_le (st.lt hd) hT))]
        exact (hf d hd).1
  done := by
    intro X hP hw hK hcalm i pins s σ H E I hf st hg
    subst hP hw hK
    obtain ⟨xs, ys, zs, ⟨qx, qy, qz⟩, ex, ey, ez⟩ := hg
    obtain ⟨ia, va, pa, _⟩ := I.tuple qx
    obtain ⟨ib, vb, pb, _⟩ := I.tuple qy
    obtain ⟨ic, vc, pc, _⟩ := I.tuple qz
    have hh : X.A.in1.handled = none := I.ok.hd hcalm
    have m1 := va.length
    have m2 := vb.length
    have m3 := vc.length
    have W := GoesN.zip3 (prog := X.prog) (w := X.w) (A := X.A) (elts := elts) (x1 := kk) (pos := tpos) (zip_sep3 (N := N) (fp1 := [a]) (fp2 := [b]) (fp3 := [c]) (by simpa using ha) (by simpa using hb) (by simpa using hc))
      (Draws.tuple hh N a (Nat.ne_of_lt ha) ia.toArray) (Draws.tuple hh (N + 1) b (Nat.ne_of_lt (Nat.lt_succ_of_lt hb)) ib.toArray) (Draws.tuple hh (N + 2) c (Nat.ne_of_lt (Nat.lt_succ_of_lt (Nat.lt_succ_of_lt hc))) ic.toArray)
    obtain ⟨hz, hI, hO, h1, h2, h3⟩ := id st
    have en : min (min ia.toArray.size ib.toArray.size) ic.toArray.size = i := by
      simp only [List.size_toArray]
      omega
    refine wpAny_mono (W.stops s (fun s' => Inv X pins σ H s') E (by rw [en]; exact ⟨hz, hI, hO, ⟨h1, pa⟩, ⟨h2, pb⟩, ⟨h3, pc⟩⟩) fun h' tk hk _ => ?_) (fun r s1 hr => hr) fun _ _ e => e
    refine I.turnedL (t' := tk) (ch := cells6 N) (fun d o hd e => hk d o (fun q => hd ?_) e) hf
    have q' : d = N + 5 ∨ d = N + 4 ∨ d = N ∨ d = N + 1 ∨ d = N + 2 := by simpa using q
    rcases q' with q | q | q | q | q <;> rw [q] <;> simp [cells6]
  self := fun A i s Q E st h => wpAny_pyIter_zip st.1 h

def iZip3 (K : PySem.W.Frag) (ta : TA) : TI := fun σ H R => ta σ H fun vs H1 => ∃ a b c xs ys zs, vs = [.ref a, .ref b, .ref c] ∧ (SqT K H1 a xs ∧ SqT K H1 b ys ∧ SqT K H1 c zs) ∧ R (ItzT3 K a b c) H1
theorem pi_zip3 {X : Cx} {e e2 e3 : Expr} {ta : TA} {p pos tpos : Pos} {elts : List Expr} {kk : Nat} (hg : Gl X "zip") (hm : X.mg "zip" = none) (ha : PA X [e, e2, e3] ta)
    (hs : starEach [e, e2, e3] X.env = (false, eval e X.env) :: starEach [e2, e3] X.env := by rfl) (hpl : (backTo pos (starEach [e2, e3] X.env)).any (·.1) = false := by rfl) :
    PI X (.Tuple elts kk tpos) (.Call (.Name "zip" p) [e, e2, e3] [] pos) (iZip3 X.K ta) := by
  refine ⟨fun pins s σ H R I h => ?_⟩
  refine Call_ (ld_blt I hg hm PyProof.Rows.boot_zip (PyProof.Rows.callWith_type1 (thn (ha.run pos pins s σ H _ I h) fun us s1 ⟨vs, H1, I1, r1, q1⟩ => ?_) hs hpl))
  obtain ⟨a, b, c, xs, ys, zs, rfl, ⟨qx, qy, qz⟩, q⟩ := q1
  obtain ⟨ia, va, pa, _⟩ := I1.tuple qx
  obtain ⟨ib, vb, pb, _⟩ := I1.tuple qy
  obtain ⟨ic, vc, pc, _⟩ := I1.tuple qz
  have eus : us = [.ref a, .ref b, .ref c] := by
    cases r1 with
    | cons r rr =>
      cases rr with
      | cons r' rr =>
        cases rr with
        | cons r'' rr =>
          cases rr
          cases r
          cases r'
          cases r''
          rfl
  subst eus
  obtain ⟨oa, ea, _⟩ := id pa
  obtain ⟨ob, eb, _⟩ := id pb
  obtain ⟨oc, ec, _⟩ := id pc
  refine zip_begins3 (begins_tuple a ia.toArray) (begins_tuple b ib.toArray) (begins_tuple c ic.toArray) pa pb pc fun h' hz hI hO h1 h2 h3 hsz hk => wpAny_pyIter_zip hz ?_
  refine ⟨s1.heap.objs.size + 5, cells6 s1.heap.objs.size, _, _, H1, rfl, I1.kept (t' := s1.toks) hk, turn_z3 (Heap.lt_size ea) (Heap.lt_size eb) (Heap.lt_size ec), ⟨hz, hI, ⟨_, _, _, hO⟩, ⟨_, h1, rfl, rfl⟩, ⟨_, h2, rfl, rfl⟩, ⟨_, h3, rfl, rfl⟩⟩, fun d hd => ?_, q⟩
  have hle : s1.heap.objs.size ≤ d := by
    rcases mem6 hd with z | z | z | z | z | z <;> rw [z] <;> first | exact Nat.le_add_right _ _ | exact Nat.le_refl _
  exact I1.fpOk hle (I1.hok.fresh hle)
end K21
/-! KMax: max(l, default=d) of a list of ints that is not empty. -/
namespace K21
open PySem PySem.Spec PyProof.Rows L2
section
variable {prog : Program} {w : World} {A : Around}
/-- a function of the table that goes on in a loop of its own, called with keywords -/
theorem tree_kw {E : Value → Shared → Prop} {s : Shared} {f : String} {bb : Builtin} {ps : List Value} {ks : List (Str × Value)} {Q : Value → Shared → Prop} (k0 : builtinKind f = none) (k1 : plainId f = true) (k2 : entryFor table f = some bb) (k3 : argsOk f ⟨ps, ks⟩)
    (go : wpAny (model prog w) A.in1 (bb ⟨ps, ks⟩) (fun fin z => ∃ c, fin = .again c ∧ c.quiet = true ∧
      codeAny (model prog w) A c (fun r y => match r with | .ok (.ret v) => Q v y | .ok _ => False | .error e => E e y) z) E s) : wpAny (model prog w) A (call (.builtin f) ps ks) Q E s := by
  have go2 : wpAny (model prog w) A.in1 (bb ⟨ps, ks⟩) (fun fin z => match fin with
      | .done g => (match (Except.ok g : Result) with | .ok (.ret v) => Q v z | .ok _ => False | .error e => E e z)
      | .again c => c.quiet = true ∧ codeAny (model prog w) A c (fun r y => match r with | .ok (.ret v) => Q v y | .ok _ => False | .error e => E e y) z) E s :=
    wpAny_mono go (fun fin z ⟨c, e, q⟩ => by subst e; exact q) fun _ _ q => q
  refine wpAny_call (codeAny_call_builtin k1 k2 ?_)
  simp only [checkBuiltinCall, k0]
  cases hg : Manifest.signature? f with
  | none => exact wpAny_pure go2
  | some sg =>
    have k4 : Bind.checkArgs f sg ⟨ps, ks⟩ = pure () := by simpa only [argsOk, hg] using k3
    simp only [k4]
    exact wpAny_pure go2
variable {R : Result → Shared → Prop} {I : Addr} {fp wr : List Addr} {n : Nat} {P : Nat → Value → Prop} {St : Nat → Heap → Prop} {ks : List (Str × Value)}
theorem nm_loop : (toString "max" ++ toString ".loop" : String) = "max.loop" := by decide
theorem maxD_loop (W : Walks prog w A.in1 I fp wr n P St) (bt : Nat → Nat → Bool) (cmp : CmpOf prog w A.in1 .Gt P bt) (S : Addr) (hS : S ∉ fp) :
    ∀ (m j : Nat), j + 1 + m = n → ∀ (s : Shared) (best : Value) (ep : Nat), St (j + 1) s.heap → P (argBest bt j) best → s.heap.get? S = some { cls := .type "list", dict := none, data := .seq #[best, best] ep, slots := #[] } →
    (∀ v g tk, P (argBest bt (n - 1)) v → (∀ b o, b ∉ wr → b ≠ S → s.heap.get? b = some o → g.get? b = some o) → R (.ok (.ret v)) { s with heap := g, toks := tk }) →
    codeAny (model prog w) A (.builtin "max.loop" ⟨[.ref I, .none, .ref S], ks⟩) R s
  | 0, j, hj, s, best, ep, st, hb, hs, hR => by
    have nw : S ∉ wr := fun z => hS (W.sub _ z)
    refine codeAny_builtin F.entry_max_loop ?_
    rw [Around.under_plainId F.plain_max_loop _]
    show wpAny _ _ (seqItems? (.ref S) >>= _) _ _ _
    refine wpAny_bind (wpAny_seqItems hs rfl ?_)
    show wpAny _ _ (tryCatch (pyNext (.ref I)) _ >>= _) _ _ _
    have st' : St n s.heap := by
      rw [← hj]
      exact st
    refine wpAny_bind (wpAny_tryCatch (W.done s _ _ st' fun g tk k => ?_))
    have hs' := k S _ nw hs
    show wpAny _ _ (updateSeq S (fun _ => #[]) >>= _) _ _ _
    refine wpAny_bind (wpAny_updateSeq hs' rfl (wpAny_bind (wpAny_letGo (wpAny_pure ?_))))
    have ej : n - 1 = j := by omega
    refine hR best _ tk (by rw [ej]; exact hb) fun b o bw bS e => ?_
    exact (Heap.get?_update_other _ _ (Ne.symm bS)).trans (k b o bw e)
  | m + 1, j, hj, s, best, ep, st, hb, hs, hR => by
    have nw : S ∉ wr := fun z => hS (W.sub _ z)
    refine codeAny_builtin F.entry_max_loop ?_
    rw [Around.under_plainId F.plain_max_loop _]
    show wpAny _ _ (seqItems? (.ref S) >>= _) _ _ _
    refine wpAny_bind (wpAny_seqItems hs rfl ?_)
    show wpAny _ _ (tryCatch (pyNext (.ref I)) _ >>= _) _ _ _
    refine wpAny_bind (wpAny_tryCatch (W.item (j + 1) s _ _ (by omega) st fun v g tk pv st' k => ?_))
    have hs' := k S _ nw hs
    show wpAny _ _ (tryCatch (holding [v, v] (richCompare .Gt v best >>= _)) _ >>= _) _ _ _
    refine wpAny_bind (wpAny_tryCatch (wpAny_holding (wpAny_bind (cmp (j + 1) (argBest bt j) v best _ _ _ pv hb ?_))))
    refine wpAny_bind (wpAny_holding (wpAny_truthy_bool (wpAny_bind (wpAny_letGo (wpAny_pure ?_)))))
    cases hbt : bt (j + 1) (argBest bt j) with
    | true =>
      simp only [if_true]
      refine wpAny_bind (wpAny_updateSeq hs' rfl (wpAny_bind (wpAny_letGo ?_)))
      rw [nm_loop]
      refine wpAny_pure ⟨plainId_quiet F.plain_max_loop _, maxD_loop W bt cmp S hS m (j + 1) (by omega) _ v _ (W.frame _ _ _ st' fun b bf o e => ?_) ?_ (Heap.get?_update_self _ hs' rfl) fun v' g' tk' pv' k' => ?_⟩
      · have nb : S ≠ b := fun z => hS (z ▸ bf)
        exact (Heap.get?_update_other _ _ nb).trans e
      · simp only [argBest, hbt, if_true]
        exact pv
      · refine hR v' g' tk' pv' fun b o bw bS e => k' b o bw bS ?_
        exact (Heap.get?_update_other _ _ (Ne.symm bS)).trans (k b o bw e)
    | false =>
      simp only [Bool.false_eq_true, if_false]
      refine wpAny_bind (wpAny_letGo ?_)
      rw [nm_loop]
      refine wpAny_pure ⟨plainId_quiet F.plain_max_loop _, maxD_loop W bt cmp S hS m (j + 1) (by omega) _ best ep st' ?_ hs' fun v' g' tk' pv' k' => ?_⟩
      · simp only [argBest, hbt, Bool.false_eq_true, if_false]
        exact hb
      · exact hR v' g' tk' pv' fun b o bw bS e => k' b o bw bS (k b o bw e)
theorem maxD_start (W : Walks prog w A.in1 I fp wr n P St) (bt : Nat → Nat → Bool) (cmp : CmpOf prog w A.in1 .Gt P bt) (S : Addr) (hS : S ∉ fp) (hn : 0 < n) {s : Shared} {ep : Nat} (st : St 0 s.heap)
    (hs : s.heap.get? S = some { cls := .type "list", dict := none, data := .seq #[] ep, slots := #[] })
    (hR : ∀ v g tk, P (argBest bt (n - 1)) v → (∀ b o, b ∉ wr → b ≠ S → s.heap.get? b = some o → g.get? b = some o) → R (.ok (.ret v)) { s with heap := g, toks := tk }) :
    codeAny (model prog w) A (.builtin "max.loop" ⟨[.ref I, .none, .ref S], ks⟩) R s := by
  have nw : S ∉ wr := fun z => hS (W.sub _ z)
  refine codeAny_builtin F.entry_max_loop ?_
  rw [Around.under_plainId F.plain_max_loop _]
  show wpAny _ _ (seqItems? (.ref S) >>= _) _ _ _
  refine wpAny_bind (wpAny_seqItems hs rfl ?_)
  show wpAny _ _ (tryCatch (pyNext (.ref I)) _ >>= _) _ _ _
  refine wpAny_bind (wpAny_tryCatch (W.item 0 s _ _ hn st fun v g tk pv st' k => ?_))
  have hs' := k S _ nw hs
  show wpAny _ _ (updateSeq S (fun _ => #[v, v]) >>= _) _ _ _
  refine wpAny_bind (wpAny_updateSeq hs' rfl ?_)
  rw [nm_loop]
  refine wpAny_pure ⟨plainId_quiet F.plain_max_loop _, maxD_loop W bt cmp S hS (n - 1) 0 (by omega) _ v _ (W.frame _ _ _ st' fun b bf o e => ?_) pv (Heap.get?_update_self _ hs' rfl) fun v' g' tk' pv' k' => ?_⟩
  · have nb : S ≠ b := fun z => hS (z ▸ bf)
    exact (Heap.get?_update_other _ _ nb).trans e
  · refine hR v' g' tk' pv' fun b o bw bS e => k' b o bw bS ?_
    exact (Heap.get?_update_other _ _ (Ne.symm bS)).trans (k b o bw e)
theorem args_maxD (a d : Value) : argsOk "max" ⟨[a], [(Str.ofString "default", d)]⟩ := by unfold argsOk; kernel_rfl
theorem bind_maxD (d : Value) : Builtin.Builtins.bindParams "max" ["key", "default"] 0 ⟨[], [(Str.ofString "default", d)]⟩ = pure [none, some d] := by
  first | rfl | kernel_rfl
theorem maxD_ints {xs : Array (Int × Tok)} {l : Addr} {d : Value} {E : Value → Shared → Prop} {s : Shared} {Q : Value → Shared → Prop} (hh : A.handled = none) (hl : s.heap.IsList l (intItems xs)) (hne : 0 < xs.size)
    (h : ∀ v g tk, (intItems xs)[argBest (fun i j => decide (numAt xs i > numAt xs j)) (xs.size - 1)]? = some v → (∀ b o, s.heap.get? b = some o → g.get? b = some o) → Q v { s with heap := g, toks := tk }) :
    wpAny (model prog w) A (call (.builtin "max") [.ref l] [(Str.ofString "default", d)]) Q E s := by
  refine tree_kw F.kind_max F.plain_max F.entry_max (args_maxD _ _) ?_
  show wpAny _ _ (Builtin.Builtins.bindParams "max" ["key", "default"] 0 ⟨[], [(Str.ofString "default", d)]⟩ >>= _) _ _ _
  refine wpAny_bind (wpAny_of_eq (bind_maxD d) (wpAny_bind (wpAny_pure (wpAny_bind ?_))))
  refine iter_intList hl fun s2 e st hfp hlI => ?_
  subst e
  refine wpAny_bind (wpAny_newObj_type ?_)
  have hS : ∀ {z : Addr} {fp : List Addr}, (∀ b ∈ fp, b < z) → z ∉ fp := fun hb hm => Nat.lt_irrefl _ (hb _ hm)
  rw [nm_loop]
  have W := Walks.list (prog := prog) (w := w) (A := A.in1) hh _ l hlI (intItems xs)
  refine wpAny_pure ⟨_, rfl, plainId_quiet F.plain_max_loop _, maxD_start W _ (CmpOf.ints_gt (numAt xs) fun _ _ => intItems_at) _ (hS hfp) (by simpa [intItems] using hne)
    (W.frame _ _ _ st fun b _ o e => Heap.get?_push_of_some _ e) (Heap.get?_push_size _ rfl) fun v g tk pv k => ?_⟩
  refine h v g tk (by simpa [intItems] using pv) (old_kept fun b o bw e => k b o bw ?_ (Heap.get?_push_of_some _ e))
  exact Nat.ne_of_lt (Heap.lt_size e)
end
def rMaxD (K : PySem.W.Frag) : List V → List V → Hp → VK → Prop := fun vs zs H Q => ∃ (a : Addr) (ns : List Int) (d : V), vs = [V.ref a] ∧ zs = [d] ∧ SqL K H a (ns.map V.int) ∧ 0 < ns.length ∧ ∀ m, m ∈ ns → (∀ y, y ∈ ns → y ≤ m) → Q (.int m) H
theorem cr_maxD {X : Cx} (hc : X.calm = true) : CallRK X (.builtin "max") [Str.ofString "default"] (rMaxD X.K) := by
  intro pins s σ H xs zs us ws Q I r rz h
  obtain ⟨a, ns, d, rfl, rfl, hs, hne, q⟩ := h
  obtain ⟨its, rv, hl, _⟩ := I.list hs
  rw [Vals.ref1 r]
  obtain ⟨u, rfl, _⟩ := vals1 rz
  obtain ⟨ps, e⟩ := rv.ints.allInts.items
  have hn : numsOf (intItems ps).toList = ns := by
    rw [← e]
    exact rv.ints.numsOf
  rw [nums_intItems] at hn
  subst hn
  have hl' := hl.isList
  rw [e] at hl'
  have hsz : 0 < ps.size := by simpa using hne
  refine maxD_ints (I.ok.hd hc) hl' hsz fun v g tk hv hk => ?_
  obtain ⟨t, rfl⟩ := intItems_at hv
  obtain ⟨h1, h2⟩ := argBest_gt (numAt ps) (ps.size - 1)
  refine ⟨.int _, H, I.kept hk, ⟨_, rfl⟩, q _ ?_ fun y hy => ?_⟩
  · rw [numAt_eq]
    exact PySem.getD_mem (by rw [List.length_map, Array.length_toList]; omega)
  · obtain ⟨j, hj, rfl⟩ := mem_getD hy
    rw [List.length_map, Array.length_toList] at hj
    rw [← numAt_eq]
    exact h2 j (by omega)
end K21
/-! KEv: what evaluates to what, for this program: defs by their promises, comprehensions by the list that they make. -/
namespace K21
open PySem PySem.Spec PyProof.Rows L2 Evl

/-! ### promises -/
/-- a value that hangs on nothing but what stands -/
abbrev spF (pre : List V → Hp → V → Prop) : Sp := fun vs H Q _ => ∃ z, pre vs H z ∧ ∀ H', Ex H H' → Q z H'
/-- a new tuple -/
abbrev spU (pre : List V → Hp → List V → Prop) : Sp := fun vs H Q _ => ∃ xs, pre vs H xs ∧ ∀ p H', H p = none → Ex H H' → H' p = some (.tup xs) → Q (.ref p) H'
theorem spF_v {pre : List V → Hp → V → Prop} {vs : List V} {H : Hp} {z : V} (h : ∀ H1, Ex H H1 → pre vs H1 z) : SpV (spF pre) (vs ++ []) H z := fun H1 e Q q E => by
  rw [List.append_nil]
  exact ⟨z, h H1 e, q⟩
def SpU (sp : Sp) (vs : List V) (H : Hp) (xs : List V) : Prop := ∀ H1, Ex H H1 → ∀ Q : VK, (∀ p H2, H1 p = none → Ex H1 H2 → H2 p = some (.tup xs) → Q (.ref p) H2) → ∀ E : XK, sp vs H1 Q E
theorem spU_v {pre : List V → Hp → List V → Prop} {vs : List V} {H : Hp} {xs : List V} (h : ∀ H1, Ex H H1 → pre vs H1 xs) : SpU (spU pre) (vs ++ []) H xs := fun H1 e Q q E => by
  rw [List.append_nil]
  exact ⟨xs, h H1 e, q⟩
theorem eu_call {σ : L2.St} {H : Hp} {sp : Sp} {dvs vs xs : List V} {E : XK} {ta : TA} (h : EvA ta σ H vs) (hs : SpU sp (vs ++ dvs) H xs) : EvU (tCall sp dvs E ta) σ H xs := fun H1 e Q q =>
  h H1 e _ fun H2 e2 => hs H2 (e.trans e2) Q (fun p H3 hp e3 h3 => q p H3 (fresh_back e2 hp) (e2.trans e3) h3) E

/-! ### a def as it is called -/
def Def (P : Program) (w : World) (K : PySem.W.Frag) (mg : Str → Option Value) (base : Heap) (k : Nat) (x : Str) (ps : List Str) (sp : Sp) : Prop :=
  ∃ f fd, FnOk P w K mg base CX0 k f fd ps sp ∧ mg x = some (.ref f) ∧ PySem.W.keepIn K (.ref f) = true ∧ Binds K fd ps [] ∧ ∃ st, Fun K x x st f fd
/-- what the top has left of a def -/
def FunX (K : PySem.W.Frag) (mg : Str → Option Value) (x : Str) (st : Stmt) (ps : List Str) : Prop :=
  ∃ f fd, Fun K x x st f fd ∧ mg x = some (.ref f) ∧ Binds K fd ps []
section
variable {P : Program} {w : World} {K : PySem.W.Frag} {mg : Str → Option Value} {base : Heap}
theorem FunX.def_ {x : Str} {st : Stmt} {ps : List Str} {k : Nat} {sp : Sp} (F : FunX K mg x st ps) (h : ∀ f fd, Fun K x x st f fd → FnOk P w K mg base CX0 k f fd ps sp) : Def P w K mg base k x ps sp := by
  obtain ⟨f, fd, F1, hm, hb⟩ := F
  exact ⟨f, fd, h f fd F1, hm, F1.kp, hb, st, F1⟩
theorem Def.imp {x : Str} {ps : List Str} {k : Nat} {sp sp' : Sp} (D : Def P w K mg base k x ps sp) (h : ∀ vs H Q E, sp' vs H Q E → sp vs H Q E) : Def P w K mg base k x ps sp' := by
  obtain ⟨f, fd, F1, hm, hk, hb⟩ := D
  exact ⟨f, fd, F1.imp h, hm, hk, hb⟩
abbrev kwNames : List Str := ["vector", "region", "kind"]
/-- a def of (kind, region, vector) that is called by (vector=, region=, kind=) -/
def DefK (P : Program) (w : World) (K : PySem.W.Frag) (mg : Str → Option Value) (base : Heap) (k : Nat) (x : Str) (ps : List Str) (sp : Sp) : Prop :=
  ∃ f fd, FnOk P w K mg base CX0 k f fd ps sp ∧ mg x = some (.ref f) ∧ PySem.W.keepIn K (.ref f) = true ∧ KBinds K fd ps kwNames (fun us ws => us ++ ws.reverse) (fun vs zs => vs ++ zs.reverse)
theorem Def.toK {x : Str} {st : Stmt} {ps : List Str} {k : Nat} {sp : Sp} (D : Def P w K mg base k x ps sp) (F : FunX K mg x st ps)
    (h : ∀ (kV doc pm : Value) (an : Option Addr) (cdv ct : Value) (us ws : List Value), (us ++ ws.reverse).length = ps.length → bindArgs (PySem.W.fnOf x x (defArgs st) (defBody st) (defScope st) .none kV doc pm an cdv ct) ⟨us, kwNames.zip ws⟩ = pure (ps.zip (us ++ ws.reverse))) :
    DefK P w K mg base k x ps sp := by
  obtain ⟨f, fd, F1, hm, hk, hb, st', G⟩ := D
  obtain ⟨f', fd', G', hm', _⟩ := F
  have ef : f' = f := by
    rw [hm] at hm'
    cases hm'
    rfl
  subst ef
  obtain ⟨oc, od, kV, doc, pm, an, cdv, ct, osl, e1, lk, _⟩ := G.ex
  obtain ⟨oc', od', kV', doc', pm', an', cdv', ct', osl', e2, lk', _⟩ := G'.ex
  have efd : fd' = fd := by
    rw [lk] at lk'
    cases lk'
    rfl
  subst efd
  refine ⟨f', fd', F1, hm, hk, fun s us ws _ hl => .of_eq ?_, fun r r' => Vals.append r (Vals.reverse r')⟩
  rw [e2]
  exact h kV' doc' pm' an' cdv' ct' us ws hl
variable {X : Cx}
theorem pe_D {x : Str} {ps : List Str} {k : Nat} {sp : Sp} {e : Expr} {es : List Expr} {p pos : Pos} {t : TA} (D : Def X.prog X.w X.K X.mg X.base k x ps sp) (hr : Room k X.A) (ha : PA X (e :: es) t) (hg : Gl X x := by rfl) (hdb : (x == ("__debug__" : Str)) = false := by decide)
    (he : starEach (e :: es) X.env = (false, eval e X.env) :: starEach es X.env := by rfl) (hpl : (backTo pos (starEach es X.env)).any (·.1) = false := by rfl) : PE X (.Call (.Name x p) (e :: es) [] pos) (tCall sp [] E0 t) := by
  obtain ⟨f, fd, F, hm, hk, hb, _⟩ := D
  exact pe_call F hr hg hm hk hb .nil pass0 ha hdb he hpl
def tCallK0 (sp : Sp) (tk : TA) : TE := fun σ H Q => tk σ H fun zs H2 => sp zs.reverse H2 Q E0
theorem pe_DK {x : Str} {ps : List Str} {k : Nat} {sp : Sp} {kws : List Keyword} {p pos : Pos} {tk : TA} (D : DefK X.prog X.w X.K X.mg X.base k x ps sp) (hr : Room k X.A) (hkw : PK X kws tk) (hg : Gl X x := by rfl) (hdb : (x == ("__debug__" : Str)) = false := by decide)
    (hall : (backToKw pos (keywordEach kws X.env)).all (·.1.isSome) = true := by rfl) (hks : (backToKw pos (keywordEach kws X.env)).filterMap (·.1) = kwNames := by rfl)
    (hpl : ((backTo pos (starEach [] X.env)).any (·.1) || (backToKw pos (keywordEach kws X.env)).any (·.1.isNone)) = false := by rfl) : PE X (.Call (.Name x p) [] kws pos) (tCallK0 sp tk) := by
  obtain ⟨f, fd, F, hm, hk, hb⟩ := D
  refine ⟨fun pins s σ H Q I h => ?_⟩
  refine wpAny_Call_Name_kw (ld_glob I hg hm ?_ hdb)
  refine PySem.W.callWith_KW0 (h₀ := X.base) I.ok.mod.kin hk hall (thn (hkw.run pos pins s σ H _ I h) fun ws s2 ⟨zs, H2, I2, rz, q2⟩ => ⟨I2.kIn, ?_⟩) hpl
  rw [hks]
  exact run_fnk F hr hb pass0 I2 .nil rz q2
end

/-! ### vectors, kinds, regions where they stand -/
def Kd.s : Kd → Str
  | .sq => "square"
  | .su => "sum"
  | .mo => "most"
  | .un => "unlike"
theorem dec_sq (k : Kd) : decide (V.str k.s = V.str "square") = k.isSq := by cases k <;> decide +kernel
theorem dec_un (k : Kd) : decide (V.str k.s = V.str "unlike") = k.isUn := by cases k <;> decide +kernel
theorem dec_mo (k : Kd) : decide (V.str k.s = V.str "most") = k.isMo := by cases k <;> decide +kernel
abbrev vi (zs : List Int) : List V := zs.map V.int
def VecAt (K : PySem.W.Frag) (H : Hp) (v : V) (zs : List Int) : Prop := ∃ a, v = .ref a ∧ SqT K H a (vi zs)
theorem VecAt.mono {K : PySem.W.Frag} {H H' : Hp} {v : V} {zs : List Int} (e : Ex H H') (h : VecAt K H v zs) : VecAt K H' v zs := by
  obtain ⟨a, rfl, h⟩ := h
  exact ⟨a, rfl, ex_t e h⟩
theorem VecAt.of {K : PySem.W.Frag} {H : Hp} {a : Addr} {zs : List Int} (h : H a = some (.tup (vi zs))) : VecAt K H (.ref a) zs := ⟨a, rfl, st_of h⟩
def RegAt (K : PySem.W.Frag) (H : Hp) (v : V) : Reg → Prop
  | .ball c r => ∃ a b, v = .ref a ∧ SqT K H a [.str "ball", b, .int r] ∧ VecAt K H b c
  | .box lo hi => ∃ a b d, v = .ref a ∧ SqT K H a [.str "box", b, d] ∧ VecAt K H b lo ∧ VecAt K H d hi
  | .cell c l g => ∃ a b, v = .ref a ∧ SqT K H a [.str "cell", b, .int l, .int g] ∧ VecAt K H b c
theorem RegAt.mono {K : PySem.W.Frag} {H H' : Hp} {v : V} {R : Reg} (e : Ex H H') (h : RegAt K H v R) : RegAt K H' v R := by
  cases R with
  | ball c r =>
    obtain ⟨a, b, rfl, h1, h2⟩ := h
    exact ⟨a, b, rfl, ex_t e h1, h2.mono e⟩
  | box lo hi =>
    obtain ⟨a, b, d, rfl, h1, h2, h3⟩ := h
    exact ⟨a, b, d, rfl, ex_t e h1, h2.mono e, h3.mono e⟩
  | cell c l g =>
    obtain ⟨a, b, rfl, h1, h2⟩ := h
    exact ⟨a, b, rfl, ex_t e h1, h2.mono e⟩

/-! ### single steps -/
section
variable {K : PySem.W.Frag} {σ : L2.St} {H H' : Hp} {ta tb te tx : TE} {t u : TT} {x y z v : V} {r : R2}
/-- a value whatever the test -/
theorem ev_ite {b : Bool} (h : EvT t σ H b) (h1 : b = true → Ev ta σ H x) (h2 : b = false → Ev tb σ H y) : Ev (tIf t ta tb) σ H (if b = true then x else y) := by
  refine ev_if h (fun e => ?_) (fun e => ?_)
  · subst e
    exact h1 rfl
  · subst e
    exact h2 rfl
theorem ite_int {b : Bool} {i j : Int} : (if b = true then V.int i else V.int j) = V.int (if b = true then i else j) := by
  cases b <;> rfl
theorem ev_iteI {b : Bool} {i j : Int} (h : EvT t σ H b) (h1 : b = true → Ev ta σ H (.int i)) (h2 : b = false → Ev tb σ H (.int j)) : Ev (tIf t ta tb) σ H (.int (if b = true then i else j)) := by
  rw [← ite_int]
  exact ev_ite h h1 h2
theorem ev_add {i j : Int} (ha : Ev ta σ H (.int i)) (hb : Ev tb σ H (.int j)) : Ev (tOp (rI0 fun i j => .int (i + j)) ta tb) σ H (.int (i + j)) := ev_op ha hb rv_I0
theorem ev_sub {i j : Int} (ha : Ev ta σ H (.int i)) (hb : Ev tb σ H (.int j)) : Ev (tOp (rI0 fun i j => .int (i - j)) ta tb) σ H (.int (i - j)) := ev_op ha hb rv_I0
theorem ev_mul {i j : Int} (ha : Ev ta σ H (.int i)) (hb : Ev tb σ H (.int j)) (hc : CMul i j) : Ev (tOp (rI CMul fun i j => .int (i * j)) ta tb) σ H (.int (i * j)) := ev_op ha hb (rv_I hc)
/-- a test of two ints -/
theorem et_I {f : Int → Int → Bool} {i j : Int} (ha : Ev ta σ H (.int i)) (hb : Ev tb σ H (.int j)) : EvT (tTest (tOp (rI0 fun i j => .bl (f i j)) ta tb)) σ H (f i j) := et_test (ev_op ha hb rv_I0)
theorem et_eq (ha : Ev ta σ H x) (hb : Ev tb σ H y) (h : scal x y = true := by rfl) : EvT (tTest (tOp rEq ta tb)) σ H (decide (x = y)) := et_test (ev_op ha hb (rv_eq h))
theorem et_ne (ha : Ev ta σ H x) (hb : Ev tb σ H y) (h : scal x y = true := by rfl) : EvT (tTest (tOp rNe ta tb)) σ H (!decide (x = y)) := et_test (ev_op ha hb (rv_ne h))
theorem et_sq {k : Kd} (ha : Ev ta σ H (.str k.s)) (hb : Ev tb σ H (.str "square")) : EvT (tTest (tOp rEq ta tb)) σ H k.isSq := et_is (et_eq ha hb) (dec_sq k)
theorem et_un {k : Kd} (ha : Ev ta σ H (.str k.s)) (hb : Ev tb σ H (.str "unlike")) : EvT (tTest (tOp rEq ta tb)) σ H k.isUn := et_is (et_eq ha hb) (dec_un k)
theorem et_mo {k : Kd} (ha : Ev ta σ H (.str k.s)) (hb : Ev tb σ H (.str "most")) : EvT (tTest (tOp rEq ta tb)) σ H k.isMo := et_is (et_eq ha hb) (dec_mo k)
theorem ev_ixT {p : Addr} {xs : List V} {j : Nat} (ha : Ev ta σ H (.ref p)) (hb : Ev tb σ H (.int (j : Int))) (h : SqT K H p xs) (hj : xs[j]? = some v) : Ev (tOp (rIxT K) ta tb) σ H v := ev_op ha hb (rv_ixT h (atI_nat hj))
theorem ev_ixV {w : V} {zs : List Int} {j : Nat} {i : Int} (ha : Ev ta σ H w) (hb : Ev tb σ H (.int (j : Int))) (h : VecAt K H w zs) (hj : zs[j]? = some i) : Ev (tOp (rIxT K) ta tb) σ H (.int i) := by
  obtain ⟨a, rfl, h⟩ := h
  exact ev_ixT ha hb h (by rw [List.getElem?_map, hj] <;> rfl)
/-- a call on values that neither makes nor changes an object -/
theorem ev_blt {ta : TA} {rr : List V → Hp → VK → Prop} {vs : List V} (h : EvA ta σ H vs) (hr : ∀ H1, Ex H H1 → ∀ Q : VK, Q z H1 → rr vs H1 Q) : Ev (tCB rr ta) σ H z := fun H1 e Q q =>
  h H1 e _ fun H2 e2 => hr H2 (e.trans e2) Q (q H2 e2)
/-- .. that takes a new list -/
theorem ev_bltL {xs : List V} {rr : List V → Hp → VK → Prop} (h : EvL te σ H xs) (hr : ∀ p H1, H1 p = some (.lst xs) → Ex H H1 → ∀ Q : VK, Q z H1 → rr [.ref p] H1 Q) : Ev (tCB rr (tCons te tNil)) σ H z := fun H1 e Q q =>
  h H1 e _ fun p H2 _ e2 hp => hr p H2 hp (e.trans e2) Q (q H2 e2)
/-- tuple(a new list) -/
theorem eu_tupL {xs : List V} {rr : List V → Hp → VK → Prop} (h : EvL te σ H xs) (hr : ∀ p H1, H1 p = some (.lst xs) → Ex H H1 → ∀ Q : VK, (∀ l, H1 l = none → Q (.ref l) (upd H1 l (.tup xs))) → rr [.ref p] H1 Q) : EvU (tCB rr (tCons te tNil)) σ H xs := fun H1 e Q q =>
  h H1 e _ fun p H2 _ e2 hp => hr p H2 hp (e.trans e2) Q fun l hl => q l _ (fresh_back e2 hl) (e2.trans (Ex.new hl)) upd_same
/-- a def that takes a new list, a new tuple, as its last argument -/
theorem ev_callL2 {sp : Sp} {E : XK} {xs : List V} {w : V} (ha : Ev ta σ H w) (hb : EvL tb σ H xs) (hs : ∀ p H1, H1 p = some (.lst xs) → Ex H H1 → SpV sp ([w, .ref p] ++ []) H1 z) : Ev (tCall sp [] E (tCons ta (tCons tb tNil))) σ H z := fun H1 e Q q =>
  ha H1 e _ fun H2 e2 => hb H2 (e.trans e2) _ fun p H3 _ e3 hp => hs p H3 hp ((e.trans e2).trans e3) H3 (Ex.refl H3) Q (fun H4 e4 => q H4 ((e2.trans e3).trans e4)) E
end

/-! ### statements, each with what follows -/
section
variable {K : PySem.W.Frag} {σ : L2.St} {H H' : Hp} {ta tb te tx : TE} {t u : TT} {x y z v : V} {D : Ends} {tu tw w : TS}
theorem q_if {b : Bool} (h : EvT t σ H b) (h1 : b = true → ∀ H1, Ex H H1 → tu { D with nx := w D } σ H1) (h2 : b = false → ∀ H1, Ex H H1 → w D σ H1) : tSeq (tIfS t tu tNext) w D σ H :=
  s_if (D := { D with nx := w D }) h h1 h2
theorem q_ife {b : Bool} (h : EvT t σ H b) (h1 : b = true → ∀ H1, Ex H H1 → tu { D with nx := w D } σ H1) (h2 : b = false → ∀ H1, Ex H H1 → tw { D with nx := w D } σ H1) : tSeq (tIfS t tu tw) w D σ H :=
  s_if (D := { D with nx := w D }) h h1 h2
theorem q_asg {i : Nat} (h : Ev te σ H v) (k : ∀ H1, Ex H H1 → w D (σ.set i (some v)) H1) : tSeq (tAsg te (gName i)) w D σ H := s_asg (D := { D with nx := w D }) h k
theorem q_asgL {i : Nat} {xs : List V} (h : EvL te σ H xs) (k : ∀ p H1, H p = none → Ex H H1 → H1 p = some (.lst xs) → w D (σ.set i (some (.ref p))) H1) : tSeq (tAsg te (gName i)) w D σ H := s_asgL (D := { D with nx := w D }) h k
theorem q_asgU {i : Nat} {xs : List V} (h : EvU te σ H xs) (k : ∀ p H1, H p = none → Ex H H1 → H1 p = some (.tup xs) → w D (σ.set i (some (.ref p))) H1) : tSeq (tAsg te (gName i)) w D σ H := s_asgU (D := { D with nx := w D }) h k
/-- a, b = x, y -/
theorem q_par {i j : Nat} {ta : TA} (h : EvA ta σ H [x, y]) (k : ∀ H1, Ex H H1 → w D ((σ.set i (some x)).set j (some y)) H1) : tSeq (tPar i j ta) w D σ H := h H (Ex.refl H) _ fun H1 e => ⟨x, y, rfl, k H1 e⟩
/-- a, b = a new pair -/
theorem q_unp {i j : Nat} (h : EvU te σ H [x, y]) (k : ∀ H1, Ex H H1 → w D ((σ.set i (some x)).set j (some y)) H1) : tSeq (tAsg te (gTup K 2 (gCons (gName i) (gCons (gName j) gNil)))) w D σ H :=
  h H (Ex.refl H) _ fun p H1 _ e hp => ⟨p, [x, y], rfl, st_of hp, rfl, x, [y], rfl, y, [], rfl, rfl, k H1 e⟩
end

section
variable {K : PySem.W.Frag} {σ : L2.St} {H H' : Hp} {ta tb te tx : TE} {t u : TT} {x y z v : V} {D : Ends} {tu tw w : TS}
/-- a, b = a pair that stands -/
theorem q_unpT {i j : Nat} {p : Addr} (h : Ev te σ H (.ref p)) (hp : SqT K H p [x, y]) (k : ∀ H1, Ex H H1 → w D ((σ.set i (some x)).set j (some y)) H1) : tSeq (tAsg te (gTup K 2 (gCons (gName i) (gCons (gName j) gNil)))) w D σ H :=
  h H (Ex.refl H) _ fun H1 e => ⟨p, [x, y], rfl, ex_t e hp, rfl, x, [y], rfl, y, [], rfl, rfl, k H1 e⟩
/-- a loop, then the rest, with a word between them -/
theorem q_for {tl : TS} (Mid : L2.St → Hp → Prop) (h : ∀ nxt : L2.St → Hp → Prop, (∀ σ' H', Mid σ' H' → nxt σ' H') → tl { D with nx := nxt } σ H) (hr : ∀ σ' H', Mid σ' H' → w D σ' H') : tSeq tl w D σ H := h (w D) hr
theorem eu_if {b : Bool} {xs : List V} (h : EvT t σ H b) (h1 : b = true → EvU ta σ H xs) (h2 : b = false → EvU tb σ H xs) : EvU (tIf t ta tb) σ H xs := fun H1 e Q q => h H1 e _ fun H2 e2 => by
  cases b with
  | true =>
    show ta σ H2 Q
    exact h1 rfl H2 (e.trans e2) Q fun p H3 hp e3 h3 => q p H3 (fresh_back e2 hp) (e2.trans e3) h3
  | false =>
    show tb σ H2 Q
    exact h2 rfl H2 (e.trans e2) Q fun p H3 hp e3 h3 => q p H3 (fresh_back e2 hp) (e2.trans e3) h3
end

/-! ### rules with the written part said -/
section
variable {X : Cx}
theorem ix_tupK (K : PySem.W.Frag) (h : X.K = K := by rfl) : IxR X (rIxT K) := by
  subst h
  exact ix_tup
theorem ix_listK (K : PySem.W.Frag) (h : X.K = K := by rfl) : IxR X (rIxL K) := by
  subst h
  exact ix_list
theorem ix_seqK (K : PySem.W.Frag) (h : X.K = K := by rfl) : IxR X (rIx K) := by
  subst h
  exact ix_seq
theorem sl_tupK (K : PySem.W.Frag) (h : X.K = K := by rfl) : SlR X (rSlA K) := by
  subst h
  exact sl_tupA
theorem sl_listK (K : PySem.W.Frag) (h : X.K = K := by rfl) : SlR X (rSlL K) := by
  subst h
  exact sl_list
theorem op_catK (K : PySem.W.Frag) (h : X.K = K := by rfl) : OpR X (binaryOp .Add) (rCatA K) := by
  subst h
  exact op_catA
def rLen (K : PySem.W.Frag) : List V → Hp → VK → Prop := fun xs H Q => ∃ x n, xs = [x] ∧ LenV K x H n ∧ Q (.int n) H
theorem call_lenK (K : PySem.W.Frag) (h : X.K = K := by rfl) : CallR X (.builtin "len") (rLen K) := by
  subst h
  exact call_len
def rTupOf (K : PySem.W.Frag) : List V → Hp → VK → Prop := fun xs H Q => ∃ p ys, xs = [.ref p] ∧ ((SqL K H p ys ∧ ∀ l, H l = none → Q (.ref l) (upd H l (.tup ys))) ∨ (SqT K H p ys ∧ Q (.ref p) H))
theorem call_tupK (K : PySem.W.Frag) (h : X.K = K := by rfl) : CallR X (.type "tuple") (rTupOf K) := by
  subst h
  exact call_tuple_of
theorem cr_sumK (K : PySem.W.Frag) (hc : X.calm = true := by rfl) (h : X.K = K := by rfl) : CallR X (.builtin "sum") (rSum K) := by
  subst h
  exact cr_sum hc
theorem cr_allK (K : PySem.W.Frag) (hc : X.calm = true := by rfl) (h : X.K = K := by rfl) : CallR X (.builtin "all") (rAll K) := by
  subst h
  exact cr_all hc
theorem op_neK (K : PySem.W.Frag) (hu : X.A.units + 64 < cLine) (h : X.K = K := by rfl) : OpR X (compareOp .NotEq) (rNeD K) := by
  subst h
  exact op_neD hu
theorem pg_tupK {es : List Expr} {k : Nat} {pos : Pos} {t : TGs} (K : PySem.W.Frag) (n : Nat) (h : PGs X es t) (hc : X.calm = true := by rfl) (h : X.K = K := by rfl)
    (hn : (assignEach es X.env).length = n := by rfl) (hst : (assignEach es X.env).findIdx? (·.1) = none := by rfl) : PG X (.Tuple es k pos) (gTup K n t) := by
  subst h
  exact pg_tup hc (by assumption) hn hst
variable {tg : Expr}
theorem pi_tupK {l : Expr} {tl : TE} (K : PySem.W.Frag) (hl : PE X l tl) (h : X.K = K := by rfl) : PI X tg l (iTup K tl) := by
  subst h
  exact pi_tup hl
theorem pi_listK {l : Expr} {tl : TE} (K : PySem.W.Frag) (hl : PE X l tl) (h : X.K = K := by rfl) : PI X tg l (iList K tl) := by
  subst h
  exact pi_list hl
theorem pe_revK {e : Expr} {te : TE} {k : Nat} {p1 p2 p3 pos : Pos} (K : PySem.W.Frag) (he : PE X e te) (h : X.K = K := by rfl) : PE X (.Subscript e (.Slice none none (some (.UnaryOp .USub (.Constant (.int 1) k p1) p2)) p3) pos) (tRevL K te) := by
  subst h
  exact pe_revL he
theorem units_of {A : Around} {k : Nat} (hr : Room k A) : A.units + 64 < cLine := Nat.lt_of_le_of_lt (by omega) hr.un
end

/-! ### comprehensions by the list that they make -/
def Cl (H : Hp) (l : List V) (D : Addr) (i : Nat) (H' : Hp) : Prop := H D = none ∧ Ex H H' ∧ H' D = some (.lst (l.take i))
section
variable {K : PySem.W.Frag} {σ : L2.St} {H H' : Hp} {ta tb te tx : TE} {t u : TT} {x y z v : V} {l : List V} {D : Addr} {i : Nat}
theorem cl_start (h : H D = none) : Cl H l D 0 (upd H D (.lst [])) := ⟨h, Ex.new h, upd_same⟩
theorem cl_turn {σ2 : L2.St} {H3 : Hp} (p : Cl H l D i H') (e0 : Ex H' H3) (hi : l[i]? = some z) (hl : l.length ≤ 40000) (he : Ev te σ2 H3 z) :
    tYes σ2 H3 fun b H3 => if b = true then te σ2 H3 fun y H4 => ∃ acc, H4 D = some (.lst acc) ∧ acc.length < sizeLine ∧ Cl H l D (i + 1) (upd H4 D (.lst (acc ++ [y]))) else Cl H l D (i + 1) H3 := by
  obtain ⟨p1, p2, p3⟩ := p
  show te σ2 H3 fun y H4 => ∃ acc, H4 D = some (.lst acc) ∧ acc.length < sizeLine ∧ Cl H l D (i + 1) (upd H4 D (.lst (acc ++ [y])))
  refine he H3 (Ex.refl _) _ fun H4 e4 => ⟨l.take i, (e0.trans e4) D _ p3, sz_lt ?_, p1, Ex.mut ((p2.trans e0).trans e4) p1, ?_⟩
  · have := List.length_take_le i l
    have h2 : (l.take i).length ≤ l.length := by
      rw [List.length_take]
      exact Nat.min_le_right _ _
    omega
  · rw [upd_same, List.take_add_one, hi] <;> rfl
theorem cl_end {n : Nat} (p : Cl H l D n H') (h : l.length = n) : H' D = some (.lst l) := by
  rw [p.2.2, List.take_of_length_le (by omega)]
/-- over a tuple -/
theorem el_T {a : Addr} {xs : List V} {tl : TE} {j : Nat} {vs : List Nat} (h : Ev tl σ H (.ref a)) (hx : SqT K H a xs) (hl : l.length = xs.length) (hz : xs.length ≤ 40000) (hw : ∀ x, wipe ((wipe σ vs).set j (some x)) vs = wipe σ vs)
    (he : ∀ (i : Nat) (x z : V) H1, Ex H H1 → xs[i]? = some x → l[i]? = some z → Ev te ((wipe σ vs).set j (some x)) H1 z) : EvL (tLc (iTup K tl) (gName j) tYes te vs) σ H l := fun H0 e Q q => h H0 e _ fun H1 e1 =>
  ⟨a, rfl, ⟨xs, ex_t (e.trans e1) hx⟩, fun D hD => lc_tup (xs := xs) (Cl H1 l D) (cl_start hD) (fun i H' _ p => ex_t ((e.trans e1).trans p.2.1) hx) (fun i x H' hi p => ⟨hw x, by
    have hlt := (List.getElem?_eq_some_iff.mp hi).1
    have hz' : l[i]? = some l[i] := List.getElem?_eq_getElem (by omega)
    exact cl_turn p (Ex.refl _) hz' (by omega) (he i x _ H' ((e.trans e1).trans p.2.1) hi hz')⟩) fun H' p => q D H' (fresh_back e1 p.1) (e1.trans p.2.1) (cl_end p hl)⟩
/-- over a new tuple -/
theorem el_NT {xs : List V} {tl : TE} {j : Nat} {vs : List Nat} (h : EvU tl σ H xs) (hl : l.length = xs.length) (hz : xs.length ≤ 40000) (hw : ∀ x, wipe ((wipe σ vs).set j (some x)) vs = wipe σ vs)
    (he : ∀ (i : Nat) (x z : V) H1, Ex H H1 → xs[i]? = some x → l[i]? = some z → Ev te ((wipe σ vs).set j (some x)) H1 z) : EvL (tLc (iTup K tl) (gName j) tYes te vs) σ H l := fun H0 e Q q => h H0 e _ fun a H1 _ e1 hx =>
  ⟨a, rfl, ⟨xs, st_of hx⟩, fun D hD => lc_tup (xs := xs) (Cl H1 l D) (cl_start hD) (fun i H' _ p => st_of (p.2.1 a _ hx)) (fun i x H' hi p => ⟨hw x, by
    have hlt := (List.getElem?_eq_some_iff.mp hi).1
    have hz' : l[i]? = some l[i] := List.getElem?_eq_getElem (by omega)
    exact cl_turn p (Ex.refl _) hz' (by omega) (he i x _ H' ((e.trans e1).trans p.2.1) hi hz')⟩) fun H' p => q D H' (fresh_back e1 p.1) (e1.trans p.2.1) (cl_end p hl)⟩
/-- over a list -/
theorem el_L {a : Addr} {xs : List V} {tl : TE} {j : Nat} {vs : List Nat} (h : Ev tl σ H (.ref a)) (hx : SqL K H a xs) (hl : l.length = xs.length) (hz : xs.length ≤ 40000) (hw : ∀ x, wipe ((wipe σ vs).set j (some x)) vs = wipe σ vs)
    (he : ∀ (i : Nat) (x z : V) H1, Ex H H1 → xs[i]? = some x → l[i]? = some z → Ev te ((wipe σ vs).set j (some x)) H1 z) : EvL (tLc (iList K tl) (gName j) tYes te vs) σ H l := fun H0 e Q q => h H0 e _ fun H1 e1 =>
  ⟨a, rfl, ⟨xs, ex_l (e.trans e1) hx⟩, fun D hD => lc_list (xs := xs) (Cl H1 l D) (cl_start hD) (fun i H' _ p => ex_l ((e.trans e1).trans p.2.1) hx) (fun i x H' hi p => ⟨hw x, by
    have hlt := (List.getElem?_eq_some_iff.mp hi).1
    have hz' : l[i]? = some l[i] := List.getElem?_eq_getElem (by omega)
    exact cl_turn p (Ex.refl _) hz' (by omega) (he i x _ H' ((e.trans e1).trans p.2.1) hi hz')⟩) fun H' p => q D H' (fresh_back e1 p.1) (e1.trans p.2.1) (cl_end p hl)⟩
/-- over a new list -/
theorem el_NL {xs : List V} {tl : TE} {j : Nat} {vs : List Nat} (h : EvL tl σ H xs) (hl : l.length = xs.length) (hz : xs.length ≤ 40000) (hw : ∀ x, wipe ((wipe σ vs).set j (some x)) vs = wipe σ vs)
    (he : ∀ (i : Nat) (x z : V) H1, Ex H H1 → xs[i]? = some x → l[i]? = some z → Ev te ((wipe σ vs).set j (some x)) H1 z) : EvL (tLc (iList K tl) (gName j) tYes te vs) σ H l := fun H0 e Q q => h H0 e _ fun a H1 _ e1 hx =>
  ⟨a, rfl, ⟨xs, sq_of hx⟩, fun D hD => lc_list (xs := xs) (Cl H1 l D) (cl_start hD) (fun i H' _ p => sq_of (p.2.1 a _ hx)) (fun i x H' hi p => ⟨hw x, by
    have hlt := (List.getElem?_eq_some_iff.mp hi).1
    have hz' : l[i]? = some l[i] := List.getElem?_eq_getElem (by omega)
    exact cl_turn p (Ex.refl _) hz' (by omega) (he i x _ H' ((e.trans e1).trans p.2.1) hi hz')⟩) fun H' p => q D H' (fresh_back e1 p.1) (e1.trans p.2.1) (cl_end p hl)⟩
/-- over range(n) -/
theorem el_R1 {ta : TA} {j : Nat} {vs : List Nat} {n : Nat} (h : EvA ta σ H [.int (n : Int)]) (hl : l.length = n) (hz : n ≤ 40000) (hw : ∀ x, wipe ((wipe σ vs).set j (some x)) vs = wipe σ vs)
    (he : ∀ (i : Nat) (z : V) H1, Ex H H1 → i < n → l[i]? = some z → Ev te ((wipe σ vs).set j (some (.int (i : Int)))) H1 z) : EvL (tLc (iRng1 ta) (gName j) tYes te vs) σ H l := fun H0 e Q q => h H0 e _ fun H1 e1 =>
  ⟨(n : Int), rfl, by omega, by omega, fun D hD => lc_range (lo := 0) (n := (n : Int).toNat) (Cl H1 l D) (cl_start hD) (fun i H' hi p => by
    have e0 : (0 : Int) + (i : Int) = (i : Int) := Int.zero_add _
    have hz' : l[i]? = some l[i] := List.getElem?_eq_getElem (by omega)
    refine ⟨?_, ?_⟩
    · rw [e0]
      exact hw _
    · refine cl_turn p (Ex.refl _) hz' (by omega) ?_
      rw [e0]
      exact he i _ H' ((e.trans e1).trans p.2.1) (by omega) hz') fun H' p => q D H' (fresh_back e1 p.1) (e1.trans p.2.1) (cl_end p (by omega))⟩
/-- over range(lo, hi) -/
theorem el_R2 {ta : TA} {j : Nat} {vs : List Nat} {lo hi : Int} {n : Nat} (h : EvA ta σ H [.int lo, .int hi]) (hn : hi - lo = (n : Int)) (hl : l.length = n) (hz : n ≤ 40000) (hb : -1000 ≤ lo ∧ lo ≤ 1000) (hw : ∀ x, wipe ((wipe σ vs).set j (some x)) vs = wipe σ vs)
    (he : ∀ (i : Nat) (z : V) H1, Ex H H1 → i < n → l[i]? = some z → Ev te ((wipe σ vs).set j (some (.int (lo + (i : Int))))) H1 z) : EvL (tLc (iRng2 ta) (gName j) tYes te vs) σ H l := fun H0 e Q q => h H0 e _ fun H1 e1 =>
  ⟨lo, hi, rfl, ⟨by omega, by omega, by omega, by omega⟩, fun D hD => lc_range (lo := lo) (n := (hi - lo).toNat) (Cl H1 l D) (cl_start hD) (fun i H' hi p => by
    have hz' : l[i]? = some l[i] := List.getElem?_eq_getElem (by omega)
    exact ⟨hw _, cl_turn p (Ex.refl _) hz' (by omega) (he i _ H' ((e.trans e1).trans p.2.1) (by omega) hz')⟩) fun H' p => q D H' (fresh_back e1 p.1) (e1.trans p.2.1) (cl_end p (by omega))⟩
/-- a pair, a triple of names -/
def set2 (σ : L2.St) (j1 j2 : Nat) (x y : V) : L2.St := (σ.set j1 (some x)).set j2 (some y)
def set3 (σ : L2.St) (j1 j2 j3 : Nat) (x y z : V) : L2.St := ((σ.set j1 (some x)).set j2 (some y)).set j3 (some z)
theorem g_2 {T : Addr} {j1 j2 : Nat} {H1 : Hp} {R : L2.St → Hp → Prop} (hT : H1 T = some (.tup [x, y])) (h : R (set2 σ j1 j2 x y) H1) : gTup K 2 (gCons (gName j1) (gCons (gName j2) gNil)) (.ref T) σ H1 R :=
  ⟨T, [x, y], rfl, st_of hT, rfl, x, [y], rfl, y, [], rfl, rfl, h⟩
theorem g_3 {T : Addr} {j1 j2 j3 : Nat} {H1 : Hp} {R : L2.St → Hp → Prop} (hT : H1 T = some (.tup [x, y, z])) (h : R (set3 σ j1 j2 j3 x y z) H1) : gTup K 3 (gCons (gName j1) (gCons (gName j2) (gCons (gName j3) gNil))) (.ref T) σ H1 R :=
  ⟨T, [x, y, z], rfl, st_of hT, rfl, x, [y, z], rfl, y, [z], rfl, z, [], rfl, rfl, h⟩
/-- over zip of two tuples -/
theorem el_Z2 {a b : Addr} {xs ys : List V} {ta : TA} {j1 j2 : Nat} {vs : List Nat} {n : Nat} (h : EvA ta σ H [.ref a, .ref b]) (hx : SqT K H a xs) (hy : SqT K H b ys) (lx : xs.length = n) (ly : ys.length = n) (hl : l.length = n) (hz : n ≤ 40000)
    (hw : ∀ x y, wipe (set2 (wipe σ vs) j1 j2 x y) vs = wipe σ vs) (he : ∀ (i : Nat) (x y z : V) H1, Ex H H1 → xs[i]? = some x → ys[i]? = some y → l[i]? = some z → Ev te (set2 (wipe σ vs) j1 j2 x y) H1 z) :
    EvL (tLc (RZ.iZipA K ta) (gTup K 2 (gCons (gName j1) (gCons (gName j2) gNil))) tYes te vs) σ H l := fun H0 e Q q => h H0 e _ fun H1 e1 =>
  ⟨a, b, xs, ys, rfl, .inr ⟨ex_t (e.trans e1) hx, ex_t (e.trans e1) hy, fun D hD => ⟨fun i m H' => m = n - i ∧ i ≤ n ∧ Cl H1 l D i H', ⟨n, rfl, Nat.zero_le _, cl_start hD⟩, by
    rintro i m H' ⟨rfl, hi, p⟩
    have qx : SqT K H' a xs := ex_t ((e.trans e1).trans p.2.1) hx
    have qy : SqT K H' b ys := ex_t ((e.trans e1).trans p.2.1) hy
    by_cases hlt : i < n
    · have gx : xs[i]? = some xs[i] := List.getElem?_eq_getElem (by omega)
      have gy : ys[i]? = some ys[i] := List.getElem?_eq_getElem (by omega)
      have gl : l[i]? = some l[i] := List.getElem?_eq_getElem (by omega)
      refine .inr ⟨⟨xs, ys, _, _, qx, qy, gx, gy⟩, Cl H1 l D (i + 1), fun H2 p2 => ⟨n - (i + 1), by omega, rfl, hlt, p2⟩, fun v H2 yd => ?_⟩
      obtain ⟨T, x', y', rfl, hT, rfl, f1, f2⟩ := yd
      have e2 : Ex H' (upd H' T (.tup [x', y'])) := Ex.new hT
      exact g_2 upd_same ⟨hw _ _, cl_turn p e2 gl (by omega) (he i x' y' _ _ (((e.trans e1).trans p.2.1).trans e2) (f1 _ qx) (f2 _ qy) gl)⟩
    · have ei : i = n := by omega
      subst ei
      exact .inl ⟨⟨xs, ys, qx, qy, .inl (by omega)⟩, q D H' (fresh_back e1 p.1) (e1.trans p.2.1) (cl_end p hl)⟩⟩⟩⟩
/-- over zip of three -/
theorem el_Z3 {a b c : Addr} {xs ys zs : List V} {ta : TA} {j1 j2 j3 : Nat} {vs : List Nat} {n : Nat} (h : EvA ta σ H [.ref a, .ref b, .ref c]) (hx : SqT K H a xs) (hy : SqT K H b ys) (hzz : SqT K H c zs) (lx : xs.length = n) (ly : ys.length = n) (lz : zs.length = n) (hl : l.length = n) (hz : n ≤ 40000)
    (hw : ∀ x y z, wipe (set3 (wipe σ vs) j1 j2 j3 x y z) vs = wipe σ vs) (he : ∀ (i : Nat) (x y w z : V) H1, Ex H H1 → xs[i]? = some x → ys[i]? = some y → zs[i]? = some w → l[i]? = some z → Ev te (set3 (wipe σ vs) j1 j2 j3 x y w) H1 z) :
    EvL (tLc (iZip3 K ta) (gTup K 3 (gCons (gName j1) (gCons (gName j2) (gCons (gName j3) gNil)))) tYes te vs) σ H l := fun H0 e Q q => h H0 e _ fun H1 e1 =>
  ⟨a, b, c, xs, ys, zs, rfl, ⟨ex_t (e.trans e1) hx, ex_t (e.trans e1) hy, ex_t (e.trans e1) hzz⟩, fun D hD => ⟨fun i m H' => m = n - i ∧ i ≤ n ∧ Cl H1 l D i H', ⟨n, rfl, Nat.zero_le _, cl_start hD⟩, by
    rintro i m H' ⟨rfl, hi, p⟩
    have qx : SqT K H' a xs := ex_t ((e.trans e1).trans p.2.1) hx
    have qy : SqT K H' b ys := ex_t ((e.trans e1).trans p.2.1) hy
    have qz : SqT K H' c zs := ex_t ((e.trans e1).trans p.2.1) hzz
    by_cases hlt : i < n
    · have gx : xs[i]? = some xs[i] := List.getElem?_eq_getElem (by omega)
      have gy : ys[i]? = some ys[i] := List.getElem?_eq_getElem (by omega)
      have gz : zs[i]? = some zs[i] := List.getElem?_eq_getElem (by omega)
      have gl : l[i]? = some l[i] := List.getElem?_eq_getElem (by omega)
      refine .inr ⟨⟨xs, ys, zs, _, _, _, ⟨qx, qy, qz⟩, gx, gy, gz, by omega, by omega⟩, Cl H1 l D (i + 1), fun H2 p2 => ⟨n - (i + 1), by omega, rfl, hlt, p2⟩, fun v H2 yd => ?_⟩
      obtain ⟨T, x', y', z', rfl, hT, rfl, f1, f2, f3⟩ := yd
      have e2 : Ex H' (upd H' T (.tup [x', y', z'])) := Ex.new hT
      exact g_3 upd_same ⟨hw _ _ _, cl_turn p e2 gl (by omega) (he i x' y' z' _ _ (((e.trans e1).trans p.2.1).trans e2) (f1 _ qx) (f2 _ qy) (f3 _ qz) gl)⟩
    · have ei : i = n := by omega
      subst ei
      exact .inl ⟨⟨xs, ys, zs, ⟨qx, qy, qz⟩, lx, ly, lz⟩, q D H' (fresh_back e1 p.1) (e1.trans p.2.1) (cl_end p hl)⟩⟩⟩
end
end K21
/-! F1: differences, part_of, joined_parts, distance. -/
namespace K21
open PySem PySem.Spec PyProof.Rows L2 Evl
def topS (i : Nat) : Stmt := PySem.Challenge.pw_nonearer_k21_whole_floors_and_ceilings.main.body.getD i (.Pass ⟨0, 0, 0, 0⟩)
/-- what of the built-ins stands -/
structure Gs (mg : Str → Option Value) : Prop where
  n_tuple : mg "tuple" = none
  n_zip : mg "zip" = none
  n_abs : mg "abs" = none
  n_max : mg "max" = none
  n_min : mg "min" = none
  n_sum : mg "sum" = none
  n_all : mg "all" = none
  n_len : mg "len" = none
  n_int : mg "int" = none
  n_range : mg "range" = none
  n_repr : mg "repr" = none
  isqrt : mg "isqrt" = some (.builtin "math.isqrt")
section
variable {P : Program} {w : World} {K : PySem.W.Frag} {mg : Str → Option Value} {base : Heap}
abbrev s_differences : Stmt := topS 2
abbrev N_differences : List Str := ["one", "other", "mine", "yours"]
abbrev p_differences : List Str := ["one", "other"]
theorem sc_differences : FnScope N_differences p_differences (defScope s_differences) := ⟨rfl, rfl, rfl, by decide +kernel, rfl, by decide +kernel, by decide +kernel⟩

def preDiffs (K : PySem.W.Frag) : List V → Hp → List V → Prop := fun vs H xs => ∃ a b as bs, vs = [a, b] ∧ VecAt K H a as ∧ VecAt K H b bs ∧ as.length = bs.length ∧ as.length ≤ 100 ∧ xs = vi (diffs as bs)
theorem diffs_len {as bs : List Int} (h : as.length = bs.length) : (diffs as bs).length = as.length := by
  unfold diffs
  rw [List.length_zipWith]
  omega
theorem diffs_get {as bs : List Int} {i : Nat} {a b d : Int} (h1 : as[i]? = some a) (h2 : bs[i]? = some b) (h : (diffs as bs)[i]? = some d) : d = a - b := by
  unfold diffs at h
  rw [List.getElem?_zipWith, h1, h2] at h
  exact (Option.some.inj h).symm
theorem vi_get {zs : List Int} {i : Nat} {x : V} (h : (vi zs)[i]? = some x) : ∃ z, zs[i]? = some z ∧ x = .int z := by
  rw [List.getElem?_map] at h
  cases e : zs[i]? with
  | none =>
    rw [e] at h
    cases h
  | some z =>
    rw [e] at h
    exact ⟨z, rfl, (Option.some.inj h).symm⟩
theorem ok_differences (F : FunX K mg "differences" s_differences p_differences) (T : Gs mg) : Def P w K mg base 1 "differences" p_differences (spU (preDiffs K)) := by
  refine F.def_ fun f fd F => F.ok sc_differences (fun vs H Q E h => ?_) (fun cdv A outer s H vs Q E hr h => ?_)
  · obtain ⟨xs, ⟨a, b, as, bs, rfl, _⟩, _⟩ := h
    rfl
  · obtain ⟨xs, ⟨a, b, as, bs, rfl, ⟨pa, rfl, ha⟩, ⟨pb, rfl, hb⟩, hl, h100, rfl⟩, q⟩ := h
    have nd := sc_differences.nd
    refine ⟨_, (pss_one (ps_ret (pe_callTy (call_tupK K) (by rfl) T.n_tuple (by decide +kernel) (pa_cons (pe_lc (own := [("mine", 2), ("yours", 3)]) rfl nd (RZ.pi_zipA rfl T.n_zip (pa_cons (pv 0) (pa_cons (pv 1) pa_nil))) (blkOk_by (own := [("mine", 2), ("yours", 3)]) (N := N_differences) (sc := defScope s_differences) (by decide +kernel)) (fun _ _ _ _ _ => pg_tupK K 2 (pgs_cons (pg_name (i := 2) nd rfl (Or.inl rfl)) (pgs_cons (pg_name (i := 3) nd rfl (Or.inl rfl)) pgs_nil))) (fun _ _ _ _ _ => pts_nil) (fun _ _ _ _ _ => pe_op op_sub (pv 2) (pv 3))) pa_nil)))), ?_⟩
    refine s_retU (eu_tupL (el_Z2 (n := as.length) (ea_cons (ev_var rfl) (ea_cons (ev_var rfl) ea_nil)) ha hb (List.length_map _) (by rw [List.length_map, hl]) (by rw [List.length_map, diffs_len hl]) (by omega) (fun _ _ => rfl) fun i x y z H1 e1 hx hy hz => ?_)
      fun p H1 hp e1 Q q => ⟨p, _, rfl, .inl ⟨sq_of hp, q⟩⟩) q
    obtain ⟨x', ex, rfl⟩ := vi_get hx
    obtain ⟨y', ey, rfl⟩ := vi_get hy
    obtain ⟨z', ez, rfl⟩ := vi_get hz
    rw [diffs_get ex ey ez]
    exact ev_sub (ev_var rfl) (ev_var rfl)
theorem part_sq {k : Kd} {d : Int} (e : k.isSq = true) : partOf k d = d * d := if_pos e
theorem part_un {k : Kd} {d : Int} (e : k.isSq = false) (e' : k.isUn = true) : partOf k d = if d ≠ 0 then 1 else 0 := by
  unfold partOf
  rw [e, if_neg Bool.false_ne_true, if_pos e']
theorem part_ab {k : Kd} {d : Int} (e : k.isSq = false) (e' : k.isUn = false) : partOf k d = absI d := by
  unfold partOf
  rw [e, e', if_neg Bool.false_ne_true, if_neg Bool.false_ne_true]
abbrev s_part_of : Stmt := topS 5
abbrev N_part_of : List Str := ["kind", "difference"]
abbrev p_part_of : List Str := ["kind", "difference"]
theorem sc_part_of : FnScope N_part_of p_part_of (defScope s_part_of) := ⟨rfl, rfl, rfl, by decide +kernel, rfl, by decide +kernel, by decide +kernel⟩

def prePart : List V → Hp → V → Prop := fun vs H z => ∃ k d, vs = [.str (Kd.s k), .int d] ∧ (-40000 ≤ d ∧ d ≤ 40000) ∧ z = .int (partOf k d)
theorem ok_part_of (F : FunX K mg "part_of" s_part_of p_part_of) (T : Gs mg) : Def P w K mg base 1 "part_of" p_part_of (spF prePart) := by
  refine F.def_ fun f fd F => F.ok sc_part_of (fun vs H Q E h => ?_) (fun cdv A outer s H vs Q E hr h => ?_)
  · obtain ⟨z, ⟨k, d, rfl, _⟩, _⟩ := h
    rfl
  · obtain ⟨z, ⟨k, d, rfl, hd, rfl⟩, q⟩ := h
    have nd := sc_part_of.nd
    refine ⟨_, (pss_cons (ps_if (pt_cmpR op_eq (pv 0) pe_str (nomark _)) (pss_one (ps_ret (pe_op op_mul (pv 1) (pv 1)))) pss_nil)
    (pss_cons (ps_if (pt_cmpR op_eq (pv 0) pe_str (nomark _)) (pss_one (ps_ret (pe_ifExp (pt_cmpR op_ne (pv 1) pe_int (nomark _)) pe_int pe_int))) pss_nil)
    (pss_one (ps_ret (pe_callB call_abs (by rfl) T.n_abs (by decide +kernel) (pa_cons (pv 1) pa_nil)))))), ?_⟩
    refine q_if (et_sq (ev_var rfl) ev_c) (fun e H1 e1 => ?_) (fun e H1 e1 => ?_)
    · refine s_ret (ev_is (ev_mul (ev_var rfl) (ev_var rfl) (.inl ⟨by omega, by omega⟩)) ?_) fun H2 e2 => q H2 (e1.trans e2)
      rw [part_sq e]
    · refine q_if (et_un (ev_var rfl) ev_c) (fun e' H2 e2 => ?_) (fun e' H2 e2 => ?_)
      · refine s_ret (ev_is (ev_iteI (et_ne (ev_var rfl) ev_c) (fun _ => ev_c) (fun _ => ev_c)) ?_) fun H3 e3 => q H3 ((e1.trans e2).trans e3)
        rw [part_un e e']
        by_cases hz : d = 0
        · subst hz
          rfl
        · rw [if_pos hz, if_pos]
          rw [decide_eq_false (fun z => hz (V.int.inj z))]
          rfl
      · refine s_ret (ev_is (ev_blt (ea_cons (ev_var rfl) ea_nil) fun H3 _ Q q => ⟨d, rfl, q⟩) ?_) fun H3 e3 => q H3 ((e1.trans e2).trans e3)
        rw [part_ab e e'] <;> rfl
abbrev s_joined_parts : Stmt := topS 6
abbrev N_joined_parts : List Str := ["kind", "parts"]
abbrev p_joined_parts : List Str := ["kind", "parts"]
theorem sc_joined_parts : FnScope N_joined_parts p_joined_parts (defScope s_joined_parts) := ⟨rfl, rfl, rfl, by decide +kernel, rfl, by decide +kernel, by decide +kernel⟩

def preJoin (K : PySem.W.Frag) : List V → Hp → V → Prop := fun vs H z => ∃ k a ns, vs = [.str (Kd.s k), .ref a] ∧ SqL K H a (vi ns) ∧ 0 < ns.length ∧ (∀ y ∈ ns, 0 ≤ y) ∧ z = .int (joined k ns)
theorem ok_joined_parts (F : FunX K mg "joined_parts" s_joined_parts p_joined_parts) (T : Gs mg) : Def P w K mg base 1 "joined_parts" p_joined_parts (spF (preJoin K)) := by
  refine F.def_ fun f fd F => F.ok sc_joined_parts (fun vs H Q E h => ?_) (fun cdv A outer s H vs Q E hr h => ?_)
  · obtain ⟨z, ⟨k, a, ns, rfl, _⟩, _⟩ := h
    rfl
  · obtain ⟨z, ⟨k, a, ns, rfl, hs, h0, hn, rfl⟩, q⟩ := h
    have nd := sc_joined_parts.nd
    refine ⟨_, (pss_one (ps_ret (pe_ifExp (pt_cmpR op_eq (pv 0) pe_str (nomark _)) (pe_callBK (cr_maxD rfl) (by rfl) T.n_max (by decide +kernel) (pa_cons (pv 1) pa_nil) (pk_cons pe_int pk_nil)) (pe_callB (cr_sumK K) (by rfl) T.n_sum (by decide +kernel) (pa_cons (pv 1) pa_nil))))), ?_⟩
    refine s_ret (ev_if (et_mo (ev_var rfl) ev_c) (fun e => ?_) (fun e => ?_)) q
    · have ek : k = .mo := by cases k <;> first | rfl | cases e
      subst ek
      exact fun H1 e1 Q q => ⟨.ref a, rfl, a, ns, .int 0, rfl, rfl, ex_l e1 hs, h0, fun m hm hu => by
        rw [← joined_max hn hm hu]
        exact q H1 (Ex.refl H1)⟩
    · refine ev_blt (ea_cons (ev_var rfl) ea_nil) fun H1 e1 Q q => ⟨a, ns, rfl, ex_l e1 hs, ?_⟩
      rw [← joined_sum e]
      exact q
abbrev s_distance : Stmt := topS 7
abbrev N_distance : List Str := ["kind", "one", "other", "difference"]
abbrev p_distance : List Str := ["kind", "one", "other"]
theorem sc_distance : FnScope N_distance p_distance (defScope s_distance) := ⟨rfl, rfl, rfl, by decide +kernel, rfl, by decide +kernel, by decide +kernel⟩

def preDist (K : PySem.W.Frag) : List V → Hp → V → Prop := fun vs H z => ∃ k a b as bs, vs = [.str (Kd.s k), a, b] ∧ VecAt K H a as ∧ VecAt K H b bs ∧ (as.length = bs.length ∧ 0 < as.length ∧ as.length ≤ 100) ∧ Bd as ∧ Bd bs ∧ z = .int (dist k as bs)
theorem diffs_bd : ∀ {as bs : List Int}, Bd as → Bd bs → ∀ d ∈ diffs as bs, -40000 ≤ d ∧ d ≤ 40000
  | [], _, _, _, d, h => by cases h
  | _ :: _, [], _, _, d, h => by cases h
  | a :: as, b :: bs, h1, h2, d, h => by
    rcases List.mem_cons.mp (show d ∈ (a - b) :: diffs as bs from h) with rfl | h
    · have := h1 a List.mem_cons_self
      have := h2 b List.mem_cons_self
      omega
    · exact diffs_bd (fun z hz => h1 z (List.mem_cons_of_mem _ hz)) (fun z hz => h2 z (List.mem_cons_of_mem _ hz)) d h
theorem ok_distance (F : FunX K mg "distance" s_distance p_distance) (T : Gs mg) (Ddifferences : Def P w K mg base 1 "differences" p_differences (spU (preDiffs K))) (Dpart_of : Def P w K mg base 1 "part_of" p_part_of (spF prePart))
    (Djoined_parts : Def P w K mg base 1 "joined_parts" p_joined_parts (spF (preJoin K))) : Def P w K mg base 2 "distance" p_distance (spF (preDist K)) := by
  refine F.def_ fun f fd F => F.ok sc_distance (fun vs H Q E h => ?_) (fun cdv A outer s H vs Q E hr h => ?_)
  · obtain ⟨z, ⟨k, a, b, as, bs, rfl, _⟩, _⟩ := h
    rfl
  · obtain ⟨z, ⟨k, a, b, as, bs, rfl, ha, hb, ⟨hl, h0, h100⟩, ba, bb, rfl⟩, q⟩ := h
    have nd := sc_distance.nd
    refine ⟨_, (pss_one (ps_ret (pe_D Djoined_parts (hr.mono (by decide)) (pa_cons (pv 0) (pa_cons (pe_lc (own := [("difference", 3)]) (g := gName 3) rfl nd (pi_tupK K (pe_D Ddifferences (hr.mono (by decide)) (pa_cons (pv 1) (pa_cons (pv 2) pa_nil)))) (blkOk_by (own := [("difference", 3)]) (N := N_distance) (sc := defScope s_distance) (by decide +kernel)) (fun _ _ _ _ _ => pg_name (i := 3) nd rfl (Or.inl rfl)) (fun _ _ _ _ _ => pts_nil) (fun _ _ _ _ _ => pe_D Dpart_of (hr.mono (by decide)) (pa_cons (pv 0) (pa_cons (pv 3) pa_nil)))) pa_nil))))), ?_⟩
    refine s_ret (ev_callL2 (ev_var rfl) (el_NT (l := vi ((diffs as bs).map (partOf k))) (eu_call (ea_cons (ev_var rfl) (ea_cons (ev_var rfl) ea_nil)) (spU_v fun H1 e1 => ⟨a, b, as, bs, rfl, ha.mono e1, hb.mono e1, hl, h100, rfl⟩)) ?_ ?_ (fun _ => rfl) fun i x z H1 e1 hx hz => ?_)
      fun p H1 hp e1 => spF_v fun H2 e2 => ⟨k, p, _, rfl, sq_of (e2 p _ hp), ?_, parts_nn k _, rfl⟩) q
    · rw [List.length_map, List.length_map, List.length_map]
    · rw [List.length_map, diffs_len hl]
      omega
    · obtain ⟨x', ex, rfl⟩ := vi_get hx
      obtain ⟨z', ez, rfl⟩ := vi_get hz
      rw [List.getElem?_map, ex] at ez
      obtain rfl : partOf k x' = z' := Option.some.inj ez
      exact ev_call (ea_cons (ev_var rfl) (ea_cons (ev_var rfl) ea_nil)) (spF_v fun H2 e2 => ⟨k, x', rfl, diffs_bd ba bb x' (List.mem_of_getElem? ex), rfl⟩)
    · rw [List.length_map, diffs_len hl]
      exact h0
end
end K21
/-! F2: gaps, shells, holds_vector, floor_of, ceiling_of. -/
namespace K21
open PySem PySem.Spec PyProof.Rows L2 Evl
/-! ### more of what evaluates -/
section
variable {K : PySem.W.Frag} {σ : L2.St} {H H' : Hp} {ta tb tc te tx : TE} {t u : TT} {x y z v : V} {r : R2}
theorem ev_chainI {f f' : Int → Int → Bool} {i j m : Int} (ha : Ev ta σ H (.int i)) (hb : Ev tb σ H (.int j)) (hc : Ev tc σ H (.int m)) : Ev (tChain (rI0 fun i j => .bl (f i j)) (rI0 fun i j => .bl (f' i j)) ta tb tc) σ H (.bl (f i j && f' j m)) := fun H1 e Q q =>
  ha H1 e _ fun H2 e2 => hb H2 (e.trans e2) _ fun H3 e3 => ⟨i, j, rfl, rfl, f i j, rfl, by
    generalize f i j = b at q ⊢
    cases b with
    | true =>
      exact iteT (hc H3 ((e.trans e2).trans e3) _ fun H4 e4 => ⟨j, m, rfl, rfl, q H4 ((e2.trans e3).trans e4)⟩)
    | false => exact iteF (q H3 (e2.trans e3))⟩
theorem et_chainI {f f' : Int → Int → Bool} {i j m : Int} (ha : Ev ta σ H (.int i)) (hb : Ev tb σ H (.int j)) (hc : Ev tc σ H (.int m)) : EvT (tTest (tChain (rI0 fun i j => .bl (f i j)) (rI0 fun i j => .bl (f' i j)) ta tb tc)) σ H (f i j && f' j m) := et_test (ev_chainI ha hb hc)
theorem ev_callU {sp : Sp} {E : XK} {xs ws : List V} {w : V} {ts : TA} (ha : Ev ta σ H w) (hb : EvU tb σ H xs) (hc : EvA ts σ H ws) (hs : ∀ p H1, H1 p = some (.tup xs) → Ex H H1 → SpV sp ((w :: .ref p :: ws) ++ []) H1 z) : Ev (tCall sp [] E (tCons ta (tCons tb ts))) σ H z := fun H1 e Q q =>
  ha H1 e _ fun H2 e2 => hb H2 (e.trans e2) _ fun p H3 _ e3 hp => hc H3 ((e.trans e2).trans e3) _ fun H4 e4 => hs p H4 (e4 p _ hp) (((e.trans e2).trans e3).trans e4) H4 (Ex.refl H4) Q (fun H5 e5 => q H5 (((e2.trans e3).trans e4).trans e5)) E
theorem ev_ixU {xs : List V} {j : Nat} (ha : EvU ta σ H xs) (hj : xs[j]? = some v) : Ev (tOp (rIxT K) ta (tC (.int (j : Int)))) σ H v := fun H1 e Q q =>
  ha H1 e _ fun p H2 _ e2 hp => ⟨p, xs, (j : Int), v, rfl, rfl, st_of hp, atI_nat hj, q H2 e2⟩
theorem ev_lenT {p : Addr} {xs : List V} {n : Nat} (ha : Ev ta σ H (.ref p)) (h : SqT K H p xs) (hn : xs.length = n) : Ev (tCB (rLen K) (tCons ta tNil)) σ H (.int (n : Int)) := fun H1 e Q q =>
  ha H1 e _ fun H2 e2 => ⟨.ref p, n, rfl, .inr ⟨xs, ex_t (e.trans e2) h, hn.symm⟩, q H2 e2⟩
theorem ev_lenV {w : V} {zs : List Int} {n : Nat} (ha : Ev ta σ H w) (h : VecAt K H w zs) (hn : zs.length = n) : Ev (tCB (rLen K) (tCons ta tNil)) σ H (.int (n : Int)) := by
  obtain ⟨p, rfl, h⟩ := h
  exact ev_lenT ha h (by rw [List.length_map, hn])
theorem ev_abs {i : Int} (ha : Ev ta σ H (.int i)) : Ev (tCB (fun xs H Q => ∃ i, xs = [V.int i] ∧ Q (.int (if i < 0 then -i else i)) H) (tCons ta tNil)) σ H (.int (absI i)) := ev_blt (ea_cons ha ea_nil) fun H1 _ Q q => ⟨i, rfl, q⟩
theorem ev_max {i j : Int} (ha : Ev ta σ H (.int i)) (hb : Ev tb σ H (.int j)) : Ev (tCB (fun xs H Q => ∃ i j, xs = [V.int i, V.int j] ∧ Q (.int (if j > i then j else i)) H) (tCons ta (tCons tb tNil))) σ H (.int (max2 i j)) := ev_blt (ea_cons ha (ea_cons hb ea_nil)) fun H1 _ Q q => ⟨i, j, rfl, q⟩
theorem ev_min {i j : Int} (ha : Ev ta σ H (.int i)) (hb : Ev tb σ H (.int j)) : Ev (tCB (fun xs H Q => ∃ i j, xs = [V.int i, V.int j] ∧ Q (.int (if j < i then j else i)) H) (tCons ta (tCons tb tNil))) σ H (.int (min2 i j)) := ev_blt (ea_cons ha (ea_cons hb ea_nil)) fun H1 _ Q q => ⟨i, j, rfl, q⟩
theorem ev_allL {bs : List Bool} (h : EvL te σ H (bs.map V.bl)) : Ev (tCB (rAll K) (tCons te tNil)) σ H (.bl (bs.all id)) := ev_bltL h fun p H1 hp _ Q q => ⟨p, bs, rfl, sq_of hp, q⟩
theorem eu_ofL {xs : List V} (h : EvL te σ H xs) : EvU (tCB (rTupOf K) (tCons te tNil)) σ H xs := eu_tupL h fun p H1 hp _ Q q => ⟨p, xs, rfl, .inl ⟨sq_of hp, q⟩⟩
/-- the parts of a region -/
def Reg.word : Reg → Str
  | .ball _ _ => "ball"
  | .box _ _ => "box"
  | .cell _ _ _ => "cell"
theorem RegAt.parts {R : Reg} (h : RegAt K H v R) : ∃ a b rest, v = .ref a ∧ SqT K H a (.str R.word :: b :: rest) ∧ VecAt K H b R.one := by
  cases R with
  | ball c r =>
    obtain ⟨a, b, e, h1, h2⟩ := h
    exact ⟨a, b, _, e, h1, h2⟩
  | box lo hi =>
    obtain ⟨a, b, d, e, h1, h2, h3⟩ := h
    exact ⟨a, b, _, e, h1, h2⟩
  | cell c l g =>
    obtain ⟨a, b, e, h1, h2⟩ := h
    exact ⟨a, b, _, e, h1, h2⟩
theorem ne_bb : decide (V.str "ball" = V.str "box") = false := by decide +kernel
theorem ne_cb : decide (V.str "cell" = V.str "box") = false := by decide +kernel
theorem ne_xb : decide (V.str "box" = V.str "ball") = false := by decide +kernel
theorem ne_cl : decide (V.str "cell" = V.str "ball") = false := by decide +kernel
theorem et_box {R : Reg} (ha : Ev ta σ H v) (h : RegAt K H v R) : EvT (tTest (tOp rEq (tOp (rIxT K) ta (tC (.int 0))) (tC (.str "box")))) σ H R.isBox := by
  obtain ⟨a, b, rest, rfl, h1, _⟩ := h.parts
  refine et_is (et_eq (ev_ixT (j := 0) ha ev_c h1 rfl) ev_c) ?_
  cases R with
  | ball c r => exact ne_bb
  | box lo hi => exact decide_eq_true rfl
  | cell c l g => exact ne_cb
theorem et_ball {R : Reg} (ha : Ev ta σ H v) (h : RegAt K H v R) : EvT (tTest (tOp rEq (tOp (rIxT K) ta (tC (.int 0))) (tC (.str "ball")))) σ H R.isBall := by
  obtain ⟨a, b, rest, rfl, h1, _⟩ := h.parts
  refine et_is (et_eq (ev_ixT (j := 0) ha ev_c h1 rfl) ev_c) ?_
  cases R with
  | ball c r => exact decide_eq_true rfl
  | box lo hi => exact ne_xb
  | cell c l g => exact ne_cl
end
section
variable {P : Program} {w : World} {K : PySem.W.Frag} {mg : Str → Option Value} {base : Heap}
/-! ### how great the numbers are -/
def Sz (a b : Int) : Prop := (0 ≤ a ∧ a ≤ 20000000000) ∧ (0 ≤ b ∧ b ≤ 20000000000) ∧ (a ≤ 30000000 ∨ b ≤ 30000000)
theorem Sz.comm {a b : Int} (h : Sz a b) : Sz b a := ⟨h.2.1, h.1, h.2.2.symm⟩
theorem Sz.mul {a b : Int} (h : Sz a b) : 0 ≤ 4 * a * b ∧ 4 * a * b < 2 ^ 64 := by
  obtain ⟨⟨a0, a1⟩, ⟨b0, b1⟩, h | h⟩ := h
  · refine ⟨mul4_nn a0 b0, ?_⟩
    have h1 : a * b ≤ 30000000 * 20000000000 := Int.mul_le_mul h b1 b0 (by omega)
    rw [Int.mul_assoc]
    omega
  · refine ⟨mul4_nn a0 b0, ?_⟩
    have h1 : a * b ≤ 20000000000 * 30000000 := Int.mul_le_mul a1 h b0 (by omega)
    rw [Int.mul_assoc]
    omega
abbrev s_doubled_root : Stmt := topS 8
abbrev N_doubled_root : List Str := ["one", "other"]
abbrev p_doubled_root : List Str := ["one", "other"]
theorem sc_doubled_root : FnScope N_doubled_root p_doubled_root (defScope s_doubled_root) := ⟨rfl, rfl, rfl, by decide +kernel, rfl, by decide +kernel, by decide +kernel⟩

def preRoot : List V → Hp → V → Prop := fun vs H z => ∃ a b : Int, vs = [.int a, .int b] ∧ Sz a b ∧ z = .int (rt (4 * a * b))
theorem ok_doubled_root (F : FunX K mg "doubled_root" s_doubled_root p_doubled_root) (T : Gs mg) : Def P w K mg base 1 "doubled_root" p_doubled_root (spF preRoot) := by
  refine F.def_ fun f fd F => F.ok sc_doubled_root (fun vs H Q E h => ?_) (fun cdv A outer s H vs Q E hr h => ?_)
  · obtain ⟨z, ⟨a, b, rfl, _⟩, _⟩ := h
    rfl
  · obtain ⟨z, ⟨a, b, rfl, hs, rfl⟩, q⟩ := h
    have nd := sc_doubled_root.nd
    refine ⟨_, (pss_one (ps_ret (pe_callBfun cr_isqrt (by rfl) T.isqrt (pa_cons (pe_op op_mul (pe_op op_mul pe_int (pv 0)) (pv 1)) pa_nil)))), ?_⟩
    obtain ⟨m0, m1⟩ := hs.mul
    have a0 := hs.1
    exact s_ret (ev_blt (ea_cons (ev_mul (ev_mul ev_c (ev_var rfl) (.inl ⟨by omega, by omega⟩)) (ev_var rfl) (.inl ⟨by omega, by omega⟩)) ea_nil) fun H1 _ Q q => ⟨_, rfl, m0, m1, q⟩) q
abbrev s_gap_of : Stmt := topS 9
abbrev N_gap_of : List Str := ["kind", "one", "other"]
abbrev p_gap_of : List Str := ["kind", "one", "other"]
theorem sc_gap_of : FnScope N_gap_of p_gap_of (defScope s_gap_of) := ⟨rfl, rfl, rfl, by decide +kernel, rfl, by decide +kernel, by decide +kernel⟩

def preGap : List V → Hp → V → Prop := fun vs H z => ∃ (k : Kd) (a b : Int), vs = [.str k.s, .int a, .int b] ∧ Sz a b ∧ z = .int (gapOf k a b)
theorem ok_gap_of (F : FunX K mg "gap_of" s_gap_of p_gap_of) (T : Gs mg) (Ddoubled_root : Def P w K mg base 1 "doubled_root" p_doubled_root (spF preRoot)) : Def P w K mg base 2 "gap_of" p_gap_of (spF preGap) := by
  refine F.def_ fun f fd F => F.ok sc_gap_of (fun vs H Q E h => ?_) (fun cdv A outer s H vs Q E hr h => ?_)
  · obtain ⟨z, ⟨k, a, b, rfl, _⟩, _⟩ := h
    rfl
  · obtain ⟨z, ⟨k, a, b, rfl, hs, rfl⟩, q⟩ := h
    have nd := sc_gap_of.nd
    refine ⟨_, (pss_one (ps_ret (pe_ifExp (pt_cmpR op_eq (pv 0) pe_str (nomark _)) (pe_op op_sub (pe_op op_add (pv 1) (pv 2)) (pe_D Ddoubled_root (hr.mono (by decide)) (pa_cons (pv 1) (pa_cons (pv 2) pa_nil)))) (pe_callB call_abs (by rfl) T.n_abs (by decide +kernel) (pa_cons (pe_op op_sub (pv 1) (pv 2)) pa_nil))))), ?_⟩
    exact s_ret (ev_iteI (et_sq (ev_var rfl) ev_c) (fun _ => ev_sub (ev_add (ev_var rfl) (ev_var rfl)) (ev_call (ea_cons (ev_var rfl) (ea_cons (ev_var rfl) ea_nil)) (spF_v fun H1 _ => ⟨a, b, rfl, hs, rfl⟩)))
      (fun _ => ev_abs (ev_sub (ev_var rfl) (ev_var rfl)))) q
abbrev s_least_beyond : Stmt := topS 10
abbrev N_least_beyond : List Str := ["kind", "from_centre", "radius"]
abbrev p_least_beyond : List Str := ["kind", "from_centre", "radius"]
theorem sc_least_beyond : FnScope N_least_beyond p_least_beyond (defScope s_least_beyond) := ⟨rfl, rfl, rfl, by decide +kernel, rfl, by decide +kernel, by decide +kernel⟩

def preLeast : List V → Hp → V → Prop := fun vs H z => ∃ (k : Kd) (a b : Int), vs = [.str k.s, .int a, .int b] ∧ Sz a b ∧ z = .int (leastBeyond k a b)
theorem ok_least_beyond (F : FunX K mg "least_beyond" s_least_beyond p_least_beyond) (T : Gs mg) (Dgap_of : Def P w K mg base 2 "gap_of" p_gap_of (spF preGap)) : Def P w K mg base 3 "least_beyond" p_least_beyond (spF preLeast) := by
  refine F.def_ fun f fd F => F.ok sc_least_beyond (fun vs H Q E h => ?_) (fun cdv A outer s H vs Q E hr h => ?_)
  · obtain ⟨z, ⟨k, a, b, rfl, _⟩, _⟩ := h
    rfl
  · obtain ⟨z, ⟨k, a, b, rfl, hs, rfl⟩, q⟩ := h
    have nd := sc_least_beyond.nd
    refine ⟨_, (pss_one (ps_ret (pe_ifExp (pt_cmpR op_gt (pv 1) (pv 2) (nomark _)) (pe_D Dgap_of (hr.mono (by decide)) (pa_cons (pv 0) (pa_cons (pv 1) (pa_cons (pv 2) pa_nil)))) pe_int))), ?_⟩
    refine s_ret (ev_is (ev_iteI (et_I (ev_var rfl) (ev_var rfl)) (fun _ => ev_call (ea_cons (ev_var rfl) (ea_cons (ev_var rfl) (ea_cons (ev_var rfl) ea_nil))) (spF_v fun H1 _ => ⟨k, a, b, rfl, hs, rfl⟩)) (fun _ => ev_c)) ?_) q
    unfold leastBeyond
    by_cases h : a > b
    · rw [if_pos h, if_pos (decide_eq_true h)]
    · rw [if_neg h, if_neg (by simpa using h)]
abbrev s_most_beyond : Stmt := topS 11
abbrev N_most_beyond : List Str := ["kind", "from_centre", "radius", "total"]
abbrev p_most_beyond : List Str := ["kind", "from_centre", "radius"]
theorem sc_most_beyond : FnScope N_most_beyond p_most_beyond (defScope s_most_beyond) := ⟨rfl, rfl, rfl, by decide +kernel, rfl, by decide +kernel, by decide +kernel⟩

def preMost : List V → Hp → V → Prop := fun vs H z => ∃ (k : Kd) (a b : Int), vs = [.str k.s, .int a, .int b] ∧ Sz a b ∧ z = .int (mostBeyond k a b)
theorem ok_most_beyond (F : FunX K mg "most_beyond" s_most_beyond p_most_beyond) (T : Gs mg) (Ddoubled_root : Def P w K mg base 1 "doubled_root" p_doubled_root (spF preRoot)) : Def P w K mg base 2 "most_beyond" p_most_beyond (spF preMost) := by
  refine F.def_ fun f fd F => F.ok sc_most_beyond (fun vs H Q E h => ?_) (fun cdv A outer s H vs Q E hr h => ?_)
  · obtain ⟨z, ⟨k, a, b, rfl, _⟩, _⟩ := h
    rfl
  · obtain ⟨z, ⟨k, a, b, rfl, hs, rfl⟩, q⟩ := h
    have nd := sc_most_beyond.nd
    refine ⟨_, (pss_cons (ps_set (i := 3) nd rfl (Or.inl rfl) (pe_op op_add (pv 1) (pv 2)))
    (pss_one (ps_ret (pe_ifExp (pt_cmpR op_eq (pv 0) pe_str (nomark _)) (pe_op op_add (pv 3) (pe_D Ddoubled_root (hr.mono (by decide)) (pa_cons (pv 1) (pa_cons (pv 2) pa_nil)))) (pv 3))))), ?_⟩
    refine q_asg (ev_add (ev_var rfl) (ev_var rfl)) fun H1 e1 => ?_
    exact s_ret (ev_iteI (et_sq (ev_var rfl) ev_c) (fun _ => ev_add (ev_var rfl) (ev_call (ea_cons (ev_var rfl) (ea_cons (ev_var rfl) ea_nil)) (spF_v fun H1 _ => ⟨a, b, rfl, hs, rfl⟩))) (fun _ => ev_var rfl)) fun H2 e2 => q H2 (e1.trans e2)
abbrev s_shell_of : Stmt := topS 13
abbrev N_shell_of : List Str := ["region"]
abbrev p_shell_of : List Str := ["region"]
theorem sc_shell_of : FnScope N_shell_of p_shell_of (defScope s_shell_of) := ⟨rfl, rfl, rfl, by decide +kernel, rfl, by decide +kernel, by decide +kernel⟩

def preShell (K : PySem.W.Frag) : List V → Hp → List V → Prop := fun vs H xs => ∃ v R, vs = [v] ∧ RegAt K H v R ∧ R.isBox = false ∧ xs = [.int R.low, .int R.high]
theorem ok_shell_of (F : FunX K mg "shell_of" s_shell_of p_shell_of) (T : Gs mg) : Def P w K mg base 1 "shell_of" p_shell_of (spU (preShell K)) := by
  refine F.def_ fun f fd F => F.ok sc_shell_of (fun vs H Q E h => ?_) (fun cdv A outer s H vs Q E hr h => ?_)
  · obtain ⟨z, ⟨v, R, rfl, _⟩, _⟩ := h
    rfl
  · obtain ⟨z, ⟨v, R, rfl, hR, hb, rfl⟩, q⟩ := h
    have nd := sc_shell_of.nd
    refine ⟨_, (pss_one (ps_ret (pe_ifExp (pt_cmpR op_eq (pe_ix (ix_tupK K) (pv 0) pe_int (fun _ _ => rfl)) pe_str (nomark _)) (pe_tup (pa_cons pe_int (pa_cons (pe_ix (ix_tupK K) (pv 0) pe_int (fun _ _ => rfl)) pa_nil))) (pe_tup (pa_cons (pe_ix (ix_tupK K) (pv 0) pe_int (fun _ _ => rfl)) (pa_cons (pe_ix (ix_tupK K) (pv 0) pe_int (fun _ _ => rfl)) pa_nil)))))), ?_⟩
    refine s_retU (eu_if (et_ball (ev_var rfl) hR) (fun e => ?_) (fun e => ?_)) q
    · cases R with
      | ball c r =>
        obtain ⟨a, b, rfl, h1, h2⟩ := hR
        exact eu_tup (ea_cons ev_c (ea_cons (ev_ixT (j := 2) (ev_var rfl) ev_c h1 rfl) ea_nil)) (by show 2 ≤ 100000; decide)
      | box _ _ => cases e
      | cell _ _ _ => cases e
    · cases R with
      | ball c r => cases e
      | box _ _ => cases hb
      | cell c l g =>
        obtain ⟨a, b, rfl, h1, h2⟩ := hR
        exact eu_tup (ea_cons (ev_ixT (j := 2) (ev_var rfl) ev_c h1 rfl) (ea_cons (ev_ixT (j := 3) (ev_var rfl) ev_c h1 rfl) ea_nil)) (by show 2 ≤ 100000; decide)
abbrev s_gap_to : Stmt := topS 15
abbrev N_gap_to : List Str := ["low", "high", "part"]
abbrev p_gap_to : List Str := ["low", "high", "part"]
theorem sc_gap_to : FnScope N_gap_to p_gap_to (defScope s_gap_to) := ⟨rfl, rfl, rfl, by decide +kernel, rfl, by decide +kernel, by decide +kernel⟩

def preGapTo : List V → Hp → V → Prop := fun vs H z => ∃ a b p : Int, vs = [.int a, .int b, .int p] ∧ z = .int (gapTo a b p)
theorem ok_gap_to (F : FunX K mg "gap_to" s_gap_to p_gap_to) (T : Gs mg) : Def P w K mg base 1 "gap_to" p_gap_to (spF preGapTo) := by
  refine F.def_ fun f fd F => F.ok sc_gap_to (fun vs H Q E h => ?_) (fun cdv A outer s H vs Q E hr h => ?_)
  · obtain ⟨z, ⟨a, b, p, rfl, _⟩, _⟩ := h
    rfl
  · obtain ⟨z, ⟨a, b, p, rfl, rfl⟩, q⟩ := h
    have nd := sc_gap_to.nd
    refine ⟨_, (pss_cons (ps_if (pt_cmpR op_lt (pv 2) (pv 0) (nomark _)) (pss_one (ps_ret (pe_op op_sub (pv 0) (pv 2)))) pss_nil)
    (pss_one (ps_ret (pe_ifExp (pt_cmpR op_gt (pv 2) (pv 1) (nomark _)) (pe_op op_sub (pv 2) (pv 1)) pe_int)))), ?_⟩
    refine q_if (et_I (ev_var rfl) (ev_var rfl)) (fun e H1 e1 => ?_) (fun e H1 e1 => ?_)
    · refine s_ret (ev_is (ev_sub (ev_var rfl) (ev_var rfl)) ?_) fun H2 e2 => q H2 (e1.trans e2)
      unfold gapTo
      rw [if_pos (of_decide_eq_true e)]
    · refine s_ret (ev_is (ev_iteI (et_I (ev_var rfl) (ev_var rfl)) (fun _ => ev_sub (ev_var rfl) (ev_var rfl)) (fun _ => ev_c)) ?_) fun H2 e2 => q H2 (e1.trans e2)
      unfold gapTo
      rw [if_neg (of_decide_eq_false e)]
      by_cases h : p > b
      · rw [if_pos h, if_pos (decide_eq_true h)]
      · rw [if_neg h, if_neg (by simpa using h)]
abbrev s_room_to : Stmt := topS 16
abbrev N_room_to : List Str := ["low", "high", "part"]
abbrev p_room_to : List Str := ["low", "high", "part"]
theorem sc_room_to : FnScope N_room_to p_room_to (defScope s_room_to) := ⟨rfl, rfl, rfl, by decide +kernel, rfl, by decide +kernel, by decide +kernel⟩

def preRoomTo : List V → Hp → V → Prop := fun vs H z => ∃ a b p : Int, vs = [.int a, .int b, .int p] ∧ z = .int (roomTo a b p)
theorem ok_room_to (F : FunX K mg "room_to" s_room_to p_room_to) (T : Gs mg) : Def P w K mg base 1 "room_to" p_room_to (spF preRoomTo) := by
  refine F.def_ fun f fd F => F.ok sc_room_to (fun vs H Q E h => ?_) (fun cdv A outer s H vs Q E hr h => ?_)
  · obtain ⟨z, ⟨a, b, p, rfl, _⟩, _⟩ := h
    rfl
  · obtain ⟨z, ⟨a, b, p, rfl, rfl⟩, q⟩ := h
    have nd := sc_room_to.nd
    refine ⟨_, (pss_one (ps_ret (pe_callB (call_max2 rfl) (by rfl) T.n_max (by decide +kernel) (pa_cons (pe_callB call_abs (by rfl) T.n_abs (by decide +kernel) (pa_cons (pe_op op_sub (pv 2) (pv 0)) pa_nil)) (pa_cons (pe_callB call_abs (by rfl) T.n_abs (by decide +kernel) (pa_cons (pe_op op_sub (pv 1) (pv 2)) pa_nil)) pa_nil))))), ?_⟩
    exact s_ret (ev_max (ev_abs (ev_sub (ev_var rfl) (ev_var rfl))) (ev_abs (ev_sub (ev_var rfl) (ev_var rfl)))) q
abbrev s_floor_of_shell : Stmt := topS 17
abbrev N_floor_of_shell : List Str := ["kind", "shell", "near", "far", "least", "greatest"]
abbrev p_floor_of_shell : List Str := ["kind", "shell", "near", "far"]
theorem sc_floor_of_shell : FnScope N_floor_of_shell p_floor_of_shell (defScope s_floor_of_shell) := ⟨rfl, rfl, rfl, by decide +kernel, rfl, by decide +kernel, by decide +kernel⟩

def preFShell (K : PySem.W.Frag) : List V → Hp → V → Prop := fun vs H z => ∃ (k : Kd) (v : V) (p : Addr) (l g a : Int), vs = [.str k.s, .ref p, .int a, .int a] ∧ SqT K H p [.int l, .int g] ∧ Sz a g ∧ Sz a l ∧ z = .int (shellFloor k l g a)
theorem ok_floor_of_shell (F : FunX K mg "floor_of_shell" s_floor_of_shell p_floor_of_shell) (T : Gs mg) (Dgap_of : Def P w K mg base 2 "gap_of" p_gap_of (spF preGap)) (Dleast_beyond : Def P w K mg base 3 "least_beyond" p_least_beyond (spF preLeast)) :
    Def P w K mg base 4 "floor_of_shell" p_floor_of_shell (spF (preFShell K)) := by
  refine F.def_ fun f fd F => F.ok sc_floor_of_shell (fun vs H Q E h => ?_) (fun cdv A outer s H vs Q E hr h => ?_)
  · obtain ⟨z, ⟨k, v, p, l, g, a, rfl, _⟩, _⟩ := h
    rfl
  · obtain ⟨z, ⟨k, v, p, l, g, a, rfl, hp, z1, z2, rfl⟩, q⟩ := h
    have nd := sc_floor_of_shell.nd
    refine ⟨_, (pss_cons (ps_asg (pv 1) (pg_tupK K 2 (pgs_cons (pg_name (i := 4) nd rfl (Or.inl rfl)) (pgs_cons (pg_name (i := 5) nd rfl (Or.inl rfl)) pgs_nil))))
    (pss_cons (ps_if (pt_cmpR op_gt (pv 2) (pv 5) (nomark _)) (pss_one (ps_ret (pe_D Dleast_beyond (hr.mono (by decide)) (pa_cons (pv 0) (pa_cons (pv 2) (pa_cons (pv 5) pa_nil)))))) pss_nil)
    (pss_one (ps_ret (pe_ifExp (pt_cmpR op_lt (pv 3) (pv 4) (nomark _)) (pe_D Dgap_of (hr.mono (by decide)) (pa_cons (pv 0) (pa_cons (pv 4) (pa_cons (pv 3) pa_nil)))) pe_int))))), ?_⟩
    refine q_unpT (ev_var rfl) hp fun H1 e1 => ?_
    refine q_if (et_I (ev_var rfl) (ev_var rfl)) (fun e H2 e2 => ?_) (fun e H2 e2 => ?_)
    · refine s_ret (ev_is (ev_call (ea_cons (ev_var rfl) (ea_cons (ev_var rfl) (ea_cons (ev_var rfl) ea_nil))) (spF_v fun H3 _ => ⟨k, a, g, rfl, z1, rfl⟩)) ?_) fun H3 e3 => q H3 ((e1.trans e2).trans e3)
      unfold shellFloor
      rw [if_pos (of_decide_eq_true e)]
    · refine s_ret (ev_is (ev_iteI (et_I (ev_var rfl) (ev_var rfl)) (fun _ => ev_call (ea_cons (ev_var rfl) (ea_cons (ev_var rfl) (ea_cons (ev_var rfl) ea_nil))) (spF_v fun H3 _ => ⟨k, l, a, rfl, z2.comm, rfl⟩)) (fun _ => ev_c)) ?_) fun H3 e3 => q H3 ((e1.trans e2).trans e3)
      unfold shellFloor
      rw [if_neg (of_decide_eq_false e)]
      by_cases h : a < l
      · rw [if_pos h, if_pos (decide_eq_true h)]
      · rw [if_neg h, if_neg (by simpa using h)]
abbrev s_capped : Stmt := topS 19
abbrev N_capped : List Str := ["kind", "number", "places"]
abbrev p_capped : List Str := ["kind", "number", "places"]
theorem sc_capped : FnScope N_capped p_capped (defScope s_capped) := ⟨rfl, rfl, rfl, by decide +kernel, rfl, by decide +kernel, by decide +kernel⟩

def preCapped : List V → Hp → V → Prop := fun vs H z => ∃ (k : Kd) (m n : Int), vs = [.str k.s, .int m, .int n] ∧ z = .int (capped k m n)
theorem ok_capped (F : FunX K mg "capped" s_capped p_capped) (T : Gs mg) : Def P w K mg base 1 "capped" p_capped (spF preCapped) := by
  refine F.def_ fun f fd F => F.ok sc_capped (fun vs H Q E h => ?_) (fun cdv A outer s H vs Q E hr h => ?_)
  · obtain ⟨z, ⟨k, m, n, rfl, _⟩, _⟩ := h
    rfl
  · obtain ⟨z, ⟨k, m, n, rfl, rfl⟩, q⟩ := h
    have nd := sc_capped.nd
    refine ⟨_, (pss_one (ps_ret (pe_ifExp (pt_cmpR op_eq (pv 0) pe_str (nomark _)) (pe_callB (call_min2 rfl) (by rfl) T.n_min (by decide +kernel) (pa_cons (pv 1) (pa_cons (pv 2) pa_nil))) (pv 1)))), ?_⟩
    exact s_ret (ev_iteI (et_un (ev_var rfl) ev_c) (fun _ => ev_min (ev_var rfl) (ev_var rfl)) (fun _ => ev_var rfl)) q
end
end K21
/-! F3: holds_vector, floor_of, ceiling_of. -/
namespace K21
open PySem PySem.Spec PyProof.Rows L2 Evl
structure Fit (R : Reg) (zs : List Int) : Prop where
  ok : R.Ok zs.length
  pos : 0 < zs.length
  few : zs.length ≤ 8
  sm : R.Sm
  bd : Bd zs
theorem Bd.one {zs : List Int} (h : Bd zs) {i : Nat} {a : Int} (e : zs[i]? = some a) : -20000 ≤ a ∧ a ≤ 20000 := h a (List.mem_of_getElem? e)
theorem dist_sz {k : Kd} {c zs : List Int} {g : Int} (hc : Bd c) (hz : Bd zs) (hl : c.length ≤ 8) (h0 : 0 ≤ g) (hg : g ≤ 30000000) : Sz (dist k c zs) g := by
  have h1 := dist_nn k c zs
  have h2 := dist_le k hc hz
  exact ⟨⟨h1, by omega⟩, ⟨h0, by omega⟩, .inr hg⟩
theorem zip3_inv (f : Int → Int → Int → α) : ∀ {as bs cs : List Int} {x : α}, x ∈ zip3 f as bs cs → ∃ a b c, a ∈ as ∧ b ∈ bs ∧ c ∈ cs ∧ x = f a b c
  | [], _, _, x, h => by cases h
  | _ :: _, [], _, x, h => by cases h
  | _ :: _, _ :: _, [], x, h => by cases h
  | a :: as, b :: bs, c :: cs, x, h => by
    rcases List.mem_cons.mp (show x ∈ f a b c :: zip3 f as bs cs from h) with rfl | h
    · exact ⟨a, b, c, List.mem_cons_self, List.mem_cons_self, List.mem_cons_self, rfl⟩
    · obtain ⟨a', b', c', h1, h2, h3, e⟩ := zip3_inv f h
      exact ⟨a', b', c', List.mem_cons_of_mem _ h1, List.mem_cons_of_mem _ h2, List.mem_cons_of_mem _ h3, e⟩
theorem gap_bd {lo hi v : List Int} (h1 : Bd lo) (h2 : Bd hi) (h3 : Bd v) : ∀ d ∈ zip3 gapTo lo hi v, -40000 ≤ d ∧ d ≤ 40000 := fun d hd => by
  obtain ⟨a, b, c, ha, hb, hc, rfl⟩ := zip3_inv gapTo hd
  have := h1 a ha
  have := h2 b hb
  have := h3 c hc
  unfold gapTo
  split
  · omega
  · split <;> omega
theorem room_bd {lo hi v : List Int} (h1 : Bd lo) (h2 : Bd hi) (h3 : Bd v) : ∀ d ∈ zip3 roomTo lo hi v, -40000 ≤ d ∧ d ≤ 40000 := fun d hd => by
  obtain ⟨a, b, c, ha, hb, hc, rfl⟩ := zip3_inv roomTo hd
  have := h1 a ha
  have := h2 b hb
  have := h3 c hc
  unfold roomTo max2 absI
  repeat' split
  all_goals omega
section
variable {P : Program} {w : World} {K : PySem.W.Frag} {mg : Str → Option Value} {base : Heap}
abbrev s_holds_vector : Stmt := topS 14
abbrev N_holds_vector : List Str := ["kind", "region", "vector", "least", "greatest", "low", "part", "high"]
abbrev p_holds_vector : List Str := ["kind", "region", "vector"]
theorem sc_holds_vector : FnScope N_holds_vector p_holds_vector (defScope s_holds_vector) := ⟨rfl, rfl, rfl, by decide +kernel, rfl, by decide +kernel, by decide +kernel⟩

def preHolds (K : PySem.W.Frag) : List V → Hp → V → Prop := fun vs H z => ∃ (k : Kd) (r v : V) (R : Reg) (zs : List Int), vs = [.str k.s, r, v] ∧ RegAt K H r R ∧ VecAt K H v zs ∧ Fit R zs ∧ z = .bl (holds k R zs)
theorem ok_holds_vector (F : FunX K mg "holds_vector" s_holds_vector p_holds_vector) (T : Gs mg) (Ddistance : Def P w K mg base 2 "distance" p_distance (spF (preDist K))) (Dshell_of : Def P w K mg base 1 "shell_of" p_shell_of (spU (preShell K))) :
    Def P w K mg base 3 "holds_vector" p_holds_vector (spF (preHolds K)) := by
  refine F.def_ fun f fd F => F.ok sc_holds_vector (fun vs H Q E h => ?_) (fun cdv A outer s H vs Q E hr h => ?_)
  · obtain ⟨z, ⟨k, r, v, R, zs, rfl, _⟩, _⟩ := h
    rfl
  · obtain ⟨z, ⟨k, r, v, R, zs, rfl, hR, hv, ft, rfl⟩, q⟩ := h
    have nd := sc_holds_vector.nd
    refine ⟨_, (pss_cons (ps_if (pt_cmpR op_eq (pe_ix (ix_tupK K) (pv 1) pe_int (fun _ _ => rfl)) pe_str (nomark _)) (pss_one (ps_ret (pe_callB (cr_allK K) (by rfl) T.n_all (by decide +kernel) (pa_cons (pe_lc (own := [("low", 5), ("part", 6), ("high", 7)]) rfl nd (pi_zip3 rfl T.n_zip (pa_cons (pe_ix (ix_tupK K) (pv 1) pe_int (fun _ _ => rfl)) (pa_cons (pv 2) (pa_cons (pe_ix (ix_tupK K) (pv 1) pe_int (fun _ _ => rfl)) pa_nil)))) (blkOk_by (own := [("low", 5), ("part", 6), ("high", 7)]) (N := N_holds_vector) (sc := defScope s_holds_vector) (by decide +kernel)) (fun _ _ _ _ _ => pg_tupK K 3 (pgs_cons (pg_name (i := 5) nd rfl (Or.inl rfl)) (pgs_cons (pg_name (i := 6) nd rfl (Or.inl rfl)) (pgs_cons (pg_name (i := 7) nd rfl (Or.inl rfl)) pgs_nil)))) (fun _ _ _ _ _ => pts_nil) (fun _ _ _ _ _ => pe_chain op_le op_le (pv 5) (pv 6) (pv 7))) pa_nil)))) pss_nil)
    (pss_cons (ps_asg (pe_D Dshell_of (hr.mono (by decide)) (pa_cons (pv 1) pa_nil)) (pg_tupK K 2 (pgs_cons (pg_name (i := 3) nd rfl (Or.inl rfl)) (pgs_cons (pg_name (i := 4) nd rfl (Or.inl rfl)) pgs_nil))))
    (pss_one (ps_ret (pe_chain op_le op_le (pv 3) (pe_D Ddistance (hr.mono (by decide)) (pa_cons (pv 0) (pa_cons (pe_ix (ix_tupK K) (pv 1) pe_int (fun _ _ => rfl)) (pa_cons (pv 2) pa_nil)))) (pv 4)))))), ?_⟩
    refine q_if (et_box (ev_var rfl) hR) (fun e H1 e1 => ?_) (fun e H1 e1 => ?_)
    · cases R with
      | ball _ _ => cases e
      | cell _ _ _ => cases e
      | box lo hi =>
        obtain ⟨a, b, d, rfl, h1, ⟨pb, rfl, hb⟩, ⟨pd, rfl, hd⟩⟩ := hR.mono e1
        obtain ⟨pv', rfl, hw⟩ := hv.mono e1
        obtain ⟨l1, l2, _⟩ := ft.ok
        refine s_ret (ev_allL (bs := zip3 (fun a p b => decide (a ≤ p) && decide (p ≤ b)) lo zs hi) (el_Z3 (n := zs.length) (ea_cons (ev_ixT (j := 1) (ev_var rfl) ev_c h1 rfl) (ea_cons (ev_var rfl) (ea_cons (ev_ixT (j := 2) (ev_var rfl) ev_c h1 rfl) ea_nil))) hb hw hd
          (by rw [List.length_map, l1]) (List.length_map _) (by rw [List.length_map, l2]) (by rw [List.length_map, zip3_len _ l1 rfl l2]) (by have := ft.few; omega) (fun _ _ _ => rfl) fun i x y t z H2 e2 hx hy ht hz => ?_)) fun H2 e2 => q H2 (e1.trans e2)
        obtain ⟨x', ex, rfl⟩ := vi_get hx
        obtain ⟨y', ey, rfl⟩ := vi_get hy
        obtain ⟨t', et, rfl⟩ := vi_get ht
        rw [List.getElem?_map, zip3_get _ ex ey et] at hz
        rw [← Option.some.inj hz]
        exact ev_chainI (ev_var rfl) (ev_var rfl) (ev_var rfl)
    · have hR1 := hR.mono e1
      refine q_unp (x := .int R.low) (y := .int R.high) (eu_call (ea_cons (ev_var rfl) ea_nil) (spU_v fun H2 e2 => ⟨_, R, rfl, hR1.mono e2, e, rfl⟩)) fun H2 e2 => ?_
      obtain ⟨pa, b, rest, rfl, h1, hb⟩ := (hR1.mono e2).parts
      have hv2 := (hv.mono e1).mono e2
      have lc : R.one.length = zs.length := by
        cases R with
        | ball c r => exact ft.ok.1
        | cell c l g => exact ft.ok.1
        | box _ _ => cases e
      have bc : Bd R.one := by
        cases R with
        | ball c r => exact ft.sm.1
        | cell c l g => exact ft.sm.1
        | box _ _ => cases e
      refine s_ret (ev_is (ev_chainI (ev_var rfl) (ev_call (ea_cons (ev_var rfl) (ea_cons (ev_ixT (j := 1) (ev_var rfl) ev_c h1 rfl) (ea_cons (ev_var rfl) ea_nil))) (spF_v fun H3 e3 => ⟨k, b, v, R.one, zs, rfl, hb.mono e3, hv2.mono e3, ⟨lc, by rw [lc]; exact ft.pos, by rw [lc]; exact Nat.le_trans ft.few (by decide)⟩, bc, ft.bd, rfl⟩)) (ev_var rfl)) ?_) fun H3 e3 => q H3 ((e1.trans e2).trans e3)
      cases R with
      | ball c r => rfl
      | cell c l g => rfl
      | box _ _ => cases e
abbrev s_floor_of : Stmt := topS 18
abbrev N_floor_of : List Str := ["kind", "region", "vector", "gaps", "away", "low", "high", "part", "gap"]
abbrev p_floor_of : List Str := ["kind", "region", "vector"]
theorem sc_floor_of : FnScope N_floor_of p_floor_of (defScope s_floor_of) := ⟨rfl, rfl, rfl, by decide +kernel, rfl, by decide +kernel, by decide +kernel⟩

def preFloor (K : PySem.W.Frag) : List V → Hp → V → Prop := fun vs H z => ∃ (k : Kd) (r v : V) (R : Reg) (zs : List Int), vs = [.str k.s, r, v] ∧ RegAt K H r R ∧ VecAt K H v zs ∧ Fit R zs ∧ z = .int (floorOf k R zs)
theorem ok_floor_of (F : FunX K mg "floor_of" s_floor_of p_floor_of) (T : Gs mg) (Dgap_to : Def P w K mg base 1 "gap_to" p_gap_to (spF preGapTo)) (Dpart_of : Def P w K mg base 1 "part_of" p_part_of (spF prePart)) (Djoined_parts : Def P w K mg base 1 "joined_parts" p_joined_parts (spF (preJoin K)))
    (Ddistance : Def P w K mg base 2 "distance" p_distance (spF (preDist K))) (Dshell_of : Def P w K mg base 1 "shell_of" p_shell_of (spU (preShell K))) (Dfloor_of_shell : Def P w K mg base 4 "floor_of_shell" p_floor_of_shell (spF (preFShell K))) :
    Def P w K mg base 5 "floor_of" p_floor_of (spF (preFloor K)) := by
  refine F.def_ fun f fd F => F.ok sc_floor_of (fun vs H Q E h => ?_) (fun cdv A outer s H vs Q E hr h => ?_)
  · obtain ⟨z, ⟨k, r, v, R, zs, rfl, _⟩, _⟩ := h
    rfl
  · obtain ⟨z, ⟨k, r, v, R, zs, rfl, hR, hv, ft, rfl⟩, q⟩ := h
    have nd := sc_floor_of.nd
    refine ⟨_, (pss_cons (ps_if (pt_cmpR op_eq (pe_ix (ix_tupK K) (pv 1) pe_int (fun _ _ => rfl)) pe_str (nomark _)) (pss_cons (ps_setLc (i := 3) (own := [("low", 5), ("high", 6), ("part", 7)]) rfl nd rfl rfl (sw_true rfl rfl rfl (by decide +kernel)) (pi_zip3 rfl T.n_zip (pa_cons (pe_ix (ix_tupK K) (pv 1) pe_int (fun _ _ => rfl)) (pa_cons (pe_ix (ix_tupK K) (pv 1) pe_int (fun _ _ => rfl)) (pa_cons (pv 2) pa_nil)))) (blkOk_by (own := [("low", 5), ("high", 6), ("part", 7)]) (N := N_floor_of) (sc := defScope s_floor_of) (by decide +kernel)) (fun _ _ _ _ _ => pg_tupK K 3 (pgs_cons (pg_name (i := 5) nd rfl (Or.inl rfl)) (pgs_cons (pg_name (i := 6) nd rfl (Or.inl rfl)) (pgs_cons (pg_name (i := 7) nd rfl (Or.inl rfl)) pgs_nil)))) (fun _ _ _ _ _ => pts_nil) (fun _ _ _ _ _ => pe_D Dgap_to (hr.mono (by decide)) (pa_cons (pv 5) (pa_cons (pv 6) (pa_cons (pv 7) pa_nil)))))
    (pss_one (ps_ret (pe_D Djoined_parts (hr.mono (by decide)) (pa_cons (pv 0) (pa_cons (pe_lc (own := [("gap", 8)]) (g := gName 8) rfl nd (pi_listK K (pv 3)) (blkOk_by (own := [("gap", 8)]) (N := N_floor_of) (sc := defScope s_floor_of) (by decide +kernel)) (fun _ _ _ _ _ => pg_name (i := 8) nd rfl (Or.inl rfl)) (fun _ _ _ _ _ => pts_nil) (fun _ _ _ _ _ => pe_D Dpart_of (hr.mono (by decide)) (pa_cons (pv 0) (pa_cons (pv 8) pa_nil)))) pa_nil)))))) pss_nil)
    (pss_cons (ps_set (i := 4) nd rfl (Or.inl rfl) (pe_D Ddistance (hr.mono (by decide)) (pa_cons (pv 0) (pa_cons (pe_ix (ix_tupK K) (pv 1) pe_int (fun _ _ => rfl)) (pa_cons (pv 2) pa_nil)))))
    (pss_one (ps_ret (pe_D Dfloor_of_shell (hr.mono (by decide)) (pa_cons (pv 0) (pa_cons (pe_D Dshell_of (hr.mono (by decide)) (pa_cons (pv 1) pa_nil)) (pa_cons (pv 4) (pa_cons (pv 4) pa_nil))))))))), ?_⟩
    refine q_if (et_box (ev_var rfl) hR) (fun e H1 e1 => ?_) (fun e H1 e1 => ?_)
    · cases R with
      | ball _ _ => cases e
      | cell _ _ _ => cases e
      | box lo hi =>
        obtain ⟨a, b, d, rfl, h1, ⟨pb, rfl, hb⟩, ⟨pd, rfl, hd⟩⟩ := hR.mono e1
        obtain ⟨pv', rfl, hw⟩ := hv.mono e1
        obtain ⟨l1, l2, _⟩ := ft.ok
        have hl := zip3_len gapTo l1 l2 rfl
        refine q_asgL (xs := vi (zip3 gapTo lo hi zs)) (el_Z3 (n := zs.length) (ea_cons (ev_ixT (j := 1) (ev_var rfl) ev_c h1 rfl) (ea_cons (ev_ixT (j := 2) (ev_var rfl) ev_c h1 rfl) (ea_cons (ev_var rfl) ea_nil))) hb hd hw
          (by rw [List.length_map, l1]) (by rw [List.length_map, l2]) (List.length_map _) (by rw [List.length_map, hl]) (by have := ft.few; omega) (fun _ _ _ => rfl) fun i x y t z H2 e2 hx hy ht hz => ?_) fun p H2 np e2 hp => ?_
        · obtain ⟨x', ex, rfl⟩ := vi_get hx
          obtain ⟨y', ey, rfl⟩ := vi_get hy
          obtain ⟨t', et, rfl⟩ := vi_get ht
          rw [List.getElem?_map, zip3_get _ ex ey et] at hz
          rw [← Option.some.inj hz]
          exact ev_call (ea_cons (ev_var rfl) (ea_cons (ev_var rfl) (ea_cons (ev_var rfl) ea_nil))) (spF_v fun H3 _ => ⟨x', y', t', rfl, rfl⟩)
        · refine s_ret (ev_callL2 (ev_var rfl) (el_L (l := vi ((zip3 gapTo lo hi zs).map (partOf k))) (ev_var rfl) (sq_of hp) (by rw [List.length_map, List.length_map, List.length_map]) (by rw [List.length_map, hl]; have := ft.few; omega) (fun _ => rfl) fun i x z H3 e3 hx hz => ?_)
            fun p' H3 hp' e3 => spF_v fun H4 e4 => ⟨k, p', _, rfl, sq_of (e4 p' _ hp'), by rw [List.length_map, hl]; exact ft.pos, parts_nn k _, rfl⟩) fun H3 e3 => q H3 ((e1.trans e2).trans e3)
          obtain ⟨x', ex, rfl⟩ := vi_get hx
          obtain ⟨z', ez, rfl⟩ := vi_get hz
          rw [List.getElem?_map, ex] at ez
          obtain rfl : partOf k x' = z' := Option.some.inj ez
          exact ev_call (ea_cons (ev_var rfl) (ea_cons (ev_var rfl) ea_nil)) (spF_v fun H4 _ => ⟨k, x', rfl, gap_bd ft.sm.1 ft.sm.2 ft.bd x' (List.mem_of_getElem? ex), rfl⟩)
    · have hR1 := hR.mono e1
      obtain ⟨pa, b, rest, rfl, h1, hb⟩ := hR1.parts
      have hv1 := hv.mono e1
      have lc : R.one.length = zs.length := by
        cases R with
        | ball c r => exact ft.ok.1
        | cell c l g => exact ft.ok.1
        | box _ _ => cases e
      have bc : Bd R.one := by
        cases R with
        | ball c r => exact ft.sm.1
        | cell c l g => exact ft.sm.1
        | box _ _ => cases e
      have h8 : R.one.length ≤ 8 := by
        rw [lc]
        exact ft.few
      have s1 : Sz (dist k R.one zs) R.high := by
        cases R with
        | ball c r => exact dist_sz bc ft.bd h8 ft.ok.2 ft.sm.2
        | cell c l g => exact dist_sz bc ft.bd h8 (Int.le_trans ft.ok.2.1 ft.ok.2.2) ft.sm.2
        | box _ _ => cases e
      have s2 : Sz (dist k R.one zs) R.low := by
        cases R with
        | ball c r => exact dist_sz bc ft.bd h8 (Int.le_refl _) (show (0 : Int) ≤ 30000000 by decide)
        | cell c l g => exact dist_sz bc ft.bd h8 ft.ok.2.1 (Int.le_trans ft.ok.2.2 ft.sm.2)
        | box _ _ => cases e
      refine q_asg (ev_call (ea_cons (ev_var rfl) (ea_cons (ev_ixT (j := 1) (ev_var rfl) ev_c h1 rfl) (ea_cons (ev_var rfl) ea_nil))) (spF_v fun H3 e3 => ⟨k, b, v, R.one, zs, rfl, hb.mono e3, hv1.mono e3, ⟨lc, by rw [lc]; exact ft.pos, by rw [lc]; exact Nat.le_trans ft.few (by decide)⟩, bc, ft.bd, rfl⟩)) fun H2 e2 => ?_
      have hR2 := hR1.mono e2
      refine s_ret (ev_is (ev_callU (ev_var rfl) (eu_call (ea_cons (ev_var rfl) ea_nil) (spU_v fun H3 e3 => ⟨_, R, rfl, hR2.mono e3, e, rfl⟩)) (ea_cons (ev_var rfl) (ea_cons (ev_var rfl) ea_nil)) fun p H3 hp e3 => spF_v fun H4 e4 => ⟨k, .non, p, R.low, R.high, _, rfl, st_of (e4 p _ hp), s1, s2, rfl⟩) ?_) fun H3 e3 => q H3 ((e1.trans e2).trans e3)
      cases R with
      | ball c r => rfl
      | cell c l g => rfl
      | box _ _ => cases e
abbrev s_ceiling_of : Stmt := topS 20
abbrev N_ceiling_of : List Str := ["kind", "region", "vector", "rooms", "away", "low", "high", "part", "room"]
abbrev p_ceiling_of : List Str := ["kind", "region", "vector"]
theorem sc_ceiling_of : FnScope N_ceiling_of p_ceiling_of (defScope s_ceiling_of) := ⟨rfl, rfl, rfl, by decide +kernel, rfl, by decide +kernel, by decide +kernel⟩

def preCeil (K : PySem.W.Frag) : List V → Hp → V → Prop := fun vs H z => ∃ (k : Kd) (r v : V) (R : Reg) (zs : List Int), vs = [.str k.s, r, v] ∧ RegAt K H r R ∧ VecAt K H v zs ∧ Fit R zs ∧ z = .int (ceilOf k R zs)
theorem ok_ceiling_of (F : FunX K mg "ceiling_of" s_ceiling_of p_ceiling_of) (T : Gs mg) (Droom_to : Def P w K mg base 1 "room_to" p_room_to (spF preRoomTo)) (Dpart_of : Def P w K mg base 1 "part_of" p_part_of (spF prePart)) (Djoined_parts : Def P w K mg base 1 "joined_parts" p_joined_parts (spF (preJoin K)))
    (Ddistance : Def P w K mg base 2 "distance" p_distance (spF (preDist K))) (Dshell_of : Def P w K mg base 1 "shell_of" p_shell_of (spU (preShell K))) (Dcapped : Def P w K mg base 1 "capped" p_capped (spF preCapped)) (Dmost_beyond : Def P w K mg base 2 "most_beyond" p_most_beyond (spF preMost)) :
    Def P w K mg base 5 "ceiling_of" p_ceiling_of (spF (preCeil K)) := by
  refine F.def_ fun f fd F => F.ok sc_ceiling_of (fun vs H Q E h => ?_) (fun cdv A outer s H vs Q E hr h => ?_)
  · obtain ⟨z, ⟨k, r, v, R, zs, rfl, _⟩, _⟩ := h
    rfl
  · obtain ⟨z, ⟨k, r, v, R, zs, rfl, hR, hv, ft, rfl⟩, q⟩ := h
    have nd := sc_ceiling_of.nd
    refine ⟨_, (pss_cons (ps_if (pt_cmpR op_eq (pe_ix (ix_tupK K) (pv 1) pe_int (fun _ _ => rfl)) pe_str (nomark _)) (pss_cons (ps_setLc (i := 3) (own := [("low", 5), ("high", 6), ("part", 7)]) rfl nd rfl rfl (sw_true rfl rfl rfl (by decide +kernel)) (pi_zip3 rfl T.n_zip (pa_cons (pe_ix (ix_tupK K) (pv 1) pe_int (fun _ _ => rfl)) (pa_cons (pe_ix (ix_tupK K) (pv 1) pe_int (fun _ _ => rfl)) (pa_cons (pv 2) pa_nil)))) (blkOk_by (own := [("low", 5), ("high", 6), ("part", 7)]) (N := N_ceiling_of) (sc := defScope s_ceiling_of) (by decide +kernel)) (fun _ _ _ _ _ => pg_tupK K 3 (pgs_cons (pg_name (i := 5) nd rfl (Or.inl rfl)) (pgs_cons (pg_name (i := 6) nd rfl (Or.inl rfl)) (pgs_cons (pg_name (i := 7) nd rfl (Or.inl rfl)) pgs_nil)))) (fun _ _ _ _ _ => pts_nil) (fun _ _ _ _ _ => pe_D Droom_to (hr.mono (by decide)) (pa_cons (pv 5) (pa_cons (pv 6) (pa_cons (pv 7) pa_nil)))))
    (pss_one (ps_ret (pe_D Djoined_parts (hr.mono (by decide)) (pa_cons (pv 0) (pa_cons (pe_lc (own := [("room", 8)]) (g := gName 8) rfl nd (pi_listK K (pv 3)) (blkOk_by (own := [("room", 8)]) (N := N_ceiling_of) (sc := defScope s_ceiling_of) (by decide +kernel)) (fun _ _ _ _ _ => pg_name (i := 8) nd rfl (Or.inl rfl)) (fun _ _ _ _ _ => pts_nil) (fun _ _ _ _ _ => pe_D Dpart_of (hr.mono (by decide)) (pa_cons (pv 0) (pa_cons (pv 8) pa_nil)))) pa_nil)))))) pss_nil)
    (pss_cons (ps_set (i := 4) nd rfl (Or.inl rfl) (pe_D Ddistance (hr.mono (by decide)) (pa_cons (pv 0) (pa_cons (pe_ix (ix_tupK K) (pv 1) pe_int (fun _ _ => rfl)) (pa_cons (pv 2) pa_nil)))))
    (pss_one (ps_ret (pe_D Dcapped (hr.mono (by decide)) (pa_cons (pv 0) (pa_cons (pe_D Dmost_beyond (hr.mono (by decide)) (pa_cons (pv 0) (pa_cons (pv 4) (pa_cons (pe_ix (ix_tupK K) (pe_D Dshell_of (hr.mono (by decide)) (pa_cons (pv 1) pa_nil)) pe_int (fun _ _ => rfl)) pa_nil)))) (pa_cons (pe_callB (call_lenK K) (by rfl) T.n_len PySem.boot_len (pa_cons (pv 2) pa_nil)) pa_nil)))))))), ?_⟩
    refine q_if (et_box (ev_var rfl) hR) (fun e H1 e1 => ?_) (fun e H1 e1 => ?_)
    · cases R with
      | ball _ _ => cases e
      | cell _ _ _ => cases e
      | box lo hi =>
        obtain ⟨a, b, d, rfl, h1, ⟨pb, rfl, hb⟩, ⟨pd, rfl, hd⟩⟩ := hR.mono e1
        obtain ⟨pv', rfl, hw⟩ := hv.mono e1
        obtain ⟨l1, l2, _⟩ := ft.ok
        have hl := zip3_len roomTo l1 l2 rfl
        refine q_asgL (xs := vi (zip3 roomTo lo hi zs)) (el_Z3 (n := zs.length) (ea_cons (ev_ixT (j := 1) (ev_var rfl) ev_c h1 rfl) (ea_cons (ev_ixT (j := 2) (ev_var rfl) ev_c h1 rfl) (ea_cons (ev_var rfl) ea_nil))) hb hd hw
          (by rw [List.length_map, l1]) (by rw [List.length_map, l2]) (List.length_map _) (by rw [List.length_map, hl]) (by have := ft.few; omega) (fun _ _ _ => rfl) fun i x y t z H2 e2 hx hy ht hz => ?_) fun p H2 np e2 hp => ?_
        · obtain ⟨x', ex, rfl⟩ := vi_get hx
          obtain ⟨y', ey, rfl⟩ := vi_get hy
          obtain ⟨t', et, rfl⟩ := vi_get ht
          rw [List.getElem?_map, zip3_get _ ex ey et] at hz
          rw [← Option.some.inj hz]
          exact ev_call (ea_cons (ev_var rfl) (ea_cons (ev_var rfl) (ea_cons (ev_var rfl) ea_nil))) (spF_v fun H3 _ => ⟨x', y', t', rfl, rfl⟩)
        · refine s_ret (ev_callL2 (ev_var rfl) (el_L (l := vi ((zip3 roomTo lo hi zs).map (partOf k))) (ev_var rfl) (sq_of hp) (by rw [List.length_map, List.length_map, List.length_map]) (by rw [List.length_map, hl]; have := ft.few; omega) (fun _ => rfl) fun i x z H3 e3 hx hz => ?_)
            fun p' H3 hp' e3 => spF_v fun H4 e4 => ⟨k, p', _, rfl, sq_of (e4 p' _ hp'), by rw [List.length_map, hl]; exact ft.pos, parts_nn k _, rfl⟩) fun H3 e3 => q H3 ((e1.trans e2).trans e3)
          obtain ⟨x', ex, rfl⟩ := vi_get hx
          obtain ⟨z', ez, rfl⟩ := vi_get hz
          rw [List.getElem?_map, ex] at ez
          obtain rfl : partOf k x' = z' := Option.some.inj ez
          exact ev_call (ea_cons (ev_var rfl) (ea_cons (ev_var rfl) ea_nil)) (spF_v fun H4 _ => ⟨k, x', rfl, room_bd ft.sm.1 ft.sm.2 ft.bd x' (List.mem_of_getElem? ex), rfl⟩)
    · have hR1 := hR.mono e1
      obtain ⟨pa, b, rest, rfl, h1, hb⟩ := hR1.parts
      have hv1 := hv.mono e1
      have lc : R.one.length = zs.length := by
        cases R with
        | ball c r => exact ft.ok.1
        | cell c l g => exact ft.ok.1
        | box _ _ => cases e
      have bc : Bd R.one := by
        cases R with
        | ball c r => exact ft.sm.1
        | cell c l g => exact ft.sm.1
        | box _ _ => cases e
      have h8 : R.one.length ≤ 8 := by
        rw [lc]
        exact ft.few
      have s1 : Sz (dist k R.one zs) R.high := by
        cases R with
        | ball c r => exact dist_sz bc ft.bd h8 ft.ok.2 ft.sm.2
        | cell c l g => exact dist_sz bc ft.bd h8 (Int.le_trans ft.ok.2.1 ft.ok.2.2) ft.sm.2
        | box _ _ => cases e
      refine q_asg (ev_call (ea_cons (ev_var rfl) (ea_cons (ev_ixT (j := 1) (ev_var rfl) ev_c h1 rfl) (ea_cons (ev_var rfl) ea_nil))) (spF_v fun H3 e3 => ⟨k, b, v, R.one, zs, rfl, hb.mono e3, hv1.mono e3, ⟨lc, by rw [lc]; exact ft.pos, by rw [lc]; exact Nat.le_trans ft.few (by decide)⟩, bc, ft.bd, rfl⟩)) fun H2 e2 => ?_
      have hR2 := hR1.mono e2
      refine s_ret (ev_is (ev_call (ea_cons (ev_var rfl) (ea_cons (ev_call (ea_cons (ev_var rfl) (ea_cons (ev_var rfl) (ea_cons (ev_ixU (j := 1) (v := .int R.high) (eu_call (ea_cons (ev_var rfl) ea_nil) (spU_v fun H3 e3 => ⟨_, R, rfl, hR2.mono e3, e, rfl⟩)) rfl) ea_nil))) (spF_v fun H3 e3 => ⟨k, _, R.high, rfl, s1, rfl⟩))
        (ea_cons (ev_lenV (ev_var rfl) (hv1.mono e2) rfl) ea_nil))) (spF_v fun H3 e3 => ⟨k, _, _, rfl, rfl⟩)) ?_) fun H3 e3 => q H3 ((e1.trans e2).trans e3)
      cases R with
      | ball c r => rfl
      | cell c l g => rfl
      | box _ _ => cases e
end
end K21
/-! F4: the law's own counting: parts, distances, roots, gaps. -/
namespace K21
open PySem PySem.Spec PyProof.Rows L2 Evl
/-! ### lists or tuples of ints -/
def SeqAt (K : PySem.W.Frag) (H : Hp) (v : V) (zs : List Int) : Prop := ∃ a, v = .ref a ∧ (SqL K H a (vi zs) ∨ SqT K H a (vi zs))
theorem SeqAt.mono {K : PySem.W.Frag} {H H' : Hp} {v : V} {zs : List Int} (e : Ex H H') (h : SeqAt K H v zs) : SeqAt K H' v zs := by
  obtain ⟨a, rfl, h | h⟩ := h
  · exact ⟨a, rfl, .inl (ex_l e h)⟩
  · exact ⟨a, rfl, .inr (ex_t e h)⟩
theorem VecAt.seq {K : PySem.W.Frag} {H : Hp} {v : V} {zs : List Int} (h : VecAt K H v zs) : SeqAt K H v zs := by
  obtain ⟨a, rfl, h⟩ := h
  exact ⟨a, rfl, .inr h⟩
section
variable {K : PySem.W.Frag} {σ : L2.St} {H H' : Hp} {ta tb tc te tx : TE} {t u : TT} {x y z v : V} {r : R2}
theorem ev_ixQ {w : V} {zs : List Int} {j : Nat} {i : Int} (ha : Ev ta σ H w) (hb : Ev tb σ H (.int (j : Int))) (h : SeqAt K H w zs) (hj : zs[j]? = some i) : Ev (tOp (rIx K) ta tb) σ H (.int i) := by
  obtain ⟨a, rfl, h⟩ := h
  have hj' : (vi zs)[j]? = some (.int i) := by
    rw [List.getElem?_map, hj] <;> rfl
  refine ev_op ha hb fun H1 e Q q => ?_
  rcases h with h | h
  · exact .inl ⟨a, vi zs, (j : Int), _, rfl, rfl, ex_l e h, atI_nat hj', q H1 (Ex.refl H1)⟩
  · exact .inr (.inl ⟨a, vi zs, (j : Int), _, rfl, rfl, ex_t e h, atI_nat hj', q H1 (Ex.refl H1)⟩)
theorem ev_lenQ {w : V} {zs : List Int} {n : Nat} (ha : Ev ta σ H w) (h : SeqAt K H w zs) (hn : zs.length = n) : Ev (tCB (rLen K) (tCons ta tNil)) σ H (.int (n : Int)) := by
  obtain ⟨a, rfl, h⟩ := h
  refine fun H1 e Q q => ha H1 e _ fun H2 e2 => ⟨.ref a, n, rfl, ?_, q H2 e2⟩
  have hl : n = (vi zs).length := by rw [List.length_map, hn]
  rcases h with h | h
  · exact .inl ⟨vi zs, ex_l (e.trans e2) h, hl⟩
  · exact .inr ⟨vi zs, ex_t (e.trans e2) h, hl⟩
theorem ev_intB {b : Bool} (ha : Ev ta σ H (.bl b)) : Ev (tCB (fun xs H Q => (∃ i, xs = [V.int i] ∧ Q (.int i) H) ∨ ∃ k, xs = [V.bl k] ∧ Q (.int (if k = true then 1 else 0)) H) (tCons ta tNil)) σ H (.int (if b = true then 1 else 0)) := ev_blt (ea_cons ha ea_nil) fun H1 _ Q q => .inr ⟨b, rfl, q⟩
theorem ev_intI {i : Int} (ha : Ev ta σ H (.int i)) : Ev (tCB (fun xs H Q => (∃ i, xs = [V.int i] ∧ Q (.int i) H) ∨ ∃ k, xs = [V.bl k] ∧ Q (.int (if k = true then 1 else 0)) H) (tCons ta tNil)) σ H (.int i) := ev_blt (ea_cons ha ea_nil) fun H1 _ Q q => .inl ⟨i, rfl, q⟩
/-- a comparison of ints as a value -/
theorem ev_cmpI {f : Int → Int → Bool} {i j : Int} (ha : Ev ta σ H (.int i)) (hb : Ev tb σ H (.int j)) : Ev (tOp (rI0 fun i j => .bl (f i j)) ta tb) σ H (.bl (f i j)) := ev_op ha hb rv_I0
theorem ev_div {i j : Int} (ha : Ev ta σ H (.int i)) (hb : Ev tb σ H (.int j)) (hc : CDiv i j) : Ev (tOp (rI CDiv fun i j => .int (i / j)) ta tb) σ H (.int (i / j)) := ev_op ha hb (rv_I hc)
end
theorem one_le_pow : ∀ i : Nat, (1 : Int) ≤ 2 ^ i
  | 0 => Int.le_refl _
  | i + 1 => by
    have := one_le_pow i
    rw [Int.pow_succ]
    omega
theorem pow_le : ∀ {i j : Nat}, i ≤ j → (2 : Int) ^ i ≤ 2 ^ j
  | i, 0, h => by
    have e : i = 0 := by omega
    subst e
    exact Int.le_refl _
  | i, j + 1, h => by
    rcases Nat.lt_or_ge j i with z | z
    · have e : i = j + 1 := by omega
      subst e
      exact Int.le_refl _
    · have := pow_le (i := i) (j := j) z
      have := one_le_pow j
      rw [Int.pow_succ]
      omega
/-! ### the fold that the law makes -/
def step (k : Kd) (found part : Int) : Int := if k.isMo = true then (if part > found then part else found) else found + part
theorem joined_snoc (k : Kd) : ∀ (l : List Int) (p : Int), 0 ≤ p → joined k (l ++ [p]) = step k (joined k l) p
  | [], p, h => by
    show comb k p 0 = step k 0 p
    unfold comb step
    split
    · split <;> split <;> omega
    · omega
  | a :: l, p, h => by
    show comb k a (joined k (l ++ [p])) = step k (comb k a (joined k l)) p
    rw [joined_snoc k l p h]
    unfold comb step
    cases k.isMo with
    | true =>
      simp only [if_true]
      generalize joined k l = j
      repeat' split
      all_goals omega
    | false =>
      simp only [Bool.false_eq_true, if_false]
      omega
section
variable {P : Program} {w : World} {K : PySem.W.Frag} {mg : Str → Option Value} {base : Heap}
abbrev s__law_part : Stmt := topS 25
abbrev N__law_part : List Str := ["_law_kind", "_law_one", "_law_other", "_law_size"]
abbrev p__law_part : List Str := ["_law_kind", "_law_one", "_law_other"]
theorem sc__law_part : FnScope N__law_part p__law_part (defScope s__law_part) := ⟨rfl, rfl, rfl, by decide +kernel, rfl, by decide +kernel, by decide +kernel⟩

def preLPart : List V → Hp → V → Prop := fun vs H z => ∃ (k : Kd) (a b : Int), vs = [.str k.s, .int a, .int b] ∧ (-40000 ≤ a - b ∧ a - b ≤ 40000) ∧ z = .int (partOf k (a - b))
theorem ok__law_part (F : FunX K mg "_law_part" s__law_part p__law_part) (T : Gs mg) : Def P w K mg base 1 "_law_part" p__law_part (spF preLPart) := by
  refine F.def_ fun f fd F => F.ok sc__law_part (fun vs H Q E h => ?_) (fun cdv A outer s H vs Q E hr h => ?_)
  · obtain ⟨z, ⟨k, a, b, rfl, _⟩, _⟩ := h
    rfl
  · obtain ⟨z, ⟨k, a, b, rfl, hd, rfl⟩, q⟩ := h
    have nd := sc__law_part.nd
    refine ⟨_, (pss_cons (ps_set (i := 3) nd rfl (Or.inl rfl) (pe_ifExp (pt_cmpR op_gt (pv 1) (pv 2) (nomark _)) (pe_op op_sub (pv 1) (pv 2)) (pe_op op_sub (pv 2) (pv 1))))
    (pss_one (ps_ret (pe_ifExp (pt_cmpR op_eq (pv 0) pe_str (nomark _)) (pe_op op_mul (pv 3) (pv 3)) (pe_ifExp (pt_cmpR op_eq (pv 0) pe_str (nomark _)) (pe_callTy call_int1 (by rfl) T.n_int (by decide +kernel) (pa_cons (pe_cmpR op_gt (pv 3) pe_int (nomark _)) pa_nil)) (pv 3)))))), ?_⟩
    have ea : (if decide (a > b) = true then a - b else b - a) = absI (a - b) := by
      unfold absI
      by_cases h : a > b
      · rw [if_pos (decide_eq_true h), if_neg (by omega)]
      · rw [if_neg (by simpa using h)]
        split <;> omega
    have a0 : 0 ≤ absI (a - b) ∧ absI (a - b) ≤ 40000 := by
      unfold absI
      split <;> omega
    refine q_asg (ev_is (ev_iteI (et_I (ev_var rfl) (ev_var rfl)) (fun _ => ev_sub (ev_var rfl) (ev_var rfl)) (fun _ => ev_sub (ev_var rfl) (ev_var rfl))) (congrArg V.int ea)) fun H1 e1 => ?_
    refine s_ret (ev_is (ev_iteI (et_sq (ev_var rfl) ev_c) (fun _ => ev_mul (ev_var rfl) (ev_var rfl) (.inl ⟨by omega, by omega⟩)) (fun _ => ev_iteI (et_un (ev_var rfl) ev_c) (fun _ => ev_intB (ev_cmpI (ev_var rfl) ev_c)) (fun _ => ev_var rfl))) ?_) fun H2 e2 => q H2 (e1.trans e2)
    rw [← part_abs k (a - b)]
    generalize absI (a - b) = c at *
    cases k <;> simp only [partOf, Kd.isSq, Kd.isUn, absI, if_true, if_false, Bool.false_eq_true]
    · rw [if_neg (by omega)]
    · rw [if_neg (by omega)]
    · by_cases h : c = 0
      · subst h
        rfl
      · rw [if_pos h, if_pos (decide_eq_true (by omega))]
abbrev s__law_distance : Stmt := topS 26
abbrev N__law_distance : List Str := ["_law_kind", "_law_one", "_law_other", "_law_found", "_law_place", "_law_part_here"]
abbrev p__law_distance : List Str := ["_law_kind", "_law_one", "_law_other"]
theorem sc__law_distance : FnScope N__law_distance p__law_distance (defScope s__law_distance) := ⟨rfl, rfl, rfl, by decide +kernel, rfl, by decide +kernel, by decide +kernel⟩

def preLDist (K : PySem.W.Frag) : List V → Hp → V → Prop := fun vs H z => ∃ k a b as bs, vs = [.str (Kd.s k), a, b] ∧ SeqAt K H a as ∧ SeqAt K H b bs ∧ (as.length = bs.length ∧ as.length ≤ 100) ∧ Bd as ∧ Bd bs ∧ z = .int (dist k as bs)
theorem ok__law_distance (F : FunX K mg "_law_distance" s__law_distance p__law_distance) (T : Gs mg) (D_law_part : Def P w K mg base 1 "_law_part" p__law_part (spF preLPart)) : Def P w K mg base 2 "_law_distance" p__law_distance (spF (preLDist K)) := by
  refine F.def_ fun f fd F => F.ok sc__law_distance (fun vs H Q E h => ?_) (fun cdv A outer s H vs Q E hr h => ?_)
  · obtain ⟨z, ⟨k, a, b, as, bs, rfl, _⟩, _⟩ := h
    rfl
  · obtain ⟨z, ⟨k, a, b, as, bs, rfl, ha, hb, ⟨hl, h100⟩, ba, bb, rfl⟩, q⟩ := h
    have nd := sc__law_distance.nd
    refine ⟨_, (pss_cons (ps_set (i := 3) nd rfl (Or.inl rfl) pe_int)
    (pss_cons (ps_for PassesOwn.never rfl (pi_range1 rfl T.n_range (pa_cons (pe_callB (call_lenK K) (by rfl) T.n_len PySem.boot_len (pa_cons (pv 1) pa_nil)) pa_nil)) (pg_name (i := 4) nd rfl (Or.inl rfl)) (pss_cons (ps_set (i := 5) nd rfl (Or.inl rfl) (pe_D D_law_part (hr.mono (by decide)) (pa_cons (pv 0) (pa_cons (pe_ix (ix_seqK K) (pv 1) (pv 4) (fun _ _ => rfl)) (pa_cons (pe_ix (ix_seqK K) (pv 2) (pv 4) (fun _ _ => rfl)) pa_nil)))))
    (pss_one (ps_set (i := 3) nd rfl (Or.inl rfl) (pe_ifExp (pt_cmpR op_eq (pv 0) pe_str (nomark _)) (pe_ifExp (pt_cmpR op_gt (pv 5) (pv 3) (nomark _)) (pv 5) (pv 3)) (pe_op op_add (pv 3) (pv 5)))))))
    (pss_one (ps_ret (pv 3))))), ?_⟩
    refine q_asg ev_c fun H1 e1 => ?_
    refine s_forR1 (n := (as.length : Int)) (ea_cons (ev_lenQ (ev_var rfl) (ha.mono e1) rfl) ea_nil) ⟨by omega, by omega⟩
      (fun i σ' H' => Ex H H' ∧ ∃ x y, σ' = [some (.str k.s), some a, some b, some (.int (joined k (((diffs as bs).map (partOf k)).take i))), x, y]) (fun H2 e2 => ⟨e1.trans e2, none, none, rfl⟩) (fun i σ' H' hi hP => ?_) (fun σ' H' hP => ?_)
    · obtain ⟨e2, x, y, rfl⟩ := hP
      have hi' : i < as.length := by omega
      have ga : as[i]? = some as[i] := List.getElem?_eq_getElem hi'
      have gb : bs[i]? = some bs[i] := List.getElem?_eq_getElem (by omega)
      have da := ba.one ga
      have db := bb.one gb
      refine q_asg (ev_call (ea_cons (ev_var rfl) (ea_cons (ev_ixQ (ev_var rfl) (ev_var rfl) (ha.mono e2) ga) (ea_cons (ev_ixQ (ev_var rfl) (ev_var rfl) (hb.mono e2) gb) ea_nil))) (spF_v fun H3 e3 => ⟨k, _, _, rfl, ⟨by omega, by omega⟩, rfl⟩)) fun H3 e3 => ?_
      refine s_asg (ev_iteI (et_mo (ev_var rfl) ev_c) (fun _ => ev_iteI (et_I (ev_var rfl) (ev_var rfl)) (fun _ => ev_var rfl) (fun _ => ev_var rfl)) (fun _ => ev_add (ev_var rfl) (ev_var rfl))) fun H4 e4 => ?_
      refine ⟨(e2.trans e3).trans e4, some (.int (i : Int)), some (.int (partOf k (as[i] - bs[i]))), ?_⟩
      have gd : ((diffs as bs).map (partOf k))[i]? = some (partOf k (as[i] - bs[i])) := by
        rw [List.getElem?_map]
        unfold diffs
        rw [List.getElem?_zipWith, ga, gb] <;> rfl
      rw [List.take_add_one, gd]
      show _ = [_, _, _, some (V.int (joined k (((diffs as bs).map (partOf k)).take i ++ [partOf k (as[i] - bs[i])]))), _, _]
      rw [joined_snoc k _ _ (part_nn k _)]
      unfold step
      simp only [decide_eq_true_eq]
      rfl
    · obtain ⟨e2, x, y, rfl⟩ := hP
      refine s_ret (ev_is (ev_var rfl) ?_) fun H3 e3 => q H3 (e2.trans e3)
      rw [Int.toNat_natCast, List.take_of_length_le (by rw [List.length_map, diffs_len hl] <;> exact Nat.le_refl _)] <;> rfl
abbrev s__law_root : Stmt := topS 27
abbrev N__law_root : List Str := ["_law_number", "_law_low", "_law_high", "_law_turn", "_law_middle"]
abbrev p__law_root : List Str := ["_law_number"]
theorem sc__law_root : FnScope N__law_root p__law_root (defScope s__law_root) := ⟨rfl, rfl, rfl, by decide +kernel, rfl, by decide +kernel, by decide +kernel⟩

def preLRoot : List V → Hp → V → Prop := fun vs H z => ∃ n : Int, vs = [.int n] ∧ (0 ≤ n ∧ n < 2 ^ 64) ∧ z = .int (rt n)
theorem ok__law_root (F : FunX K mg "_law_root" s__law_root p__law_root) (T : Gs mg) : Def P w K mg base 1 "_law_root" p__law_root (spF preLRoot) := by
  refine F.def_ fun f fd F => F.ok sc__law_root (fun vs H Q E h => ?_) (fun cdv A outer s H vs Q E hr h => ?_)
  · obtain ⟨z, ⟨n, rfl, _⟩, _⟩ := h
    rfl
  · obtain ⟨z, ⟨n, rfl, ⟨n0, n1⟩, rfl⟩, q⟩ := h
    have nd := sc__law_root.nd
    refine ⟨_, (pss_cons (ps_asg (pe_tup (pa_cons pe_int (pa_cons pe_int pa_nil))) (pg_tupK K 2 (pgs_cons (pg_name (i := 1) nd rfl (Or.inl rfl)) (pgs_cons (pg_name (i := 2) nd rfl (Or.inl rfl)) pgs_nil))))
    (pss_cons (ps_for PassesOwn.never rfl (pi_range1 rfl T.n_range (pa_cons pe_int pa_nil)) (pg_name (i := 3) nd rfl (Or.inl rfl)) (pss_cons (ps_if (pt_cmpR op_gt (pe_op op_mul (pv 2) (pv 2)) (pv 0) (nomark _)) (pss_one ps_break) pss_nil)
    (pss_one (ps_set (i := 2) nd rfl (Or.inl rfl) (pe_op op_mul (pv 2) pe_int)))))
    (pss_cons (ps_for PassesOwn.never rfl (pi_range1 rfl T.n_range (pa_cons pe_int pa_nil)) (pg_name (i := 3) nd rfl (Or.inl rfl)) (pss_cons (ps_if (pt_cmpR op_le (pe_op op_sub (pv 2) (pv 1)) pe_int (nomark _)) (pss_one ps_break) pss_nil)
    (pss_cons (ps_set (i := 4) nd rfl (Or.inl rfl) (pe_op op_fdiv (pe_op op_add (pv 1) (pv 2)) pe_int))
    (pss_one (ps_if (pt_cmpR op_le (pe_op op_mul (pv 4) (pv 4)) (pv 0) (nomark _)) (pss_one (ps_set (i := 1) nd rfl (Or.inl rfl) (pv 4))) (pss_one (ps_set (i := 2) nd rfl (Or.inl rfl) (pv 4))))))))
    (pss_one (ps_ret (pv 1)))))), ?_⟩
    refine q_unp (eu_tup (ea_cons ev_c (ea_cons ev_c ea_nil)) (by show 2 ≤ 100000; decide)) fun H1 e1 => ?_
    refine q_for (fun σ' H' => Ex H H' ∧ ∃ (h : Int) (x y : Option V), σ' = [some (.int n), some (.int 0), some (.int h), x, y] ∧ (1 ≤ h ∧ h ≤ 2 ^ 40) ∧ n < h * h) (fun nxt hn => ?_) (fun σ' H' hP => ?_)
    · refine s_forR1 (n := 40) (ea_cons ev_c ea_nil) ⟨by decide, by decide⟩
        (fun i σ' H' => i ≤ 40 ∧ Ex H H' ∧ ∃ x y : Option V, σ' = [some (.int n), some (.int 0), some (.int (2 ^ i)), x, y]) (fun H2 e2 => ⟨by decide, e1.trans e2, none, none, rfl⟩) (fun i σ' H' hi hP => ?_) (fun σ' H' hP => ?_)
      · obtain ⟨hi40, e2, x, y, rfl⟩ := hP
        have hi' : i < 40 := by omega
        have p1 : (1 : Int) ≤ 2 ^ i := one_le_pow _
        have p2 : (2 : Int) ^ i ≤ 2 ^ 40 := pow_le (by omega)
        refine q_if (et_I (ev_mul (ev_var rfl) (ev_var rfl) (.inl ⟨by omega, by omega⟩)) (ev_var rfl)) (fun e H3 e3 => ?_) (fun e H3 e3 => ?_)
        · exact hn _ _ ⟨e2.trans e3, 2 ^ i, _, _, rfl, ⟨p1, p2⟩, of_decide_eq_true e⟩
        · refine s_asg (ev_mul (ev_var rfl) ev_c (.inr ⟨by decide, by decide⟩)) fun H4 e4 => ⟨by omega, (e2.trans e3).trans e4, some (.int (i : Int)), y, ?_⟩
          rw [Int.pow_succ] <;> rfl
      · obtain ⟨_, e2, x, y, rfl⟩ := hP
        refine hn _ _ ⟨e2, 2 ^ 40, _, _, rfl, ⟨by decide, by decide⟩, ?_⟩
        have : (2 : Int) ^ 40 * 2 ^ 40 = 2 ^ 80 := by decide
        have : (2 : Int) ^ 64 < 2 ^ 80 := by decide
        omega
    · obtain ⟨e2, h, x, y, rfl, ⟨h1, h2⟩, hh⟩ := hP
      refine q_for (fun σ' H' => Ex H H' ∧ ∃ (l : Int) (a x y : Option V), σ' = [some (.int n), some (.int l), a, x, y] ∧ l = rt n) (fun nxt hn => ?_) (fun σ' H' hP => ?_)
      · have fin : ∀ (l h : Int) (x y : Option V) (H' : Hp), Ex H H' → 0 ≤ l → l * l ≤ n → n < h * h → h - l ≤ 1 → l < h → nxt [some (.int n), some (.int l), some (.int h), x, y] H' := fun l h x y H' e a1 a2 a3 a4 a5 => by
          refine hn _ _ ⟨e, l, _, _, _, rfl, ?_⟩
          have eh : h = l + 1 := by omega
          subst eh
          exact IsRt.uniq ⟨a1, a2, a3⟩ (rt_is n0)
        refine s_forR1 (n := 40) (ea_cons ev_c ea_nil) ⟨by decide, by decide⟩
          (fun i σ' H' => i ≤ 40 ∧ Ex H H' ∧ ∃ (l h : Int) (x y : Option V), σ' = [some (.int n), some (.int l), some (.int h), x, y] ∧ (0 ≤ l ∧ l < h ∧ h ≤ 2 ^ 40) ∧ l * l ≤ n ∧ n < h * h ∧ h - l ≤ 2 ^ (40 - i)) (fun H2 e3 => ⟨by decide, e2.trans e3, 0, h, x, y, rfl, ⟨by omega, by omega, h2⟩, by omega, hh, by
            show h - 0 ≤ 2 ^ 40
            omega⟩) (fun i σ' H' hi hP => ?_) (fun σ' H' hP => ?_)
        · obtain ⟨hi40, e3, l, h, x, y, rfl, ⟨l0, lh, hb⟩, ll, hh, hd⟩ := hP
          have hi' : i < 40 := by omega
          have ep : (2 : Int) ^ (40 - i) = 2 * 2 ^ (40 - (i + 1)) := by
            have : 40 - i = (40 - (i + 1)) + 1 := by omega
            rw [this, Int.pow_succ, Int.mul_comm]
          have pp : (1 : Int) ≤ 2 ^ (40 - (i + 1)) := one_le_pow _
          refine q_if (et_I (ev_sub (ev_var rfl) (ev_var rfl)) ev_c) (fun e H4 e4 => ?_) (fun e H4 e4 => ?_)
          · exact fin l h _ _ _ (e3.trans e4) l0 ll hh (of_decide_eq_true e) lh
          · have hgt : ¬ h - l ≤ 1 := of_decide_eq_false e
            refine q_asg (ev_div (ev_add (ev_var rfl) (ev_var rfl)) ev_c ⟨by decide, by decide⟩) fun H5 e5 => ?_
            have m1 : l < (l + h) / 2 := by omega
            have m2 : (l + h) / 2 < h := by omega
            generalize em : (l + h) / 2 = m at *
            refine s_if (et_I (ev_mul (ev_var rfl) (ev_var rfl) (.inl ⟨by omega, by omega⟩)) (ev_var rfl)) (fun c H6 e6 => ?_) (fun c H6 e6 => ?_)
            · exact s_asg (ev_var rfl) fun H7 e7 => ⟨by omega, (((e3.trans e4).trans e5).trans e6).trans e7, m, h, _, _, rfl, ⟨by omega, by omega, by omega⟩, of_decide_eq_true c, hh, by omega⟩
            · exact s_asg (ev_var rfl) fun H7 e7 => ⟨by omega, (((e3.trans e4).trans e5).trans e6).trans e7, l, m, _, _, rfl, ⟨by omega, by omega, by omega⟩, ll, by have := of_decide_eq_false c; omega, by omega⟩
        · obtain ⟨_, e3, l, h, x, y, rfl, ⟨l0, lh, hb⟩, ll, hh, hd⟩ := hP
          exact fin l h _ _ _ e3 l0 ll hh hd lh
      · obtain ⟨e3, l, a, x, y, rfl, rfl⟩ := hP
        exact s_ret (ev_var rfl) fun H4 e4 => q H4 (e3.trans e4)
end
end K21
/-! F5: the law's own gaps, holds, floors, ceilings. -/
namespace K21
open PySem PySem.Spec PyProof.Rows L2 Evl
theorem pick_bd {f : Int → Int → Int → Int} (hf : ∀ lo hi p : Int, lo ≤ hi → lo ≤ f lo hi p ∧ f lo hi p ≤ hi) :
    ∀ {lo hi p : List Int}, lo.length = hi.length → p.length = hi.length → Ordered lo hi → Bd lo → Bd hi → Bd (zip3 f lo hi p)
  | [], _, _, _, _, _, _, _ => fun z hz => by cases hz
  | _ :: _, [], _, h, _, _, _, _ => by simp at h
  | _ :: _, _ :: _, [], _, h, _, _, _ => by simp at h
  | a :: lo, b :: hi, x :: p, h1, h2, h4, b1, b2 => fun z hz => by
    obtain ⟨h5, h6⟩ := h4.tail
    have c1 := b1 a List.mem_cons_self
    have c2 := b2 b List.mem_cons_self
    rcases List.mem_cons.mp (show z ∈ f a b x :: zip3 f lo hi p from hz) with rfl | hz
    · have := hf a b x h5
      omega
    · exact pick_bd hf (by simpa using h1) (by simpa using h2) h6 (fun z hz => b1 z (List.mem_cons_of_mem _ hz)) (fun z hz => b2 z (List.mem_cons_of_mem _ hz)) z hz
theorem far2_in (k : Kd) (lo hi p : Int) (h : lo ≤ hi) : lo ≤ farAt2 k lo hi p ∧ farAt2 k lo hi p ≤ hi := by
  unfold farAt2
  repeat' split
  all_goals omega
section
variable {K : PySem.W.Frag} {σ : L2.St} {H H' : Hp} {ta tb tc te tx : TE} {t u : TT} {x y z v : V} {r : R2}
/-- the parts of a box at a place -/
theorem ev_boxAt {a : Addr} {xs : List V} {w : V} {zs : List Int} {m j : Nat} {i : Int} (ha : Ev ta σ H (.ref a)) (hq : SqT K H a xs) (hm : xs[m]? = some w) (hw : VecAt K H w zs) (hb : Ev tb σ H (.int (j : Int))) (hj : zs[j]? = some i) :
    Ev (tOp (rIxT K) (tOp (rIxT K) ta (tC (.int (m : Int)))) tb) σ H (.int i) := ev_ixV (ev_ixT ha ev_c hq hm) hb hw hj
end
section
variable {P : Program} {w : World} {K : PySem.W.Frag} {mg : Str → Option Value} {base : Heap}
abbrev s__law_gap : Stmt := topS 28
abbrev N__law_gap : List Str := ["_law_kind", "_law_one", "_law_other"]
abbrev p__law_gap : List Str := ["_law_kind", "_law_one", "_law_other"]
theorem sc__law_gap : FnScope N__law_gap p__law_gap (defScope s__law_gap) := ⟨rfl, rfl, rfl, by decide +kernel, rfl, by decide +kernel, by decide +kernel⟩

theorem ok__law_gap (F : FunX K mg "_law_gap" s__law_gap p__law_gap) (T : Gs mg) (D_law_root : Def P w K mg base 1 "_law_root" p__law_root (spF preLRoot)) : Def P w K mg base 2 "_law_gap" p__law_gap (spF preGap) := by
  refine F.def_ fun f fd F => F.ok sc__law_gap (fun vs H Q E h => ?_) (fun cdv A outer s H vs Q E hr h => ?_)
  · obtain ⟨z, ⟨k, a, b, rfl, _⟩, _⟩ := h
    rfl
  · obtain ⟨z, ⟨k, a, b, rfl, hs, rfl⟩, q⟩ := h
    have nd := sc__law_gap.nd
    refine ⟨_, (pss_one (ps_ret (pe_ifExp (pt_cmpR op_eq (pv 0) pe_str (nomark _)) (pe_op op_sub (pe_op op_add (pv 1) (pv 2)) (pe_D D_law_root (hr.mono (by decide)) (pa_cons (pe_op op_mul (pe_op op_mul pe_int (pv 1)) (pv 2)) pa_nil))) (pe_op op_sub (pe_callB (call_max2 rfl) (by rfl) T.n_max (by decide +kernel) (pa_cons (pv 1) (pa_cons (pv 2) pa_nil))) (pe_callB (call_min2 rfl) (by rfl) T.n_min (by decide +kernel) (pa_cons (pv 1) (pa_cons (pv 2) pa_nil))))))), ?_⟩
    have a0 := hs.1
    refine s_ret (ev_is (ev_iteI (et_sq (ev_var rfl) ev_c) (fun _ => ev_sub (ev_add (ev_var rfl) (ev_var rfl)) (ev_call (ea_cons (ev_mul (ev_mul ev_c (ev_var rfl) (.inl ⟨by omega, by omega⟩)) (ev_var rfl) (.inl ⟨by omega, by omega⟩)) ea_nil) (spF_v fun H1 _ => ⟨_, rfl, hs.mul, rfl⟩)))
      (fun _ => ev_sub (ev_max (ev_var rfl) (ev_var rfl)) (ev_min (ev_var rfl) (ev_var rfl)))) ?_) q
    unfold gapOf
    have e : max2 a b - min2 a b = absI (a - b) := by
      unfold max2 min2 absI
      repeat' split
      all_goals omega
    rw [e]
abbrev s__law_most : Stmt := topS 29
abbrev N__law_most : List Str := ["_law_kind", "_law_one", "_law_other"]
abbrev p__law_most : List Str := ["_law_kind", "_law_one", "_law_other"]
theorem sc__law_most : FnScope N__law_most p__law_most (defScope s__law_most) := ⟨rfl, rfl, rfl, by decide +kernel, rfl, by decide +kernel, by decide +kernel⟩

theorem ok__law_most (F : FunX K mg "_law_most" s__law_most p__law_most) (T : Gs mg) (D_law_root : Def P w K mg base 1 "_law_root" p__law_root (spF preLRoot)) : Def P w K mg base 2 "_law_most" p__law_most (spF preMost) := by
  refine F.def_ fun f fd F => F.ok sc__law_most (fun vs H Q E h => ?_) (fun cdv A outer s H vs Q E hr h => ?_)
  · obtain ⟨z, ⟨k, a, b, rfl, _⟩, _⟩ := h
    rfl
  · obtain ⟨z, ⟨k, a, b, rfl, hs, rfl⟩, q⟩ := h
    have nd := sc__law_most.nd
    refine ⟨_, (pss_one (ps_ret (pe_op op_add (pe_op op_add (pv 1) (pv 2)) (pe_ifExp (pt_cmpR op_eq (pv 0) pe_str (nomark _)) (pe_D D_law_root (hr.mono (by decide)) (pa_cons (pe_op op_mul (pe_op op_mul pe_int (pv 1)) (pv 2)) pa_nil)) pe_int)))), ?_⟩
    have a0 := hs.1
    refine s_ret (ev_is (ev_add (ev_add (ev_var rfl) (ev_var rfl)) (ev_iteI (et_sq (ev_var rfl) ev_c) (fun _ => ev_call (ea_cons (ev_mul (ev_mul ev_c (ev_var rfl) (.inl ⟨by omega, by omega⟩)) (ev_var rfl) (.inl ⟨by omega, by omega⟩)) ea_nil) (spF_v fun H1 _ => ⟨_, rfl, hs.mul, rfl⟩)) (fun _ => ev_c))) ?_) q
    unfold mostBeyond
    cases k.isSq with
    | true => rfl
    | false => exact congrArg V.int (Int.add_zero _)
abbrev s__law_shell : Stmt := topS 30
abbrev N__law_shell : List Str := ["_law_region_here"]
abbrev p__law_shell : List Str := ["_law_region_here"]
theorem sc__law_shell : FnScope N__law_shell p__law_shell (defScope s__law_shell) := ⟨rfl, rfl, rfl, by decide +kernel, rfl, by decide +kernel, by decide +kernel⟩

theorem ok__law_shell (F : FunX K mg "_law_shell" s__law_shell p__law_shell) (T : Gs mg) : Def P w K mg base 1 "_law_shell" p__law_shell (spU (preShell K)) := by
  refine F.def_ fun f fd F => F.ok sc__law_shell (fun vs H Q E h => ?_) (fun cdv A outer s H vs Q E hr h => ?_)
  · obtain ⟨z, ⟨v, R, rfl, _⟩, _⟩ := h
    rfl
  · obtain ⟨z, ⟨v, R, rfl, hR, hb, rfl⟩, q⟩ := h
    have nd := sc__law_shell.nd
    refine ⟨_, (pss_one (ps_ret (pe_ifExp (pt_cmpR op_eq (pe_ix (ix_tupK K) (pv 0) pe_int (fun _ _ => rfl)) pe_str (nomark _)) (pe_tup (pa_cons pe_int (pa_cons (pe_ix (ix_tupK K) (pv 0) pe_int (fun _ _ => rfl)) pa_nil))) (pe_tup (pa_cons (pe_ix (ix_tupK K) (pv 0) pe_int (fun _ _ => rfl)) (pa_cons (pe_ix (ix_tupK K) (pv 0) pe_int (fun _ _ => rfl)) pa_nil)))))), ?_⟩
    refine s_retU (eu_if (et_ball (ev_var rfl) hR) (fun e => ?_) (fun e => ?_)) q
    · cases R with
      | ball c r =>
        obtain ⟨a, b, rfl, h1, h2⟩ := hR
        exact eu_tup (ea_cons ev_c (ea_cons (ev_ixT (j := 2) (ev_var rfl) ev_c h1 rfl) ea_nil)) (by show 2 ≤ 100000; decide)
      | box _ _ => cases e
      | cell _ _ _ => cases e
    · cases R with
      | ball c r => cases e
      | box _ _ => cases hb
      | cell c l g =>
        obtain ⟨a, b, rfl, h1, h2⟩ := hR
        exact eu_tup (ea_cons (ev_ixT (j := 2) (ev_var rfl) ev_c h1 rfl) (ea_cons (ev_ixT (j := 3) (ev_var rfl) ev_c h1 rfl) ea_nil)) (by show 2 ≤ 100000; decide)
abbrev s__law_holds : Stmt := topS 31
abbrev N__law_holds : List Str := ["_law_kind", "_law_region_here", "_law_vector", "_law_least", "_law_greatest", "_law_at"]
abbrev p__law_holds : List Str := ["_law_kind", "_law_region_here", "_law_vector"]
theorem sc__law_holds : FnScope N__law_holds p__law_holds (defScope s__law_holds) := ⟨rfl, rfl, rfl, by decide +kernel, rfl, by decide +kernel, by decide +kernel⟩

theorem ok__law_holds (F : FunX K mg "_law_holds" s__law_holds p__law_holds) (T : Gs mg) (D_law_distance : Def P w K mg base 2 "_law_distance" p__law_distance (spF (preLDist K))) (D_law_shell : Def P w K mg base 1 "_law_shell" p__law_shell (spU (preShell K))) :
    Def P w K mg base 3 "_law_holds" p__law_holds (spF (preHolds K)) := by
  refine F.def_ fun f fd F => F.ok sc__law_holds (fun vs H Q E h => ?_) (fun cdv A outer s H vs Q E hr h => ?_)
  · obtain ⟨z, ⟨k, r, v, R, zs, rfl, _⟩, _⟩ := h
    rfl
  · obtain ⟨z, ⟨k, r, v, R, zs, rfl, hR, hv, ft, rfl⟩, q⟩ := h
    have nd := sc__law_holds.nd
    refine ⟨_, (pss_cons (ps_if (pt_cmpR op_eq (pe_ix (ix_tupK K) (pv 1) pe_int (fun _ _ => rfl)) pe_str (nomark _)) (pss_one (ps_ret (pe_callB (cr_allK K) (by rfl) T.n_all (by decide +kernel) (pa_cons (pe_lc (own := [("_law_at", 5)]) (g := gName 5) rfl nd (pi_range1 rfl T.n_range (pa_cons (pe_callB (call_lenK K) (by rfl) T.n_len PySem.boot_len (pa_cons (pv 2) pa_nil)) pa_nil)) (blkOk_by (own := [("_law_at", 5)]) (N := N__law_holds) (sc := defScope s__law_holds) (by decide +kernel)) (fun _ _ _ _ _ => pg_name (i := 5) nd rfl (Or.inl rfl)) (fun _ _ _ _ _ => pts_nil) (fun _ _ _ _ _ => pe_chain op_le op_le (pe_ix (ix_tupK K) (pe_ix (ix_tupK K) (pv 1) pe_int (fun _ _ => rfl)) (pv 5) (fun _ _ => rfl)) (pe_ix (ix_tupK K) (pv 2) (pv 5) (fun _ _ => rfl)) (pe_ix (ix_tupK K) (pe_ix (ix_tupK K) (pv 1) pe_int (fun _ _ => rfl)) (pv 5) (fun _ _ => rfl)))) pa_nil)))) pss_nil)
    (pss_cons (ps_asg (pe_D D_law_shell (hr.mono (by decide)) (pa_cons (pv 1) pa_nil)) (pg_tupK K 2 (pgs_cons (pg_name (i := 3) nd rfl (Or.inl rfl)) (pgs_cons (pg_name (i := 4) nd rfl (Or.inl rfl)) pgs_nil))))
    (pss_one (ps_ret (pe_chain op_le op_le (pv 3) (pe_D D_law_distance (hr.mono (by decide)) (pa_cons (pv 0) (pa_cons (pe_ix (ix_tupK K) (pv 1) pe_int (fun _ _ => rfl)) (pa_cons (pv 2) pa_nil)))) (pv 4)))))), ?_⟩
    refine q_if (et_box (ev_var rfl) hR) (fun e H1 e1 => ?_) (fun e H1 e1 => ?_)
    · cases R with
      | ball _ _ => cases e
      | cell _ _ _ => cases e
      | box lo hi =>
        obtain ⟨a, b, d, rfl, h1, hb, hd⟩ := hR.mono e1
        have hw := hv.mono e1
        obtain ⟨l1, l2, _⟩ := ft.ok
        have hl := zip3_len (fun a p b => decide (a ≤ p) && decide (p ≤ b)) l1 rfl l2
        refine s_ret (ev_allL (bs := zip3 (fun a p b => decide (a ≤ p) && decide (p ≤ b)) lo zs hi) (el_R1 (n := zs.length) (ea_cons (ev_lenV (ev_var rfl) hw rfl) ea_nil) (by rw [List.length_map, hl]) (by have := ft.few; omega) (fun _ => rfl) fun i z H2 e2 hlt hz => ?_)) fun H2 e2 => q H2 (e1.trans e2)
        have ga : lo[i]? = some lo[i] := List.getElem?_eq_getElem (by omega)
        have gb : zs[i]? = some zs[i] := List.getElem?_eq_getElem hlt
        have gc := List.getElem?_eq_getElem (show i < hi.length by omega)
        rw [List.getElem?_map, zip3_get _ ga gb gc] at hz
        rw [← Option.some.inj hz]
        exact ev_chainI (ev_boxAt (m := 1) (ev_var rfl) (ex_t e2 h1) rfl (hb.mono e2) (ev_var rfl) ga) (ev_ixV (ev_var rfl) (ev_var rfl) (hw.mono e2) gb) (ev_boxAt (m := 2) (ev_var rfl) (ex_t e2 h1) rfl (hd.mono e2) (ev_var rfl) gc)
    · have hR1 := hR.mono e1
      refine q_unp (x := .int R.low) (y := .int R.high) (eu_call (ea_cons (ev_var rfl) ea_nil) (spU_v fun H2 e2 => ⟨_, R, rfl, hR1.mono e2, e, rfl⟩)) fun H2 e2 => ?_
      obtain ⟨pa, b, rest, rfl, h1, hb⟩ := (hR1.mono e2).parts
      have hv2 := (hv.mono e1).mono e2
      have lc : R.one.length = zs.length := by
        cases R with
        | ball c r => exact ft.ok.1
        | cell c l g => exact ft.ok.1
        | box _ _ => cases e
      have bc : Bd R.one := by
        cases R with
        | ball c r => exact ft.sm.1
        | cell c l g => exact ft.sm.1
        | box _ _ => cases e
      refine s_ret (ev_is (ev_chainI (ev_var rfl) (ev_call (ea_cons (ev_var rfl) (ea_cons (ev_ixT (j := 1) (ev_var rfl) ev_c h1 rfl) (ea_cons (ev_var rfl) ea_nil))) (spF_v fun H3 e3 => ⟨k, b, v, R.one, zs, rfl, (hb.mono e3).seq, (hv2.mono e3).seq, ⟨lc, by rw [lc]; exact Nat.le_trans ft.few (by decide)⟩, bc, ft.bd, rfl⟩)) (ev_var rfl)) ?_) fun H3 e3 => q H3 ((e1.trans e2).trans e3)
      cases R with
      | ball c r => rfl
      | cell c l g => rfl
      | box _ _ => cases e
abbrev s__law_floor : Stmt := topS 33
abbrev N__law_floor : List Str := ["_law_kind", "_law_region_here", "_law_vector", "_law_nearest", "_law_least", "_law_greatest", "_law_away", "_law_at"]
abbrev p__law_floor : List Str := ["_law_kind", "_law_region_here", "_law_vector"]
theorem sc__law_floor : FnScope N__law_floor p__law_floor (defScope s__law_floor) := ⟨rfl, rfl, rfl, by decide +kernel, rfl, by decide +kernel, by decide +kernel⟩

theorem ok__law_floor (F : FunX K mg "_law_floor" s__law_floor p__law_floor) (T : Gs mg) (D_law_distance : Def P w K mg base 2 "_law_distance" p__law_distance (spF (preLDist K))) (D_law_shell : Def P w K mg base 1 "_law_shell" p__law_shell (spU (preShell K)))
    (D_law_gap : Def P w K mg base 2 "_law_gap" p__law_gap (spF preGap)) : Def P w K mg base 3 "_law_floor" p__law_floor (spF (preFloor K)) := by
  refine F.def_ fun f fd F => F.ok sc__law_floor (fun vs H Q E h => ?_) (fun cdv A outer s H vs Q E hr h => ?_)
  · obtain ⟨z, ⟨k, r, v, R, zs, rfl, _⟩, _⟩ := h
    rfl
  · obtain ⟨z, ⟨k, r, v, R, zs, rfl, hR, hv, ft, rfl⟩, q⟩ := h
    have nd := sc__law_floor.nd
    refine ⟨_, (pss_cons (ps_if (pt_cmpR op_eq (pe_ix (ix_tupK K) (pv 1) pe_int (fun _ _ => rfl)) pe_str (nomark _)) (pss_cons (ps_setLc (i := 3) (own := [("_law_at", 7)]) (g := gName 7) rfl nd rfl rfl (sw_true rfl rfl rfl (by decide +kernel)) (pi_range1 rfl T.n_range (pa_cons (pe_callB (call_lenK K) (by rfl) T.n_len PySem.boot_len (pa_cons (pv 2) pa_nil)) pa_nil)) (blkOk_by (own := [("_law_at", 7)]) (N := N__law_floor) (sc := defScope s__law_floor) (by decide +kernel)) (fun _ _ _ _ _ => pg_name (i := 7) nd rfl (Or.inl rfl)) (fun _ _ _ _ _ => pts_nil) (fun _ _ _ _ _ => pe_callB (call_min2 rfl) (by rfl) T.n_min (by decide +kernel) (pa_cons (pe_callB (call_max2 rfl) (by rfl) T.n_max (by decide +kernel) (pa_cons (pe_ix (ix_tupK K) (pv 2) (pv 7) (fun _ _ => rfl)) (pa_cons (pe_ix (ix_tupK K) (pe_ix (ix_tupK K) (pv 1) pe_int (fun _ _ => rfl)) (pv 7) (fun _ _ => rfl)) pa_nil))) (pa_cons (pe_ix (ix_tupK K) (pe_ix (ix_tupK K) (pv 1) pe_int (fun _ _ => rfl)) (pv 7) (fun _ _ => rfl)) pa_nil))))
    (pss_one (ps_ret (pe_D D_law_distance (hr.mono (by decide)) (pa_cons (pv 0) (pa_cons (pv 2) (pa_cons (pv 3) pa_nil))))))) pss_nil)
    (pss_cons (ps_asg (pe_D D_law_shell (hr.mono (by decide)) (pa_cons (pv 1) pa_nil)) (pg_tupK K 2 (pgs_cons (pg_name (i := 4) nd rfl (Or.inl rfl)) (pgs_cons (pg_name (i := 5) nd rfl (Or.inl rfl)) pgs_nil))))
    (pss_cons (ps_set (i := 6) nd rfl (Or.inl rfl) (pe_D D_law_distance (hr.mono (by decide)) (pa_cons (pv 0) (pa_cons (pv 2) (pa_cons (pe_ix (ix_tupK K) (pv 1) pe_int (fun _ _ => rfl)) pa_nil)))))
    (pss_one (ps_ret (pe_ifExp (pt_cmpR op_gt (pv 6) (pv 5) (nomark _)) (pe_D D_law_gap (hr.mono (by decide)) (pa_cons (pv 0) (pa_cons (pv 6) (pa_cons (pv 5) pa_nil)))) (pe_ifExp (pt_cmpR op_lt (pv 6) (pv 4) (nomark _)) (pe_D D_law_gap (hr.mono (by decide)) (pa_cons (pv 0) (pa_cons (pv 6) (pa_cons (pv 4) pa_nil)))) pe_int))))))), ?_⟩
    refine q_if (et_box (ev_var rfl) hR) (fun e H1 e1 => ?_) (fun e H1 e1 => ?_)
    · cases R with
      | ball _ _ => cases e
      | cell _ _ _ => cases e
      | box lo hi =>
        obtain ⟨a, b, d, rfl, h1, hb, hd⟩ := hR.mono e1
        have hw := hv.mono e1
        obtain ⟨l1, l2, l3⟩ := id ft.ok
        have hl := zip3_len nearAt l1 l2 rfl
        refine q_asgL (xs := vi (nearest lo hi zs)) (el_R1 (n := zs.length) (ea_cons (ev_lenV (ev_var rfl) hw rfl) ea_nil) ((List.length_map _).trans hl) (by have := ft.few; omega) (fun _ => rfl) fun i z H2 e2 hlt hz => ?_) fun p H2 np e2 hp => ?_
        · have ga : lo[i]? = some lo[i] := List.getElem?_eq_getElem (by omega)
          have gb : zs[i]? = some zs[i] := List.getElem?_eq_getElem hlt
          have gc := List.getElem?_eq_getElem (show i < hi.length by omega)
          unfold nearest at hz
          rw [List.getElem?_map, zip3_get _ ga gc gb] at hz
          rw [← Option.some.inj hz]
          exact ev_min (ev_max (ev_ixV (ev_var rfl) (ev_var rfl) (hw.mono e2) gb) (ev_boxAt (m := 1) (ev_var rfl) (ex_t e2 h1) rfl (hb.mono e2) (ev_var rfl) ga)) (ev_boxAt (m := 2) (ev_var rfl) (ex_t e2 h1) rfl (hd.mono e2) (ev_var rfl) gc)
        · refine s_ret (ev_is (ev_call (ea_cons (ev_var rfl) (ea_cons (ev_var rfl) (ea_cons (ev_var rfl) ea_nil))) (spF_v fun H3 e3 => ⟨k, v, .ref p, zs, nearest lo hi zs, rfl, (hw.mono (e2.trans e3)).seq, ⟨p, rfl, .inl (sq_of (e3 p _ hp))⟩, ⟨hl.symm, Nat.le_trans ft.few (by decide)⟩, ft.bd, pick_bd near_in (l1.trans l2.symm) l2.symm l3 ft.sm.1 ft.sm.2, rfl⟩)) ?_) fun H3 e3 => q H3 ((e1.trans e2).trans e3)
          rw [(box_near k ft.ok rfl).2]
    · have hR1 := hR.mono e1
      refine q_unp (x := .int R.low) (y := .int R.high) (eu_call (ea_cons (ev_var rfl) ea_nil) (spU_v fun H2 e2 => ⟨_, R, rfl, hR1.mono e2, e, rfl⟩)) fun H2 e2 => ?_
      obtain ⟨pa, b, rest, rfl, h1, hb⟩ := (hR1.mono e2).parts
      have hv2 := (hv.mono e1).mono e2
      have lc : R.one.length = zs.length := by
        cases R with
        | ball c r => exact ft.ok.1
        | cell c l g => exact ft.ok.1
        | box _ _ => cases e
      have bc : Bd R.one := by
        cases R with
        | ball c r => exact ft.sm.1
        | cell c l g => exact ft.sm.1
        | box _ _ => cases e
      have h8 : R.one.length ≤ 8 := by
        rw [lc]
        exact ft.few
      have s1 : Sz (dist k zs R.one) R.high := by
        rw [dist_comm]
        cases R with
        | ball c r => exact dist_sz bc ft.bd h8 ft.ok.2 ft.sm.2
        | cell c l g => exact dist_sz bc ft.bd h8 (Int.le_trans ft.ok.2.1 ft.ok.2.2) ft.sm.2
        | box _ _ => cases e
      have s2 : Sz (dist k zs R.one) R.low := by
        rw [dist_comm]
        cases R with
        | ball c r => exact dist_sz bc ft.bd h8 (Int.le_refl _) (show (0 : Int) ≤ 30000000 by decide)
        | cell c l g => exact dist_sz bc ft.bd h8 ft.ok.2.1 (Int.le_trans ft.ok.2.2 ft.sm.2)
        | box _ _ => cases e
      refine q_asg (ev_call (ea_cons (ev_var rfl) (ea_cons (ev_var rfl) (ea_cons (ev_ixT (j := 1) (ev_var rfl) ev_c h1 rfl) ea_nil))) (spF_v fun H3 e3 => ⟨k, v, b, zs, R.one, rfl, (hv2.mono e3).seq, (hb.mono e3).seq, ⟨lc.symm, Nat.le_trans ft.few (by decide)⟩, ft.bd, bc, rfl⟩)) fun H3 e3 => ?_
      refine s_ret (ev_is (ev_iteI (et_I (ev_var rfl) (ev_var rfl)) (fun _ => ev_call (ea_cons (ev_var rfl) (ea_cons (ev_var rfl) (ea_cons (ev_var rfl) ea_nil))) (spF_v fun H4 _ => ⟨k, _, _, rfl, s1, rfl⟩))
        (fun _ => ev_iteI (et_I (ev_var rfl) (ev_var rfl)) (fun _ => ev_call (ea_cons (ev_var rfl) (ea_cons (ev_var rfl) (ea_cons (ev_var rfl) ea_nil))) (spF_v fun H4 _ => ⟨k, _, _, rfl, s2, rfl⟩)) (fun _ => ev_c))) ?_) fun H4 e4 => q H4 (((e1.trans e2).trans e3).trans e4)
      have ef : floorOf k R zs = shellFloor k R.low R.high (dist k zs R.one) := by
        rw [dist_comm]
        cases R with
        | ball c r => rfl
        | cell c l g => rfl
        | box _ _ => cases e
      rw [ef, gap_comm k (dist k zs R.one) R.low]
      unfold shellFloor leastBeyond
      by_cases g1 : dist k zs R.one > R.high
      · rw [if_pos g1, if_pos g1, if_pos (decide_eq_true g1)]
      · rw [if_neg g1, if_neg (by simpa using g1)]
        by_cases g2 : dist k zs R.one < R.low
        · rw [if_pos g2, if_pos (decide_eq_true g2)]
        · rw [if_neg g2, if_neg (by simpa using g2)]
abbrev s__law_ceiling : Stmt := topS 34
abbrev N__law_ceiling : List Str := ["_law_kind", "_law_region_here", "_law_vector", "_law_farthest", "_law_most_here", "_law_at"]
abbrev p__law_ceiling : List Str := ["_law_kind", "_law_region_here", "_law_vector"]
theorem sc__law_ceiling : FnScope N__law_ceiling p__law_ceiling (defScope s__law_ceiling) := ⟨rfl, rfl, rfl, by decide +kernel, rfl, by decide +kernel, by decide +kernel⟩

theorem ok__law_ceiling (F : FunX K mg "_law_ceiling" s__law_ceiling p__law_ceiling) (T : Gs mg) (D_law_distance : Def P w K mg base 2 "_law_distance" p__law_distance (spF (preLDist K))) (D_law_shell : Def P w K mg base 1 "_law_shell" p__law_shell (spU (preShell K)))
    (D_law_most : Def P w K mg base 2 "_law_most" p__law_most (spF preMost)) : Def P w K mg base 3 "_law_ceiling" p__law_ceiling (spF (preCeil K)) := by
  refine F.def_ fun f fd F => F.ok sc__law_ceiling (fun vs H Q E h => ?_) (fun cdv A outer s H vs Q E hr h => ?_)
  · obtain ⟨z, ⟨k, r, v, R, zs, rfl, _⟩, _⟩ := h
    rfl
  · obtain ⟨z, ⟨k, r, v, R, zs, rfl, hR, hv, ft, rfl⟩, q⟩ := h
    have nd := sc__law_ceiling.nd
    refine ⟨_, (pss_cons (ps_if (pt_cmpR op_eq (pe_ix (ix_tupK K) (pv 1) pe_int (fun _ _ => rfl)) pe_str (nomark _)) (pss_cons (ps_setLc (i := 3) (own := [("_law_at", 5)]) (g := gName 5) rfl nd rfl rfl (sw_true rfl rfl rfl (by decide +kernel)) (pi_range1 rfl T.n_range (pa_cons (pe_callB (call_lenK K) (by rfl) T.n_len PySem.boot_len (pa_cons (pv 2) pa_nil)) pa_nil)) (blkOk_by (own := [("_law_at", 5)]) (N := N__law_ceiling) (sc := defScope s__law_ceiling) (by decide +kernel)) (fun _ _ _ _ _ => pg_name (i := 5) nd rfl (Or.inl rfl)) (fun _ _ _ _ _ => pts_nil) (fun _ _ _ _ _ => pe_ifExp (pt_cmpR op_ge (pe_op op_mul pe_int (pe_ix (ix_tupK K) (pv 2) (pv 5) (fun _ _ => rfl))) (pe_op op_add (pe_ix (ix_tupK K) (pe_ix (ix_tupK K) (pv 1) pe_int (fun _ _ => rfl)) (pv 5) (fun _ _ => rfl)) (pe_ix (ix_tupK K) (pe_ix (ix_tupK K) (pv 1) pe_int (fun _ _ => rfl)) (pv 5) (fun _ _ => rfl))) (nomark _)) (pe_ix (ix_tupK K) (pe_ix (ix_tupK K) (pv 1) pe_int (fun _ _ => rfl)) (pv 5) (fun _ _ => rfl)) (pe_ix (ix_tupK K) (pe_ix (ix_tupK K) (pv 1) pe_int (fun _ _ => rfl)) (pv 5) (fun _ _ => rfl))))
    (pss_cons (ps_if (pt_cmpR op_eq (pv 0) pe_str (nomark _)) (pss_one (ps_setLc (i := 3) (own := [("_law_at", 5)]) (g := gName 5) rfl nd rfl rfl (sw_true rfl rfl rfl (by decide +kernel)) (pi_range1 rfl T.n_range (pa_cons (pe_callB (call_lenK K) (by rfl) T.n_len PySem.boot_len (pa_cons (pv 2) pa_nil)) pa_nil)) (blkOk_by (own := [("_law_at", 5)]) (N := N__law_ceiling) (sc := defScope s__law_ceiling) (by decide +kernel)) (fun _ _ _ _ _ => pg_name (i := 5) nd rfl (Or.inl rfl)) (fun _ _ _ _ _ => pts_nil) (fun _ _ _ _ _ => pe_ifExp (pt_cmpR op_ne (pe_ix (ix_tupK K) (pe_ix (ix_tupK K) (pv 1) pe_int (fun _ _ => rfl)) (pv 5) (fun _ _ => rfl)) (pe_ix (ix_tupK K) (pv 2) (pv 5) (fun _ _ => rfl)) (nomark _)) (pe_ix (ix_tupK K) (pe_ix (ix_tupK K) (pv 1) pe_int (fun _ _ => rfl)) (pv 5) (fun _ _ => rfl)) (pe_ix (ix_tupK K) (pe_ix (ix_tupK K) (pv 1) pe_int (fun _ _ => rfl)) (pv 5) (fun _ _ => rfl))))) pss_nil)
    (pss_one (ps_ret (pe_D D_law_distance (hr.mono (by decide)) (pa_cons (pv 0) (pa_cons (pv 2) (pa_cons (pv 3) pa_nil)))))))) pss_nil)
    (pss_cons (ps_set (i := 4) nd rfl (Or.inl rfl) (pe_D D_law_most (hr.mono (by decide)) (pa_cons (pv 0) (pa_cons (pe_D D_law_distance (hr.mono (by decide)) (pa_cons (pv 0) (pa_cons (pv 2) (pa_cons (pe_ix (ix_tupK K) (pv 1) pe_int (fun _ _ => rfl)) pa_nil)))) (pa_cons (pe_ix (ix_tupK K) (pe_D D_law_shell (hr.mono (by decide)) (pa_cons (pv 1) pa_nil)) pe_int (fun _ _ => rfl)) pa_nil)))))
    (pss_one (ps_ret (pe_ifExp (pt_cmpR op_eq (pv 0) pe_str (nomark _)) (pe_callB (call_min2 rfl) (by rfl) T.n_min (by decide +kernel) (pa_cons (pv 4) (pa_cons (pe_callB (call_lenK K) (by rfl) T.n_len PySem.boot_len (pa_cons (pv 2) pa_nil)) pa_nil))) (pv 4)))))), ?_⟩
    refine q_if (et_box (ev_var rfl) hR) (fun e H1 e1 => ?_) (fun e H1 e1 => ?_)
    · cases R with
      | ball _ _ => cases e
      | cell _ _ _ => cases e
      | box lo hi =>
        obtain ⟨a, b, d, rfl, h1, hb, hd⟩ := hR.mono e1
        have hw := hv.mono e1
        obtain ⟨l1, l2, l3⟩ := id ft.ok
        have hl : ∀ k', (farthest2 k' lo hi zs).length = zs.length := fun k' => zip3_len (farAt2 k') l1 l2 rfl
        have bz := fun (i : Nat) (hi : i < zs.length) => ft.bd.one (List.getElem?_eq_getElem hi)
        refine q_asgL (xs := vi (farthest2 .sq lo hi zs)) (el_R1 (n := zs.length) (ea_cons (ev_lenV (ev_var rfl) hw rfl) ea_nil) ((List.length_map _).trans (hl _)) (by have := ft.few; omega) (fun _ => rfl) fun i z H2 e2 hlt hz => ?_) fun p H2 np e2 hp => ?_
        · have ga : lo[i]? = some lo[i] := List.getElem?_eq_getElem (by omega)
          have gb : zs[i]? = some zs[i] := List.getElem?_eq_getElem hlt
          have gc := List.getElem?_eq_getElem (show i < hi.length by omega)
          unfold farthest2 at hz
          rw [List.getElem?_map, zip3_get _ ga gc gb] at hz
          rw [← Option.some.inj hz]
          have b1 := ev_boxAt (m := 1) (tb := tVar 5) (ta := tVar 1) (σ := (wipe (start N__law_ceiling [.str k.s, .ref a, v]) [5]).set 5 (some (.int (i : Int)))) (ev_var rfl) (ex_t e2 h1) rfl (hb.mono e2) (ev_var rfl) ga
          have b2 := ev_boxAt (m := 2) (tb := tVar 5) (ta := tVar 1) (σ := (wipe (start N__law_ceiling [.str k.s, .ref a, v]) [5]).set 5 (some (.int (i : Int)))) (ev_var rfl) (ex_t e2 h1) rfl (hd.mono e2) (ev_var rfl) gc
          refine ev_is (ev_iteI (et_I (ev_mul ev_c (ev_ixV (ev_var rfl) (ev_var rfl) (hw.mono e2) gb) (.inl ⟨by decide, by decide⟩)) (ev_add b1 b2)) (fun _ => b1) (fun _ => b2)) (congrArg V.int ?_)
          unfold farAt2
          simp only [Kd.isUn, Bool.false_eq_true, if_false, decide_eq_true_eq]
        · refine q_for (fun σ' H' => Ex H1 H' ∧ ∃ (p : Addr) (x y z u : Option V), σ' = [some (.str k.s), some (.ref a), some v, some (.ref p), x, y] ∧ H' p = some (.lst (vi (farthest2 k lo hi zs)))) (fun nxt hn => ?_) (fun σ' H' hP => ?_)
          · refine s_if (et_un (ev_var rfl) ev_c) (fun c H3 e3 => ?_) (fun c H3 e3 => ?_)
            · have ek : k = .un := by cases k <;> first | rfl | cases c
              subst ek
              refine s_asgL (xs := vi (farthest2 .un lo hi zs)) (el_R1 (n := zs.length) (ea_cons (ev_lenV (ev_var rfl) (hw.mono (e2.trans e3)) rfl) ea_nil) ((List.length_map _).trans (hl _)) (by have := ft.few; omega) (fun _ => rfl) fun i z H4 e4 hlt hz => ?_) fun p' H4 np' e4 hp' => hn _ _ ⟨(e2.trans e3).trans e4, p', _, _, none, none, rfl, hp'⟩
              have ga : lo[i]? = some lo[i] := List.getElem?_eq_getElem (by omega)
              have gb : zs[i]? = some zs[i] := List.getElem?_eq_getElem hlt
              have gc := List.getElem?_eq_getElem (show i < hi.length by omega)
              unfold farthest2 at hz
              rw [List.getElem?_map, zip3_get _ ga gc gb] at hz
              rw [← Option.some.inj hz]
              have e5 := (e2.trans e3).trans e4
              refine ev_is (ev_iteI (et_ne (ev_boxAt (m := 2) (ev_var rfl) (ex_t e5 h1) rfl (hd.mono e5) (ev_var rfl) gc) (ev_ixV (ev_var rfl) (ev_var rfl) (hw.mono e5) gb)) (fun _ => ev_boxAt (m := 2) (ev_var rfl) (ex_t e5 h1) rfl (hd.mono e5) (ev_var rfl) gc) (fun _ => ev_boxAt (m := 1) (ev_var rfl) (ex_t e5 h1) rfl (hb.mono e5) (ev_var rfl) ga)) (congrArg V.int ?_)
              unfold farAt2
              rw [if_pos (show Kd.un.isUn = true from rfl)]
              by_cases hq : hi[i] = zs[i]
              · rw [if_neg (by rw [decide_eq_true (congrArg V.int hq)]; exact Bool.false_ne_true), if_neg (fun z => z hq)]
              · rw [if_pos (by rw [decide_eq_false (fun z => hq (V.int.inj z))]; rfl), if_pos hq]
            · refine hn _ _ ⟨e2.trans e3, p, _, _, none, none, rfl, ?_⟩
              have ek : farthest2 k lo hi zs = farthest2 .sq lo hi zs := by
                cases k <;> first | rfl | cases c
              rw [ek]
              exact e3 p _ hp
          · obtain ⟨e3, p', x, y, _, _, rfl, hp'⟩ := hP
            refine s_ret (ev_is (ev_call (ea_cons (ev_var rfl) (ea_cons (ev_var rfl) (ea_cons (ev_var rfl) ea_nil))) (spF_v fun H4 e4 => ⟨k, v, .ref p', zs, farthest2 k lo hi zs, rfl, (hw.mono (e3.trans e4)).seq, ⟨p', rfl, .inl (sq_of (e4 p' _ hp'))⟩, ⟨(hl k).symm, Nat.le_trans ft.few (by decide)⟩, ft.bd, pick_bd (far2_in k) (l1.trans l2.symm) l2.symm l3 ft.sm.1 ft.sm.2, rfl⟩)) ?_) fun H4 e4 => q H4 ((e1.trans e3).trans e4)
            rw [box_far2 k ft.ok rfl]
    · have hR1 := hR.mono e1
      obtain ⟨pa, b, rest, rfl, h1, hb⟩ := hR1.parts
      have hv1 := hv.mono e1
      have lc : R.one.length = zs.length := by
        cases R with
        | ball c r => exact ft.ok.1
        | cell c l g => exact ft.ok.1
        | box _ _ => cases e
      have bc : Bd R.one := by
        cases R with
        | ball c r => exact ft.sm.1
        | cell c l g => exact ft.sm.1
        | box _ _ => cases e
      have h8 : R.one.length ≤ 8 := by
        rw [lc]
        exact ft.few
      have s1 : Sz (dist k zs R.one) R.high := by
        rw [dist_comm]
        cases R with
        | ball c r => exact dist_sz bc ft.bd h8 ft.ok.2 ft.sm.2
        | cell c l g => exact dist_sz bc ft.bd h8 (Int.le_trans ft.ok.2.1 ft.ok.2.2) ft.sm.2
        | box _ _ => cases e
      refine q_asg (ev_call (ea_cons (ev_var rfl) (ea_cons (ev_call (ea_cons (ev_var rfl) (ea_cons (ev_var rfl) (ea_cons (ev_ixT (j := 1) (ev_var rfl) ev_c h1 rfl) ea_nil))) (spF_v fun H3 e3 => ⟨k, v, b, zs, R.one, rfl, (hv1.mono e3).seq, (hb.mono e3).seq, ⟨lc.symm, Nat.le_trans ft.few (by decide)⟩, ft.bd, bc, rfl⟩))
        (ea_cons (ev_ixU (j := 1) (v := .int R.high) (eu_call (ea_cons (ev_var rfl) ea_nil) (spU_v fun H3 e3 => ⟨_, R, rfl, hR1.mono e3, e, rfl⟩)) rfl) ea_nil))) (spF_v fun H3 e3 => ⟨k, _, R.high, rfl, s1, rfl⟩)) fun H2 e2 => ?_
      refine s_ret (ev_is (ev_iteI (et_un (ev_var rfl) ev_c) (fun _ => ev_min (ev_var rfl) (ev_lenV (ev_var rfl) (hv1.mono e2) rfl)) (fun _ => ev_var rfl)) ?_) fun H3 e3 => q H3 ((e1.trans e2).trans e3)
      rw [dist_comm]
      cases R with
      | ball c r => rfl
      | cell c l g => rfl
      | box _ _ => cases e
end
end K21
/-! F6: the law's windows. -/
namespace K21
open PySem PySem.Spec PyProof.Rows L2 Evl
/-! ### values of which a property is known -/
def EvG (te : TE) (σ : L2.St) (H : Hp) (G : V → Hp → Prop) : Prop := ∀ H1, Ex H H1 → ∀ Q : VK, (∀ v H2, Ex H1 H2 → G v H2 → Q v H2) → te σ H1 Q
/-- a new list of so many of them -/
def EvGL (te : TE) (σ : L2.St) (H : Hp) (n : Nat) (G : V → Hp → Prop) : Prop :=
  ∀ H1, Ex H H1 → ∀ Q : VK, (∀ p H2 xs, H1 p = none → Ex H1 H2 → H2 p = some (.lst xs) → xs.length = n → (∀ x ∈ xs, G x H2) → Q (.ref p) H2) → te σ H1 Q
def Mono (G : V → Hp → Prop) : Prop := ∀ v H H', Ex H H' → G v H → G v H'
abbrev Vc (K : PySem.W.Frag) (us : List Int) : V → Hp → Prop := fun v H => VecAt K H v us
theorem vc_mono {K : PySem.W.Frag} {us : List Int} : Mono (Vc K us) := fun v H H' e h => h.mono e
section
variable {K : PySem.W.Frag} {σ : L2.St} {H H' : Hp} {ta tb tc te tx : TE} {t u : TT} {x y z v : V} {r : R2} {G G' : V → Hp → Prop}
theorem EvG.imp (h : EvG te σ H G) (hi : ∀ v H, G v H → G' v H) : EvG te σ H G' := fun H1 e Q q => h H1 e Q fun v H2 e2 g => q v H2 e2 (hi v H2 g)
theorem EvG.mono (e : Ex H H') (h : EvG te σ H G) : EvG te σ H' G := fun H1 e1 Q q => h H1 (e.trans e1) Q q
theorem evg_var {us : List Int} (ha : Ev ta σ H v) (h : VecAt K H v us) : EvG ta σ H (Vc K us) := fun H1 e Q q => ha H1 e Q fun H2 e2 => q v H2 e2 (h.mono (e.trans e2))
theorem evg_one {i : Int} (ha : Ev ta σ H (.int i)) : EvG (tTup (tCons ta tNil)) σ H (Vc K [i]) := fun H1 e Q q =>
  eu_tup (ea_cons ha ea_nil) (by show 1 ≤ 100000; decide) H1 e Q fun p H2 _ e2 hp => q _ H2 e2 (VecAt.of hp)
theorem evg_nil : EvG (tTup tNil) σ H (Vc K []) := fun H1 e Q q => eu_tup (vs := []) ea_nil (by show 0 ≤ 100000; decide) H1 e Q fun p H2 _ e2 hp => q _ H2 e2 (VecAt.of hp)
theorem evg_cat {us ws : List Int} (ha : EvG ta σ H (Vc K us)) (hb : EvG tb σ H (Vc K ws)) (h1 : us.length ≤ 1000) (h2 : ws.length ≤ 1000) : EvG (tOp (rCatA K) ta tb) σ H (Vc K (us ++ ws)) := fun H1 e Q q =>
  ha H1 e _ fun x H2 e2 gx => hb H2 (e.trans e2) _ fun y H3 e3 gy => by
    obtain ⟨a, rfl, hx⟩ := gx.mono e3
    obtain ⟨b, rfl, hy⟩ := gy
    refine ⟨a, b, vi us, vi ws, rfl, rfl, hx, hy, sz_of (by rw [List.length_map, List.length_map]; omega), fun z => ?_, fun _ z => ?_, fun _ _ p hp => ?_⟩
    · have e0 : us = [] := by simpa using z
      subst e0
      exact q _ H3 (e2.trans e3) ⟨b, rfl, hy⟩
    · have e0 : ws = [] := by simpa using z
      subst e0
      exact q _ H3 (e2.trans e3) (by rw [List.append_nil]; exact ⟨a, rfl, hx⟩)
    · refine q _ _ ((e2.trans e3).trans (Ex.new hp)) ⟨p, rfl, st_of ?_⟩
      rw [upd_same, ← List.map_append]
theorem evg_to {us : List Int} {j : Nat} (ha : Ev ta σ H v) (h : VecAt K H v us) (hb : Ev tb σ H (.int (j : Int))) : EvG (tSl (rSlA K) ta tNoPart (tPart tb)) σ H (Vc K (us.take j)) := fun H1 e Q q =>
  ha H1 e _ fun H2 e2 => hb H2 (e.trans e2) _ fun H3 e3 => ⟨(j : Int), rfl, by
    obtain ⟨a, rfl, hx⟩ := h.mono ((e.trans e2).trans e3)
    have e0 : HT.sIx (vi us).length 0 none = 0 := rfl
    have e1 : HT.sIx (vi us).length (vi us).length (some (j : Int)) = min j (vi us).length := HT.sIx_nat _ _ _
    refine ⟨a, vi us, rfl, hx, fun z => ?_, fun _ p hp => ?_⟩
    · rw [e1] at z
      have hz := z.2
      rw [List.length_map] at hz
      refine q _ H3 (e2.trans e3) ⟨a, rfl, ?_⟩
      rw [List.take_of_length_le (by omega)]
      exact hx
    · refine q _ _ ((e2.trans e3).trans (Ex.new hp)) ⟨p, rfl, st_of ?_⟩
      rw [upd_same]
      unfold cutV
      show _ = some (HO.tup ((us.take j).map V.int))
      rw [e1, e0, List.drop_zero, Nat.sub_zero, List.map_take]
      congr 2
      by_cases hj : j ≤ (vi us).length
      · rw [Nat.min_eq_left hj]
      · rw [Nat.min_eq_right (by omega), List.take_of_length_le (Nat.le_refl _), List.take_of_length_le (by omega)]⟩
theorem evg_from {us : List Int} {j : Nat} (ha : Ev ta σ H v) (h : VecAt K H v us) (hb : Ev tb σ H (.int (j : Int))) : EvG (tSl (rSlA K) ta (tPart tb) tNoPart) σ H (Vc K (us.drop j)) := fun H1 e Q q =>
  ha H1 e _ fun H2 e2 => hb H2 (e.trans e2) _ fun H3 e3 => ⟨(j : Int), rfl, by
    obtain ⟨a, rfl, hx⟩ := h.mono ((e.trans e2).trans e3)
    have e0 : HT.sIx (vi us).length (vi us).length none = (vi us).length := rfl
    have e1 : HT.sIx (vi us).length 0 (some (j : Int)) = min j (vi us).length := HT.sIx_nat _ _ _
    refine ⟨a, vi us, rfl, hx, fun z => ?_, fun _ p hp => ?_⟩
    · rw [e1] at z
      have hz := z.1
      rw [List.length_map] at hz
      refine q _ H3 (e2.trans e3) ⟨a, rfl, ?_⟩
      have : us.drop j = us := by
        rcases Nat.eq_zero_or_pos us.length with h0 | h0
        · have : us = [] := List.length_eq_zero_iff.mp h0
          subst this
          exact List.drop_nil
        · have : j = 0 := by omega
          subst this
          rfl
      rw [this]
      exact hx
    · refine q _ _ ((e2.trans e3).trans (Ex.new hp)) ⟨p, rfl, st_of ?_⟩
      rw [upd_same]
      unfold cutV
      show _ = some (HO.tup ((us.drop j).map V.int))
      rw [e1, e0, List.map_drop]
      congr 2
      by_cases hj : j ≤ (vi us).length
      · rw [Nat.min_eq_left hj, List.take_of_length_le (by rw [List.length_drop] <;> exact Nat.le_refl _)]
      · have hj' : (List.map V.int us).length ≤ j := Nat.le_of_lt (Nat.lt_of_not_le hj)
        rw [Nat.min_eq_right (Nat.le_of_lt (Nat.lt_of_not_le hj)), List.drop_eq_nil_of_le (Nat.le_refl _), List.drop_eq_nil_of_le hj']
        exact List.take_nil⟩

theorem q_asgL1 {D : Ends} {w : TS} {i : Nat} (h : EvG te σ H G) (k : ∀ x p H2, Ex H H2 → G x H2 → H2 p = none → w D (σ.set i (some (.ref p))) (upd H2 p (.lst [x]))) : tSeq (tAsg (tLst (tCons te tNil)) (gName i)) w D σ H :=
  h H (Ex.refl H) _ fun x H2 e2 g => ⟨sz_of (by show 1 ≤ 100000; decide), fun p np => k x p H2 e2 g np⟩

/-! ### comprehensions that make new things -/
def Cg (H : Hp) (G : V → Hp → Prop) (D : Addr) (i : Nat) (H' : Hp) : Prop := H D = none ∧ Ex H H' ∧ ∃ acc, H' D = some (.lst acc) ∧ acc.length = i ∧ ∀ x ∈ acc, G x H'
/-- .. whatever G says of an object that is written is not about the list itself -/
def Off (G : V → Hp → Prop) : Prop := ∀ v H D o, H D = none → ∀ H', Ex H H' → (∃ xs, H' D = some (.lst xs)) → G v H' → G v (upd H' D o)
theorem vec_off {K : PySem.W.Frag} {us : List Int} {w : V} {H' : Hp} {D : Addr} {o : HO} (hD : ∃ xs, H' D = some (.lst xs)) (h : VecAt K H' w us) : VecAt K (upd H' D o) w us := by
  obtain ⟨a, rfl, h⟩ := h
  obtain ⟨xs, hD⟩ := hD
  refine ⟨a, rfl, ?_⟩
  rcases h with (h | ⟨ob, h⟩) | h
  · have ne : a ≠ D := ne_of h hD (by intro z; cases z)
    exact .inl (.inl (by rw [upd_ne ne]; exact h))
  · have ne : a ≠ D := ne_of h hD (by intro z; cases z)
    exact .inl (.inr ⟨ob, by rw [upd_ne ne]; exact h⟩)
  · exact .inr h
theorem cg_turn {σ2 : L2.St} {D : Addr} {i : Nat} {H3 : Hp} (mo : Mono G) (of : ∀ v H' D o, (∃ xs, H' D = some (.lst xs)) → G v H' → G v (upd H' D o)) (p : Cg H G D i H') (e0 : Ex H' H3) (hi : i < 40000) (he : EvG te σ2 H3 G) :
    tYes σ2 H3 fun b H3 => if b = true then te σ2 H3 fun y H4 => ∃ acc, H4 D = some (.lst acc) ∧ acc.length < sizeLine ∧ Cg H G D (i + 1) (upd H4 D (.lst (acc ++ [y]))) else Cg H G D (i + 1) H3 := by
  obtain ⟨p1, p2, acc, p3, p4, p5⟩ := p
  show te σ2 H3 fun y H4 => ∃ acc, H4 D = some (.lst acc) ∧ acc.length < sizeLine ∧ Cg H G D (i + 1) (upd H4 D (.lst (acc ++ [y])))
  refine he H3 (Ex.refl _) _ fun y H4 e4 gy => ⟨acc, (e0.trans e4) D _ p3, sz_lt (by omega), p1, Ex.mut ((p2.trans e0).trans e4) p1, acc ++ [y], upd_same, by rw [List.length_append, p4] <;> rfl, fun x hx => ?_⟩
  have hD : ∃ xs, H4 D = some (.lst xs) := ⟨acc, (e0.trans e4) D _ p3⟩
  rcases List.mem_append.mp hx with hx | hx
  · exact of x H4 D _ hD (mo x _ _ (e0.trans e4) (p5 x hx))
  · rw [List.mem_singleton.mp hx]
    exact of y H4 D _ hD gy
/-- over a new list -/
theorem eg_NL {xs : List V} {tl : TE} {j : Nat} {vs : List Nat} (mo : Mono G) (of : ∀ v H' D o, (∃ xs, H' D = some (.lst xs)) → G v H' → G v (upd H' D o)) (h : EvL tl σ H xs) (hz : xs.length ≤ 40000) (hw : ∀ x, wipe ((wipe σ vs).set j (some x)) vs = wipe σ vs)
    (he : ∀ (i : Nat) (x : V) H1, Ex H H1 → xs[i]? = some x → EvG te ((wipe σ vs).set j (some x)) H1 G) : EvGL (tLc (iList K tl) (gName j) tYes te vs) σ H xs.length G := fun H0 e Q q => h H0 e _ fun a H1 _ e1 hx =>
  ⟨a, rfl, ⟨xs, sq_of hx⟩, fun D hD => lc_list (xs := xs) (Cg H1 G D) ⟨hD, Ex.new hD, [], upd_same, rfl, fun x hx => by cases hx⟩ (fun i H' _ p => sq_of (p.2.1 a _ hx)) (fun i x H' hi p => ⟨hw x, by
    have hlt := (List.getElem?_eq_some_iff.mp hi).1
    exact cg_turn mo of p (Ex.refl _) (by omega) (he i x H' ((e.trans e1).trans p.2.1) hi)⟩) fun H' p => by
      obtain ⟨p1, p2, acc, p3, p4, p5⟩ := p
      exact q D H' acc (fresh_back e1 p1) (e1.trans p2) p3 p4 p5⟩
/-- over range(lo, hi) -/
theorem eg_R2 {ta : TA} {j : Nat} {vs : List Nat} {lo hi : Int} {n : Nat} (mo : Mono G) (of : ∀ v H' D o, (∃ xs, H' D = some (.lst xs)) → G v H' → G v (upd H' D o)) (h : EvA ta σ H [.int lo, .int hi]) (hn : hi - lo = (n : Int)) (hz : n ≤ 40000) (hb : -1000 ≤ lo ∧ lo ≤ 1000) (hw : ∀ x, wipe ((wipe σ vs).set j (some x)) vs = wipe σ vs)
    (he : ∀ (i : Nat) H1, Ex H H1 → i < n → EvG te ((wipe σ vs).set j (some (.int (lo + (i : Int))))) H1 G) : EvGL (tLc (iRng2 ta) (gName j) tYes te vs) σ H n G := fun H0 e Q q => h H0 e _ fun H1 e1 =>
  ⟨lo, hi, rfl, ⟨by omega, by omega, by omega, by omega⟩, fun D hD => lc_range (lo := lo) (n := (hi - lo).toNat) (Cg H1 G D) ⟨hD, Ex.new hD, [], upd_same, rfl, fun x hx => by cases hx⟩ (fun i H' hi p => 
    ⟨hw _, cg_turn mo of p (Ex.refl _) (by omega) (he i H' ((e.trans e1).trans p.2.1) (by omega))⟩) fun H' p => by
      obtain ⟨p1, p2, acc, p3, p4, p5⟩ := p
      exact q D H' acc (fresh_back e1 p1) (e1.trans p2) p3 (by omega) p5⟩
end
/-- a tuple of m small integers -/
def Vg (K : PySem.W.Frag) (m : Nat) : V → Hp → Prop := fun v H => ∃ us, VecAt K H v us ∧ us.length = m ∧ Bd us
theorem vg_mono {K : PySem.W.Frag} {m : Nat} : Mono (Vg K m) := fun v H H' e ⟨us, h, r⟩ => ⟨us, h.mono e, r⟩
theorem vg_off {K : PySem.W.Frag} {m : Nat} : ∀ v H' D o, (∃ xs, H' D = some (HO.lst xs)) → Vg K m v H' → Vg K m v (upd H' D o) := fun v H' D o hD ⟨us, h, r⟩ => ⟨us, vec_off hD h, r⟩
def Bt (zs : List Int) : Prop := ∀ z ∈ zs, -10000 ≤ z ∧ z ≤ 10000
theorem Bt.bd {zs : List Int} (h : Bt zs) : Bd zs := fun z hz => by
  have := h z hz
  omega
theorem Bt.one {zs : List Int} (h : Bt zs) {i : Nat} {a : Int} (e : zs[i]? = some a) : -10000 ≤ a ∧ a ≤ 10000 := h a (List.mem_of_getElem? e)
section
variable {P : Program} {w : World} {K : PySem.W.Frag} {mg : Str → Option Value} {base : Heap}
abbrev s__law_window : Stmt := topS 35
abbrev N__law_window : List Str := ["_law_vector", "_law_wide", "_law_found", "_law_at", "_law_part_here", "_law_longer", "_law_some", "_law_step"]
abbrev p__law_window : List Str := ["_law_vector", "_law_wide"]
theorem sc__law_window : FnScope N__law_window p__law_window (defScope s__law_window) := ⟨rfl, rfl, rfl, by decide +kernel, rfl, by decide +kernel, by decide +kernel⟩

/-- a new list of vectors with as many places -/
def spWin (K : PySem.W.Frag) : Sp := fun vs H Q _ => ∃ (v : V) (zs : List Int) (wd : Int), vs = [v, .int wd] ∧ VecAt K H v zs ∧ (0 ≤ wd ∧ wd ≤ 3) ∧ Bt zs ∧ zs.length ≤ 8 ∧
  ∀ p H' xs, H p = none → Ex H H' → H' p = some (.lst xs) → xs.length ≤ 1000 → (∀ x ∈ xs, Vg K zs.length x H') → Q (.ref p) H'
theorem ok__law_window (F : FunX K mg "_law_window" s__law_window p__law_window) (T : Gs mg) : Def P w K mg base 1 "_law_window" p__law_window (spWin K) := by
  refine F.def_ fun f fd F => F.ok sc__law_window (fun vs H Q E h => ?_) (fun cdv A outer s H vs Q E hr h => ?_)
  · obtain ⟨v, zs, wd, rfl, _⟩ := h
    rfl
  · obtain ⟨v, zs, wd, rfl, hv, hw, bz, h8, q⟩ := h
    have nd := sc__law_window.nd
    refine ⟨_, (pss_cons (ps_if (pt_cmpR op_gt (pe_callB (call_lenK K) (by rfl) T.n_len PySem.boot_len (pa_cons (pv 0) pa_nil)) pe_int (nomark _)) (pss_cons (ps_set (i := 2) nd rfl (Or.inl rfl) (pe_lst (pa_cons (pv 0) pa_nil)))
    (pss_cons (ps_for PassesOwn.never rfl (pi_range1 rfl T.n_range (pa_cons (pe_callB (call_lenK K) (by rfl) T.n_len PySem.boot_len (pa_cons (pv 0) pa_nil)) pa_nil)) (pg_name (i := 3) nd rfl (Or.inr rfl)) (pss_one (ps_set (i := 2) nd rfl (Or.inl rfl) (pe_op op_cat (pv 2) (pe_lc (own := [("_law_step", 7)]) (g := gName 7) rfl nd (pi_listK K (pe_lst (pa_cons (pv 1) (pa_cons (pe_un un_neg (pv 1)) pa_nil)))) (blkOk_by (own := [("_law_step", 7)]) (N := N__law_window) (sc := defScope s__law_window) (by decide +kernel)) (fun _ _ _ _ _ => pg_name (i := 7) nd rfl (Or.inl rfl)) (fun _ _ _ _ _ => pts_nil) (fun _ _ _ _ _ => pe_op (op_catK K) (pe_op (op_catK K) (pe_slice (sl_tupK K) (pv 0) po_none (po_some (pv 3))) (pe_tup (pa_cons (pe_op op_add (pe_ix (ix_tupK K) (pv 0) (pv 3) (fun _ _ => rfl)) (pv 7)) pa_nil))) (pe_slice (sl_tupK K) (pv 0) (po_some (pe_op op_add (pv 3) pe_int)) po_none)))))))
    (pss_one (ps_ret (pv 2))))) pss_nil)
    (pss_cons (ps_set (i := 2) nd rfl (Or.inl rfl) (pe_lst (pa_cons (pe_tup pa_nil) pa_nil)))
    (pss_cons (ps_for PassesOwn.never rfl (pi_tupK K (pv 0)) (pg_name (i := 4) nd rfl (Or.inr rfl)) (pss_cons (ps_set (i := 5) nd rfl (Or.inl rfl) (pe_lst pa_nil))
    (pss_cons (ps_for PassesOwn.never rfl (pi_listK K (pv 2)) (pg_name (i := 6) nd rfl (Or.inr rfl)) (pss_one (ps_set (i := 5) nd rfl (Or.inl rfl) (pe_op op_cat (pv 5) (pe_lc (own := [("_law_step", 7)]) (g := gName 7) rfl nd (pi_range2 rfl T.n_range (pa_cons (pe_un un_neg (pv 1)) (pa_cons (pe_op op_add (pv 1) pe_int) pa_nil))) (blkOk_by (own := [("_law_step", 7)]) (N := N__law_window) (sc := defScope s__law_window) (by decide +kernel)) (fun _ _ _ _ _ => pg_name (i := 7) nd rfl (Or.inl rfl)) (fun _ _ _ _ _ => pts_nil) (fun _ _ _ _ _ => pe_op (op_catK K) (pv 6) (pe_tup (pa_cons (pe_op op_add (pv 4) (pv 7)) pa_nil))))))))
    (pss_one (ps_set (i := 2) nd rfl (Or.inl rfl) (pv 5))))))
    (pss_one (ps_ret (pv 2)))))), ?_⟩
    refine q_if (et_I (ev_lenV (ev_var rfl) hv rfl) ev_c) (fun e H1 e1 => ?_) (fun e H1 e1 => ?_)
    · -- more than three places
      refine q_asgL (xs := [v]) (el_lst (ea_cons (ev_var rfl) ea_nil) (by show 1 ≤ 100000; decide)) fun p H2 np e2 hp => ?_
      refine q_for (fun σ' H' => Ex H H' ∧ ∃ (p : Addr) (xs : List V) (x3 x4 x5 x6 x7 : Option V), σ' = [some v, some (.int wd), some (.ref p), x3, x4, x5, x6, x7] ∧ H p = none ∧ H' p = some (.lst xs) ∧ xs.length ≤ 1000 ∧ ∀ x ∈ xs, Vg K zs.length x H') (fun nxt hn => ?_) (fun σ' H' hP => ?_)
      · refine s_forR1 (n := (zs.length : Int)) (ea_cons (ev_lenV (ev_var rfl) (hv.mono (e1.trans e2)) rfl) ea_nil) ⟨by omega, by omega⟩
          (fun i σ' H' => Ex H H' ∧ ∃ (p : Addr) (xs : List V) (x3 x4 x5 x6 x7 : Option V), σ' = [some v, some (.int wd), some (.ref p), x3, x4, x5, x6, x7] ∧ H p = none ∧ H' p = some (.lst xs) ∧ xs.length = 1 + 2 * i ∧ ∀ x ∈ xs, Vg K zs.length x H')
          (fun H3 e3 => ⟨(e1.trans e2).trans e3, p, [v], none, none, none, none, none, rfl, fresh_back e1 np, e3 p _ hp, rfl, fun x hx => by
            rw [List.mem_singleton.mp hx]
            exact ⟨zs, hv.mono ((e1.trans e2).trans e3), rfl, bz.bd⟩⟩) (fun i σ' H' hi hP => ?_) (fun σ' H' hP => ?_)
        · obtain ⟨e4, p, xs, x3, x4, x5, x6, x7, rfl, np, hp, hl, hx⟩ := hP
          have hi' : i < zs.length := by omega
          have ga : zs[i]? = some zs[i] := List.getElem?_eq_getElem hi'
          have ba := bz.one ga
          have hv4 := hv.mono e4
          refine ⟨_, rfl, ?_⟩
          have e5 : Ex H' H' := Ex.refl _
          refine eg_NL (G := Vg K zs.length) (xs := [.int wd, .int (-wd)]) vg_mono vg_off (el_lst (ea_cons (ev_var rfl) (ea_cons (ev_un (ev_var rfl) ru_neg) ea_nil)) (by show 2 ≤ 100000; decide)) (by show 2 ≤ 40000; decide) (fun _ => rfl) (fun m x H6 e6 hm => ?_) H' (Ex.refl _) _ fun p' H6 ys np' e6 hp' hl' hy => ?_
          · obtain ⟨st, rfl, hst⟩ : ∃ st : Int, x = .int st ∧ (-3 ≤ st ∧ st ≤ 3) := by
              match m, hm with
              | 0, hm => exact ⟨wd, (Option.some.inj hm).symm, by omega, by omega⟩
              | 1, hm => exact ⟨-wd, (Option.some.inj hm).symm, by omega, by omega⟩
              | m + 2, hm => exact absurd hm (by simp)
            have hv6 := hv4.mono (e5.trans e6)
            refine (evg_cat (evg_cat (evg_to (ev_var rfl) hv6 (ev_var rfl)) (evg_one (ev_add (ev_ixV (ev_var rfl) (ev_var rfl) hv6 ga) (ev_var rfl))) (by rw [List.length_take]; omega) (by show 1 ≤ 1000; decide)) (evg_from (j := i + 1) (ev_var rfl) hv6 (ev_is (ev_add (ev_var rfl) ev_c) (congrArg V.int (by omega)))) (by rw [List.length_append, List.length_take]; show _ + 1 ≤ 1000; omega) (by rw [List.length_drop]; omega)).imp fun w H7 g => ⟨_, g, ?_, ?_⟩
            · rw [List.length_append, List.length_append, List.length_take, List.length_drop]
              show min i zs.length + 1 + (zs.length - (i + 1)) = zs.length
              omega
            · intro z hz
              rcases List.mem_append.mp hz with hz | hz
              · rcases List.mem_append.mp hz with hz | hz
                · exact bz.bd z (List.mem_of_mem_take hz)
                · rw [List.mem_singleton.mp hz]
                  omega
              · exact bz.bd z (List.mem_of_mem_drop hz)
          · refine ⟨p, p', xs, ys, rfl, rfl, e6 p _ (e5 p _ hp), hp', sz_of (by rw [hl, hl']; show 1 + 2 * i + 2 ≤ 100000; omega), fun p2 np2 => ?_⟩
            have e7 := ((e4.trans e5).trans e6).trans (Ex.new (o := .lst (xs ++ ys)) np2)
            refine ⟨e7, p2, xs ++ ys, some (.int (i : Int)), x4, x5, x6, x7, rfl, fresh_back ((e4.trans e5).trans e6) np2, upd_same, by rw [List.length_append, hl, hl']; show 1 + 2 * i + 2 = _; omega, fun x hm => ?_⟩
            rcases List.mem_append.mp hm with hm | hm
            · exact vg_mono x _ _ ((e5.trans e6).trans (Ex.new np2)) (hx x hm)
            · exact vg_mono x _ _ (Ex.new np2) (hy x hm)
        · obtain ⟨e4, p, xs, x3, x4, x5, x6, x7, rfl, np, hp, hl, hx⟩ := hP
          exact hn _ _ ⟨e4, p, xs, x3, x4, x5, x6, x7, rfl, np, hp, by omega, hx⟩
      · obtain ⟨e4, p, xs, x3, x4, x5, x6, x7, rfl, np, hp, hl, hx⟩ := hP
        exact s_ret (ev_var rfl) fun H5 e5 => q p H5 xs np (e4.trans e5) (e5 p _ hp) hl fun x hm => vg_mono x _ _ e5 (hx x hm)
    · -- up to three places
      have h3 : zs.length ≤ 3 := by
        have := of_decide_eq_false e
        omega
      obtain ⟨pv', rfl, hq⟩ := hv
      refine q_asgL1 (G := Vc K []) evg_nil fun x0 p H2 e2 g0 np => ?_
      have e3 := (e1.trans e2).trans (Ex.new (o := .lst [x0]) np)
      refine q_for (fun σ' H' => Ex H H' ∧ ∃ (p : Addr) (xs : List V) (x3 x4 x5 x6 x7 : Option V), σ' = [some (.ref pv'), some (.int wd), some (.ref p), x3, x4, x5, x6, x7] ∧ H p = none ∧ H' p = some (.lst xs) ∧ xs.length ≤ 1000 ∧ ∀ x ∈ xs, Vg K zs.length x H') (fun nxt hn => ?_) (fun σ' H' hP => ?_)
      · refine s_forT (a := pv') (xs := vi zs) (ev_var rfl) (ex_t e3 hq)
          (fun i σ' H' => Ex H H' ∧ ∃ (p : Addr) (xs : List V) (x3 x4 x5 x6 x7 : Option V), σ' = [some (.ref pv'), some (.int wd), some (.ref p), x3, x4, x5, x6, x7] ∧ H p = none ∧ H' p = some (.lst xs) ∧ xs.length ≤ 7 ^ i ∧ ∀ x ∈ xs, Vg K i x H')
          (fun H4 e4 => ⟨e3.trans e4, p, [x0], none, none, none, none, none, rfl, fresh_back (e1.trans e2) np, e4 p _ upd_same, Nat.le_refl _, fun x hx => by
            rw [List.mem_singleton.mp hx]
            exact ⟨[], VecAt.mono ((Ex.new np).trans e4) g0, rfl, fun z hz => by cases hz⟩⟩) (fun i σ' H' _ hP => ex_t hP.1 hq) (fun i x σ' H' hi hP => ?_) (fun σ' H' hP => ?_)
        · obtain ⟨e4, p, xs, x3, x4, x5, x6, x7, rfl, np, hp, hl, hx⟩ := hP
          obtain ⟨xi, ei, rfl⟩ := vi_get hi
          have hi' : i < zs.length := (List.getElem?_eq_some_iff.mp ei).1
          have bi := bz.one ei
          have l7 : xs.length ≤ 49 := Nat.le_trans hl (Nat.le_trans (Nat.pow_le_pow_right (by decide) (show i ≤ 2 by omega)) (by decide))
          show tSeq _ _ _ _ _
          refine q_asgL (xs := []) (el_lst ea_nil (by show 0 ≤ 100000; decide)) fun pl H5 npl e5 hpl => ?_
          refine q_for (fun σ' H' => Ex H H' ∧ ∃ (pl : Addr) (ys : List V) (x2 x3 x6 x7 : Option V), σ' = [some (.ref pv'), some (.int wd), x2, x3, some (.int xi), some (.ref pl), x6, x7] ∧ H pl = none ∧ H' pl = some (.lst ys) ∧ ys.length ≤ 7 * xs.length ∧ ∀ y ∈ ys, Vg K (i + 1) y H') (fun nxt hn => ?_) (fun σ' H' hP => ?_)
          · refine s_forL (a := p) (xs := xs) (ev_var rfl) (sq_of (e5 p _ hp))
              (fun m σ' H' => Ex H5 H' ∧ ∃ (pl : Addr) (ys : List V) (x6 x7 : Option V), σ' = [some (.ref pv'), some (.int wd), some (.ref p), x3, some (.int xi), some (.ref pl), x6, x7] ∧ H pl = none ∧ H' pl = some (.lst ys) ∧ ys.length ≤ 7 * m ∧ ∀ y ∈ ys, Vg K (i + 1) y H')
              (fun H6 e6 => ⟨e6, pl, [], _, _, rfl, fresh_back e4 npl, e6 pl _ hpl, Nat.le_refl _, fun y hy => by cases hy⟩) (fun m σ' H' _ hP => sq_of (hP.1 p _ (e5 p _ hp))) (fun m x σ' H' hm hP => ?_) (fun σ' H' hP => ?_)
            · obtain ⟨e6, pl, ys, x6, x7, rfl, npl, hpl, hyl, hy⟩ := hP
              have hmx := (List.getElem?_eq_some_iff.mp hm).1
              obtain ⟨us, gu, lu, bu⟩ := vg_mono x _ _ (e5.trans e6) (hx x (List.mem_of_getElem? hm))
              refine ⟨_, rfl, ?_⟩
              have e7 : Ex H' H' := Ex.refl _
              obtain ⟨n7, hn7⟩ : ∃ n7 : Nat, wd + 1 - (-wd) = (n7 : Int) := ⟨(wd + 1 - (-wd)).toNat, by omega⟩
              refine eg_R2 (G := Vg K (i + 1)) (n := n7) vg_mono vg_off (ea_cons (ev_un (ev_var rfl) ru_neg) (ea_cons (ev_add (ev_var rfl) ev_c) ea_nil)) hn7 (by omega) ⟨by omega, by omega⟩ (fun _ => rfl) (fun m' H8 e8 hm' => ?_) H' (Ex.refl _) _ fun p' H8 zs' np' e8 hp' hl' hz => ?_
              · refine (evg_cat (evg_var (ev_var rfl) (gu.mono (e7.trans e8))) (evg_one (ev_add (ev_var rfl) (ev_var rfl))) (by omega) (by show 1 ≤ 1000; decide)).imp fun w H9 g => ⟨_, g, by rw [List.length_append, lu] <;> rfl, ?_⟩
                intro z hz
                rcases List.mem_append.mp hz with hz | hz
                · exact bu z hz
                · rw [List.mem_singleton.mp hz]
                  omega
              · refine ⟨pl, p', ys, zs', rfl, rfl, e8 pl _ (e7 pl _ hpl), hp', sz_of (by rw [hl']; omega), fun p2 np2 => ?_⟩
                have e9 := (e7.trans e8).trans (Ex.new (o := .lst (ys ++ zs')) np2)
                refine ⟨e6.trans e9, p2, ys ++ zs', some x, x7, rfl, fresh_back (((e4.trans e5).trans e6).trans (e7.trans e8)) np2, upd_same, by rw [List.length_append, hl']; omega, fun y hm => ?_⟩
                rcases List.mem_append.mp hm with hm | hm
                · exact vg_mono y _ _ e9 (hy y hm)
                · exact vg_mono y _ _ (Ex.new np2) (hz y hm)
            · obtain ⟨e6, pl, ys, x6, x7, rfl, npl, hpl, hyl, hy⟩ := hP
              exact hn _ _ ⟨(e4.trans e5).trans e6, pl, ys, _, _, x6, x7, rfl, npl, hpl, hyl, hy⟩
          · obtain ⟨e6, pl, ys, x2, x3, x6, x7, rfl, npl, hpl, hyl, hy⟩ := hP
            refine s_asg (ev_var rfl) fun H7 e7 => ⟨e6.trans e7, pl, ys, x3, some (.int xi), some (.ref pl), x6, x7, rfl, npl, e7 pl _ hpl, ?_, fun y hm => vg_mono y _ _ e7 (hy y hm)⟩
            rw [Nat.pow_succ]
            omega
        · obtain ⟨e4, p, xs, x3, x4, x5, x6, x7, rfl, np, hp, hl, hx⟩ := hP
          rw [List.length_map] at hl hx
          exact hn _ _ ⟨e4, p, xs, x3, x4, x5, x6, x7, rfl, np, hp, Nat.le_trans hl (Nat.le_trans (Nat.pow_le_pow_right (by decide) h3) (by decide)), hx⟩
      · obtain ⟨e4, p, xs, x3, x4, x5, x6, x7, rfl, np, hp, hl, hx⟩ := hP
        exact s_ret (ev_var rfl) fun H5 e5 => q p H5 xs np (e4.trans e5) (e5 p _ hp) hl fun x hm => vg_mono x _ _ e5 (hx x hm)
end
end K21
/-! F7: what the law asks of a region and a vector. -/
namespace K21
open PySem PySem.Spec PyProof.Rows L2 Evl
section
variable {K : PySem.W.Frag} {σ : L2.St} {H H' : Hp} {ta tb tc te tx : TE} {t u : TT} {x y z v : V} {r : R2}
theorem dec_iI {i j : Int} : decide (V.int i = V.int j) = decide (i = j) := by
  by_cases h : i = j
  · rw [decide_eq_true h, decide_eq_true (congrArg V.int h)]
  · rw [decide_eq_false h, decide_eq_false fun z => h (V.int.inj z)]
theorem el_if {b : Bool} {xs : List V} (h : EvT t σ H b) (h1 : b = true → EvL ta σ H xs) (h2 : b = false → EvL tb σ H xs) : EvL (tIf t ta tb) σ H xs := fun H1 e Q q => h H1 e _ fun H2 e2 => by
  cases b with
  | true => exact iteT (h1 rfl H2 (e.trans e2) Q fun p H3 hp e3 h3 => q p H3 (fresh_back e2 hp) (e2.trans e3) h3)
  | false => exact iteF (h2 rfl H2 (e.trans e2) Q fun p H3 hp e3 h3 => q p H3 (fresh_back e2 hp) (e2.trans e3) h3)
theorem ev_reprB {b : Bool} (ha : Ev ta σ H (.bl b)) : Ev (tCB rReprB (tCons ta tNil)) σ H (.str (if b = true then "True" else "False")) := ev_blt (ea_cons ha ea_nil) fun H1 _ Q q => ⟨b, rfl, q⟩
theorem ev_reprI {i : Int} (ha : Ev ta σ H (.int i)) (hi : i.natAbs < 2 ^ 64) : Ev (tCB (fun xs H Q => ∃ i : Int, xs = [V.int i] ∧ i.natAbs.log2 < 1920 ∧ Q (.str (toString i)) H) (tCons ta tNil)) σ H (.str (toString i)) := ev_blt (ea_cons ha ea_nil) fun H1 _ Q q => ⟨i, rfl, by
  have h1 : i.natAbs.log2 < 64 := PySem.Flt.log2_lt_of (by decide) hi
  omega, q⟩
/-- unlike texts are asked for, and they are alike -/
theorem et_same {s : Str} (ha : Ev ta σ H (.str s)) (hb : Ev tb σ H (.str s)) : EvT (tTest (tOp rNe ta tb)) σ H false := et_is (et_ne ha hb) (by rw [decide_eq_true rfl] <;> rfl)
theorem et_sameI {i : Int} (ha : Ev ta σ H (.int i)) (hb : Ev tb σ H (.int i)) : EvT (tTest (tOp rNe ta tb)) σ H false := et_is (et_ne ha hb) (by rw [decide_eq_true rfl] <;> rfl)
theorem ev_callK0 {sp : Sp} {ta : TA} {vs : List V} (h : EvA ta σ H vs) (hs : SpV sp vs.reverse H z) : Ev (tCallK0 sp ta) σ H z := fun H1 e Q q =>
  h H1 e _ fun H2 e2 => hs H2 (e.trans e2) Q (fun H3 e3 => q H3 (e2.trans e3)) E0
theorem spF_w {pre : List V → Hp → V → Prop} {vs : List V} {z : V} (h : ∀ H1, Ex H H1 → pre vs H1 z) : SpV (spF pre) vs H z := fun H1 e Q q E => ⟨z, h H1 e, q⟩
/-- a loop over a window -/
theorem s_forWin {ta : TA} {w : V} {us : List Int} {wd : Int} {D : Ends} {tu : TS} {E : XK} {j : Nat} (h : EvA ta σ H [w, .int wd]) (hv : VecAt K H w us) (hw : 0 ≤ wd ∧ wd ≤ 3) (bu : Bt us) (h8 : us.length ≤ 8) (Pv : Hp → L2.St → Hp → Prop) (hE : ∀ H3 σ' H', Pv H3 σ' H' → Ex H3 H')
    (h0 : ∀ H3, Ex H H3 → Pv H3 σ H3) (hs : ∀ H3 x σ' H', Ex H H3 → Vg K us.length x H' → Pv H3 σ' H' → tu { D with nx := Pv H3, ct := Pv H3, bk := D.nx } (σ'.set j (some x)) H') (hd : ∀ H3 σ' H', Ex H H3 → Pv H3 σ' H' → D.nx σ' H') :
    tFor (iList K (tCall (spWin K) [] E ta)) (gName j) tu D σ H := h H (Ex.refl H) _ fun H2 e2 => by
  refine ⟨w, us, wd, List.append_nil _, hv.mono e2, hw, bu, h8, fun p H3 xs np e3 hp hl hx => ⟨p, rfl, ⟨xs, sq_of hp⟩, for_list (xs := xs) (fun _ σ' H' => Pv H3 σ' H') (h0 H3 (e2.trans e3)) (fun i σ' H' _ hP => sq_of (hE _ _ _ hP p _ hp)) (fun i x σ' H' hi hP => ?_) (fun σ' H' hP => hd H3 σ' H' (e2.trans e3) hP)⟩⟩
  exact hs H3 x σ' H' (e2.trans e3) (vg_mono x _ _ (hE _ _ _ hP) (hx x (List.mem_of_getElem? hi))) hP
end
/-- region and vector within the law's limits -/
structure Fit2 (R : Reg) (zs : List Int) : Prop where
  fit : Fit R zs
  bt : Bt zs
  one : Bt R.one
  two : ∀ lo hi, R = .box lo hi → Bt hi
theorem Fit.other {R : Reg} {zs us : List Int} (h : Fit R zs) (hl : us.length = zs.length) (hb : Bd us) : Fit R us := ⟨by rw [hl]; exact h.ok, by rw [hl]; exact h.pos, by rw [hl]; exact h.few, h.sm, hb⟩
theorem nat_of_int {i : Int} (h0 : 0 ≤ i) (h : i < 2 ^ 64) : i.natAbs < 2 ^ 64 := by omega
theorem floor_sz {k : Kd} {R : Reg} {zs : List Int} (ft : Fit R zs) : (floorOf k R zs).natAbs < 2 ^ 64 ∧ (ceilOf k R zs).natAbs < 2 ^ 64 := by
  have h8 : (zs.length : Int) ≤ 8 := by
    have := ft.few
    omega
  have rt_le : ∀ {a b : Int}, Sz a b → 0 ≤ rt (4 * a * b) ∧ rt (4 * a * b) ≤ 5000000000 := fun {a b} hs => by
    obtain ⟨m0, m1⟩ := hs.mul
    refine ⟨rt_nn _, ?_⟩
    obtain ⟨r0, r1, _⟩ := rt_is m0
    exact le_of_sq (by omega) (by omega)
  have gap_le : ∀ {a b : Int}, Sz a b → (gapOf k a b).natAbs < 2 ^ 64 := fun {a b} hs => by
    have h1 := hs.1
    have h2 := hs.2.1
    have h3 := rt_le hs
    unfold gapOf absI
    split
    · omega
    · split <;> omega
  have most_le : ∀ {a b : Int}, Sz a b → 0 ≤ mostBeyond k a b ∧ mostBeyond k a b < 2 ^ 60 := fun {a b} hs => by
    have h1 := hs.1
    have h2 := hs.2.1
    have h3 := rt_le hs
    unfold mostBeyond
    split <;> omega
  have shell_le : ∀ {l g a : Int}, Sz a g → Sz a l → (shellFloor k l g a).natAbs < 2 ^ 64 := fun {l g a} s1 s2 => by
    unfold shellFloor leastBeyond
    split
    · exact gap_le s1
    · split
      · exact gap_le s2.comm
      · decide
  have cap_le : ∀ {m : Int} {n : Nat}, n ≤ 8 → 0 ≤ m ∧ m < 2 ^ 60 → (capped k m n).natAbs < 2 ^ 64 := fun {m n} hn hm => by
    unfold capped min2
    split
    · split <;> omega
    · omega
  have box_le : ∀ {f : Int → Int → Int → Int} {lo hi : List Int}, lo.length = zs.length → hi.length = zs.length → (∀ d ∈ zip3 f lo hi zs, -40000 ≤ d ∧ d ≤ 40000) → (joined k ((zip3 f lo hi zs).map (partOf k))).natAbs < 2 ^ 64 := fun {f lo hi} l1 l2 hd => by
    have hl := zip3_len f l1 l2 (show zs.length = zs.length from rfl)
    have key : ∀ l : List Int, (∀ d ∈ l, -40000 ≤ d ∧ d ≤ 40000) → 0 ≤ joined k (l.map (partOf k)) ∧ joined k (l.map (partOf k)) ≤ 1600000000 * (l.length : Int) := fun l => by
      induction l with
      | nil => exact fun _ => ⟨Int.le_refl _, Int.le_refl _⟩
      | cons a l ih =>
        intro h
        obtain ⟨i1, i2⟩ := ih fun d hd => h d (List.mem_cons_of_mem _ hd)
        have p1 := part_le k (h a List.mem_cons_self)
        have p0 := part_nn k a
        show 0 ≤ comb k (partOf k a) (joined k (l.map (partOf k))) ∧ comb k (partOf k a) (joined k (l.map (partOf k))) ≤ _
        rw [List.length_cons]
        unfold comb
        split
        · split <;> omega
        · omega
    have := key _ hd
    rw [hl] at this
    omega
  cases R with
  | ball c r =>
    have hc : c.length ≤ 8 := by
      rw [ft.ok.1]
      exact ft.few
    have s1 : Sz (dist k c zs) r := dist_sz ft.sm.1 ft.bd hc ft.ok.2 ft.sm.2
    have s2 : Sz (dist k c zs) 0 := dist_sz ft.sm.1 ft.bd hc (Int.le_refl _) (by decide)
    exact ⟨shell_le s1 s2, cap_le ft.few (most_le s1)⟩
  | cell c l g =>
    have hc : c.length ≤ 8 := by
      rw [ft.ok.1]
      exact ft.few
    have s1 : Sz (dist k c zs) g := dist_sz ft.sm.1 ft.bd hc (Int.le_trans ft.ok.2.1 ft.ok.2.2) ft.sm.2
    have s2 : Sz (dist k c zs) l := dist_sz ft.sm.1 ft.bd hc ft.ok.2.1 (Int.le_trans ft.ok.2.2 ft.sm.2)
    exact ⟨shell_le s1 s2, cap_le ft.few (most_le s1)⟩
  | box lo hi =>
    exact ⟨box_le ft.ok.1 ft.ok.2.1 (gap_bd ft.sm.1 ft.sm.2 ft.bd), box_le ft.ok.1 ft.ok.2.1 (room_bd ft.sm.1 ft.sm.2 ft.bd)⟩
section
variable {P : Program} {w : World} {K : PySem.W.Frag} {mg : Str → Option Value} {base : Heap}
abbrev s__law_tried_right : Stmt := topS 36
abbrev N__law_tried_right : List Str := ["_law_kind", "_law_region_here", "_law_vector", "_law_low", "_law_high", "_law_around", "_law_middle", "_law_other", "_law_held"]
abbrev p__law_tried_right : List Str := ["_law_kind", "_law_region_here", "_law_vector", "_law_low", "_law_high"]
theorem sc__law_tried_right : FnScope N__law_tried_right p__law_tried_right (defScope s__law_tried_right) := ⟨rfl, rfl, rfl, by decide +kernel, rfl, by decide +kernel, by decide +kernel⟩

def preTried (K : PySem.W.Frag) : List V → Hp → V → Prop := fun vs H z => ∃ (k : Kd) (r v : V) (R : Reg) (zs : List Int), vs = [.str k.s, r, v, .int (floorOf k R zs), .int (ceilOf k R zs)] ∧ RegAt K H r R ∧ VecAt K H v zs ∧ Fit2 R zs ∧ z = .bl true
theorem ok__law_tried_right (F : FunX K mg "_law_tried_right" s__law_tried_right p__law_tried_right) (T : Gs mg) (D_law_window : Def P w K mg base 1 "_law_window" p__law_window (spWin K)) (D_law_holds : Def P w K mg base 3 "_law_holds" p__law_holds (spF (preHolds K)))
    (Dholds_vector : Def P w K mg base 3 "holds_vector" p_holds_vector (spF (preHolds K))) (D_law_distance : Def P w K mg base 2 "_law_distance" p__law_distance (spF (preLDist K))) : Def P w K mg base 4 "_law_tried_right" p__law_tried_right (spF (preTried K)) := by
  refine F.def_ fun f fd F => F.ok sc__law_tried_right (fun vs H Q E h => ?_) (fun cdv A outer s H vs Q E hr h => ?_)
  · obtain ⟨z, ⟨k, r, v, R, zs, rfl, _⟩, _⟩ := h
    rfl
  · obtain ⟨z, ⟨k, r, v, R, zs, rfl, hR, hv, f2, rfl⟩, q⟩ := h
    have nd := sc__law_tried_right.nd
    refine ⟨_, (pss_cons (ps_set (i := 5) nd rfl (Or.inl rfl) (pe_ifExp (pt_cmpR op_eq (pe_ix (ix_tupK K) (pv 1) pe_int (fun _ _ => rfl)) pe_str (nomark _)) (pe_lst (pa_cons (pe_ix (ix_tupK K) (pv 1) pe_int (fun _ _ => rfl)) (pa_cons (pe_ix (ix_tupK K) (pv 1) pe_int (fun _ _ => rfl)) pa_nil))) (pe_lst (pa_cons (pe_ix (ix_tupK K) (pv 1) pe_int (fun _ _ => rfl)) (pa_cons (pv 2) pa_nil)))))
    (pss_cons (ps_for PassesOwn.never rfl (pi_listK K (pv 5)) (pg_name (i := 6) nd rfl (Or.inl rfl)) (pss_one (ps_for PassesOwn.never rfl (pi_listK K (pe_D D_law_window (hr.mono (by decide)) (pa_cons (pv 6) (pa_cons (pe_ifExp (pt_cmpR op_eq (pe_callB (call_lenK K) (by rfl) T.n_len PySem.boot_len (pa_cons (pv 2) pa_nil)) pe_int (nomark _)) pe_int (pe_ifExp (pt_cmpR op_eq (pe_callB (call_lenK K) (by rfl) T.n_len PySem.boot_len (pa_cons (pv 2) pa_nil)) pe_int (nomark _)) pe_int pe_int)) pa_nil)))) (pg_name (i := 7) nd rfl (Or.inl rfl)) (pss_cons (ps_set (i := 8) nd rfl (Or.inl rfl) (pe_D D_law_holds (hr.mono (by decide)) (pa_cons (pv 0) (pa_cons (pv 1) (pa_cons (pv 7) pa_nil)))))
    (pss_cons (ps_if (pt_cmpR op_ne (pe_callB cr_reprB (by rfl) T.n_repr (by decide +kernel) (pa_cons (pe_D Dholds_vector (hr.mono (by decide)) (pa_cons (pv 0) (pa_cons (pv 1) (pa_cons (pv 7) pa_nil)))) pa_nil)) (pe_callB cr_reprB (by rfl) T.n_repr (by decide +kernel) (pa_cons (pv 8) pa_nil)) (nomark _)) (pss_one (ps_ret pe_bl)) pss_nil)
    (pss_one (ps_if (PW.pt (pw_and (pt_val (pv 8)) (pw_and1 (pt_not (pt_chain op_le op_le (pv 3) (pe_D D_law_distance (hr.mono (by decide)) (pa_cons (pv 0) (pa_cons (pv 2) (pa_cons (pv 7) pa_nil)))) (pv 4)))))) (pss_one (ps_ret pe_bl)) pss_nil)))))))
    (pss_one (ps_ret pe_bl)))), ?_⟩
    have ft := f2.fit
    -- the two vectors around which is looked
    obtain ⟨m1, m2, around⟩ : ∃ m1 m2 : V, (∀ m, m = m1 ∨ m = m2 → ∃ us, VecAt K H m us ∧ us.length = zs.length ∧ Bt us) ∧
        EvL (tIf (tTest (tOp rEq (tOp (rIxT K) (tVar 1) (tC (.int 0))) (tC (.str "box")))) (tLst (tCons (tOp (rIxT K) (tVar 1) (tC (.int 1))) (tCons (tOp (rIxT K) (tVar 1) (tC (.int 2))) tNil))) (tLst (tCons (tOp (rIxT K) (tVar 1) (tC (.int 1))) (tCons (tVar 2) tNil))))
          (start N__law_tried_right [.str k.s, r, v, .int (floorOf k R zs), .int (ceilOf k R zs)]) H [m1, m2] := by
      have hone := f2.one
      cases hb : R.isBox with
      | true =>
        cases R with
        | ball _ _ => cases hb
        | cell _ _ _ => cases hb
        | box lo hi =>
          obtain ⟨a, b, d, rfl, h1, hb', hd⟩ := hR
          have hR' : RegAt K H (.ref a) (.box lo hi) := ⟨a, b, d, rfl, h1, hb', hd⟩
          refine ⟨b, d, fun m hm => ?_, el_if (et_box (ev_var rfl) hR') (fun _ => el_lst (ea_cons (ev_ixT (j := 1) (ev_var rfl) ev_c h1 rfl) (ea_cons (ev_ixT (j := 2) (ev_var rfl) ev_c h1 rfl) ea_nil)) (by show 2 ≤ 100000; decide)) (fun e => by cases e)⟩
          rcases hm with rfl | rfl
          · exact ⟨lo, hb', ft.ok.1, hone⟩
          · exact ⟨hi, hd, ft.ok.2.1, f2.two lo hi rfl⟩
      | false =>
        obtain ⟨a, b, rest, rfl, h1, hb'⟩ := hR.parts
        refine ⟨b, v, fun m hm => ?_, el_if (et_box (ev_var rfl) hR) (fun e => by rw [hb] at e; cases e) (fun _ => el_lst (ea_cons (ev_ixT (j := 1) (ev_var rfl) ev_c h1 rfl) (ea_cons (ev_var rfl) ea_nil)) (by show 2 ≤ 100000; decide))⟩
        rcases hm with rfl | rfl
        · refine ⟨R.one, hb', ?_, hone⟩
          cases R with
          | ball c r => exact ft.ok.1
          | cell c l g => exact ft.ok.1
          | box _ _ => cases hb
        · exact ⟨zs, hv, rfl, f2.bt⟩
    obtain ⟨hm, hev⟩ := around
    refine q_asgL hev fun p H1 np e1 hp => ?_
    refine q_for (fun σ' H' => Ex H H') (fun nxt hn => ?_) (fun σ' H' e2 => s_ret ev_c fun H2 e3 => q H2 (e2.trans e3))
    refine s_forL (a := p) (xs := [m1, m2]) (ev_var rfl) (sq_of hp)
      (fun i σ' H' => Ex H1 H' ∧ ∃ x6 x7 x8 : Option V, σ' = [some (.str k.s), some r, some v, some (.int (floorOf k R zs)), some (.int (ceilOf k R zs)), some (.ref p), x6, x7, x8])
      (fun H2 e2 => ⟨e2, none, none, none, rfl⟩) (fun i σ' H' _ hP => sq_of (hP.1 p _ hp)) (fun i m σ' H' hi hP => ?_) (fun σ' H' hP => hn _ _ (e1.trans hP.1))
    obtain ⟨e2, x6, x7, x8, rfl⟩ := hP
    obtain ⟨us, hu, lu, bu⟩ := hm m (by
      match i, hi with
      | 0, hi => exact .inl (Option.some.inj hi).symm
      | 1, hi => exact .inr (Option.some.inj hi).symm
      | i + 2, hi => exact absurd hi (by simp))
    have e12 := e1.trans e2
    have hwd : 0 ≤ (if decide ((zs.length : Int) = 1) = true then (3 : Int) else if decide ((zs.length : Int) = 2) = true then 2 else 1) ∧ (if decide ((zs.length : Int) = 1) = true then (3 : Int) else if decide ((zs.length : Int) = 2) = true then 2 else 1) ≤ 3 := by
      split
      · omega
      · split <;> omega
    show tFor _ _ _ _ _ _
    refine s_forWin (us := us) (wd := if decide ((zs.length : Int) = 1) = true then 3 else if decide ((zs.length : Int) = 2) = true then 2 else 1) (ea_cons (ev_var rfl) (ea_cons (ev_iteI (et_is (et_eq (ev_lenV (ev_var rfl) (hv.mono e12) rfl) ev_c) dec_iI) (fun _ => ev_c) (fun _ => ev_iteI (et_is (et_eq (ev_lenV (ev_var rfl) (hv.mono e12) rfl) ev_c) dec_iI) (fun _ => ev_c) (fun _ => ev_c))) ea_nil)) (hu.mono e12) hwd bu (by rw [lu]; exact ft.few)
      (fun H3 σ' H' => Ex H3 H' ∧ ∃ x7 x8 : Option V, σ' = [some (.str k.s), some r, some v, some (.int (floorOf k R zs)), some (.int (ceilOf k R zs)), some (.ref p), some m, x7, x8])
      (fun H3 σ' H' hP => hP.1) (fun H3 e3 => ⟨Ex.refl _, x7, x8, rfl⟩) (fun H3 x σ' H' e3 hx hP => ?_) (fun H3 σ' H' e3 hP => ?_)
    · obtain ⟨e4, y7, y8, rfl⟩ := hP
      obtain ⟨ws, hw, lw, bw⟩ := hx
      have e5 := (e12.trans e3).trans e4
      have fw : Fit R ws := ft.other (lw.trans lu) bw
      refine q_asg (ev_call (ea_cons (ev_var rfl) (ea_cons (ev_var rfl) (ea_cons (ev_var rfl) ea_nil))) (spF_v fun H5 e6 => ⟨k, r, x, R, ws, rfl, hR.mono (e5.trans e6), hw.mono e6, fw, rfl⟩)) fun H5 e6 => ?_
      refine q_if (et_same (ev_reprB (ev_call (ea_cons (ev_var rfl) (ea_cons (ev_var rfl) (ea_cons (ev_var rfl) ea_nil))) (spF_v fun H6 e7 => ⟨k, r, x, R, ws, rfl, hR.mono ((e5.trans e6).trans e7), hw.mono (e6.trans e7), fw, rfl⟩))) (ev_reprB (ev_var rfl))) (fun e => by cases e) (fun _ H6 e7 => ?_)
      refine s_if (et_is (et_and (et_B (ev_var rfl)) fun hh => et_not (et_chainI (ev_var rfl) (ev_call (ea_cons (ev_var rfl) (ea_cons (ev_var rfl) (ea_cons (ev_var rfl) ea_nil))) (spF_v fun H7 e8 => ⟨k, v, x, zs, ws, rfl, (hv.mono (((e5.trans e6).trans e7).trans e8)).seq, (hw.mono ((e6.trans e7).trans e8)).seq, ⟨(lw.trans lu).symm, Nat.le_trans ft.few (by decide)⟩, ft.bd, bw, rfl⟩)) (ev_var rfl))) (b := false) ?_) (fun e => by cases e) (fun _ H7 e8 => ⟨((e4.trans e6).trans e7).trans e8, _, _, rfl⟩)
      cases hh : holds k R ws with
      | false => rfl
      | true =>
        obtain ⟨f1, f2⟩ := floor_le k fw.ok (show zs.length = ws.length by rw [lw, lu]) rfl hh
        rw [decide_eq_true f1, decide_eq_true f2] <;> rfl
    · obtain ⟨e4, y7, y8, rfl⟩ := hP
      exact ⟨(e2.trans e3).trans e4, some m, y7, y8, rfl⟩
abbrev s__law_pick_far : Stmt := topS 37
abbrev N__law_pick_far : List Str := ["_law_kind", "_law_part_here", "_law_low", "_law_high"]
abbrev p__law_pick_far : List Str := ["_law_kind", "_law_part_here", "_law_low", "_law_high"]
theorem sc__law_pick_far : FnScope N__law_pick_far p__law_pick_far (defScope s__law_pick_far) := ⟨rfl, rfl, rfl, by decide +kernel, rfl, by decide +kernel, by decide +kernel⟩

def preFar : List V → Hp → V → Prop := fun vs H z => ∃ (k : Kd) (p a b : Int), vs = [.str k.s, .int p, .int a, .int b] ∧ z = .int (farAt k a b p)
theorem ok__law_pick_far (F : FunX K mg "_law_pick_far" s__law_pick_far p__law_pick_far) (T : Gs mg) : Def P w K mg base 1 "_law_pick_far" p__law_pick_far (spF preFar) := by
  refine F.def_ fun f fd F => F.ok sc__law_pick_far (fun vs H Q E h => ?_) (fun cdv A outer s H vs Q E hr h => ?_)
  · obtain ⟨z, ⟨k, p, a, b, rfl, _⟩, _⟩ := h
    rfl
  · obtain ⟨z, ⟨k, p, a, b, rfl, rfl⟩, q⟩ := h
    have nd := sc__law_pick_far.nd
    refine ⟨_, (pss_one (ps_ret (pe_ifExp (PW.pt (pw_or (pt_cmpR op_gt (pe_op op_sub (pv 1) (pv 2)) (pe_op op_sub (pv 3) (pv 1)) (nomark _)) (pw_or1 (PW.pt (pw_and (pt_cmpR op_eq (pv 0) pe_str (nomark _)) (pw_and1 (pt_cmpR op_eq (pv 1) (pv 3) (nomark _)))))))) (pv 2) (pv 3)))), ?_⟩
    refine s_ret (ev_is (ev_iteI (et_or (et_I (ev_sub (ev_var rfl) (ev_var rfl)) (ev_sub (ev_var rfl) (ev_var rfl))) fun _ => et_and (et_un (ev_var rfl) ev_c) fun _ => et_is (et_eq (ev_var rfl) (ev_var rfl)) dec_iI) (fun _ => ev_var rfl) (fun _ => ev_var rfl)) (congrArg V.int ?_)) q
    unfold farAt
    simp only [Bool.or_eq_true, Bool.and_eq_true, decide_eq_true_eq]
abbrev s__law_box_reached : Stmt := topS 38
abbrev N__law_box_reached : List Str := ["_law_kind", "_law_box", "_law_vector", "_law_low", "_law_high", "_law_nearest", "_law_far", "_law_at"]
abbrev p__law_box_reached : List Str := ["_law_kind", "_law_box", "_law_vector", "_law_low", "_law_high"]
theorem sc__law_box_reached : FnScope N__law_box_reached p__law_box_reached (defScope s__law_box_reached) := ⟨rfl, rfl, rfl, by decide +kernel, rfl, by decide +kernel, by decide +kernel⟩

def preReached (K : PySem.W.Frag) : List V → Hp → V → Prop := fun vs H z => ∃ (k : Kd) (r v : V) (lo hi zs : List Int), vs = [.str k.s, r, v, .int (floorOf k (.box lo hi) zs), .int (ceilOf k (.box lo hi) zs)] ∧ RegAt K H r (.box lo hi) ∧ VecAt K H v zs ∧ Fit (.box lo hi) zs ∧ z = .bl true
theorem ok__law_box_reached (F : FunX K mg "_law_box_reached" s__law_box_reached p__law_box_reached) (T : Gs mg) (D_law_pick_far : Def P w K mg base 1 "_law_pick_far" p__law_pick_far (spF preFar))
    (Dholds_vector : Def P w K mg base 3 "holds_vector" p_holds_vector (spF (preHolds K))) (D_law_distance : Def P w K mg base 2 "_law_distance" p__law_distance (spF (preLDist K))) : Def P w K mg base 4 "_law_box_reached" p__law_box_reached (spF (preReached K)) := by
  refine F.def_ fun f fd F => F.ok sc__law_box_reached (fun vs H Q E h => ?_) (fun cdv A outer s H vs Q E hr h => ?_)
  · obtain ⟨z, ⟨k, r, v, lo, hi, zs, rfl, _⟩, _⟩ := h
    rfl
  · obtain ⟨z, ⟨k, r, v, lo, hi, zs, rfl, hR, hv, ft, rfl⟩, q⟩ := h
    have nd := sc__law_box_reached.nd
    refine ⟨_, (pss_cons (ps_set (i := 5) nd rfl (Or.inl rfl) (pe_callTy (call_tupK K) (by rfl) T.n_tuple (by decide +kernel) (pa_cons (pe_lc (own := [("_law_at", 7)]) (g := gName 7) rfl nd (pi_range1 rfl T.n_range (pa_cons (pe_callB (call_lenK K) (by rfl) T.n_len PySem.boot_len (pa_cons (pv 2) pa_nil)) pa_nil)) (blkOk_by (own := [("_law_at", 7)]) (N := N__law_box_reached) (sc := defScope s__law_box_reached) (by decide +kernel)) (fun _ _ _ _ _ => pg_name (i := 7) nd rfl (Or.inl rfl)) (fun _ _ _ _ _ => pts_nil) (fun _ _ _ _ _ => pe_callB (call_min2 rfl) (by rfl) T.n_min (by decide +kernel) (pa_cons (pe_callB (call_max2 rfl) (by rfl) T.n_max (by decide +kernel) (pa_cons (pe_ix (ix_tupK K) (pv 2) (pv 7) (fun _ _ => rfl)) (pa_cons (pe_ix (ix_tupK K) (pe_ix (ix_tupK K) (pv 1) pe_int (fun _ _ => rfl)) (pv 7) (fun _ _ => rfl)) pa_nil))) (pa_cons (pe_ix (ix_tupK K) (pe_ix (ix_tupK K) (pv 1) pe_int (fun _ _ => rfl)) (pv 7) (fun _ _ => rfl)) pa_nil)))) pa_nil)))
    (pss_cons (ps_if (PW.pt (pw_or (pt_not (pt_val (pe_D Dholds_vector (hr.mono (by decide)) (pa_cons (pv 0) (pa_cons (pv 1) (pa_cons (pv 5) pa_nil)))))) (pw_or1 (pt_cmpR op_ne (pe_D D_law_distance (hr.mono (by decide)) (pa_cons (pv 0) (pa_cons (pv 2) (pa_cons (pv 5) pa_nil)))) (pv 3) (nomark _))))) (pss_one (ps_ret pe_bl)) pss_nil)
    (pss_cons (ps_set (i := 6) nd rfl (Or.inl rfl) (pe_callTy (call_tupK K) (by rfl) T.n_tuple (by decide +kernel) (pa_cons (pe_lc (own := [("_law_at", 7)]) (g := gName 7) rfl nd (pi_range1 rfl T.n_range (pa_cons (pe_callB (call_lenK K) (by rfl) T.n_len PySem.boot_len (pa_cons (pv 2) pa_nil)) pa_nil)) (blkOk_by (own := [("_law_at", 7)]) (N := N__law_box_reached) (sc := defScope s__law_box_reached) (by decide +kernel)) (fun _ _ _ _ _ => pg_name (i := 7) nd rfl (Or.inl rfl)) (fun _ _ _ _ _ => pts_nil) (fun _ _ _ _ _ => pe_D D_law_pick_far (hr.mono (by decide)) (pa_cons (pv 0) (pa_cons (pe_ix (ix_tupK K) (pv 2) (pv 7) (fun _ _ => rfl)) (pa_cons (pe_ix (ix_tupK K) (pe_ix (ix_tupK K) (pv 1) pe_int (fun _ _ => rfl)) (pv 7) (fun _ _ => rfl)) (pa_cons (pe_ix (ix_tupK K) (pe_ix (ix_tupK K) (pv 1) pe_int (fun _ _ => rfl)) (pv 7) (fun _ _ => rfl)) pa_nil)))))) pa_nil)))
    (pss_one (ps_ret (pe_and (pe_D Dholds_vector (hr.mono (by decide)) (pa_cons (pv 0) (pa_cons (pv 1) (pa_cons (pv 6) pa_nil)))) (pe_one (pe_cmpR op_eq (pe_D D_law_distance (hr.mono (by decide)) (pa_cons (pv 0) (pa_cons (pv 2) (pa_cons (pv 6) pa_nil)))) (pv 4) (nomark _))))))))), ?_⟩
    obtain ⟨a, b, d, rfl, h1, hb, hd⟩ := id hR
    obtain ⟨l1, l2, l3⟩ := id ft.ok
    have hl : ∀ f : Int → Int → Int → Int, (zip3 f lo hi zs).length = zs.length := fun f => zip3_len f l1 l2 rfl
    have b8 := ft.few
    have fN : Fit (.box lo hi) (nearest lo hi zs) := ft.other (hl _) (pick_bd near_in (l1.trans l2.symm) l2.symm l3 ft.sm.1 ft.sm.2)
    have fF : Fit (.box lo hi) (farthest k lo hi zs) := ft.other (hl _) (pick_bd (far_in k) (l1.trans l2.symm) l2.symm l3 ft.sm.1 ft.sm.2)
    obtain ⟨n1, n2⟩ := box_near k ft.ok rfl
    obtain ⟨g1, g2⟩ := box_far k ft.ok rfl
    refine q_asgU (xs := vi (nearest lo hi zs)) (eu_ofL (el_R1 (n := zs.length) (ea_cons (ev_lenV (ev_var rfl) hv rfl) ea_nil) ((List.length_map _).trans (hl _)) (by omega) (fun _ => rfl) fun i z H2 e2 hlt hz => ?_)) fun p H2 np e2 hp => ?_
    · have ga : lo[i]? = some lo[i] := List.getElem?_eq_getElem (by omega)
      have gb : zs[i]? = some zs[i] := List.getElem?_eq_getElem hlt
      have gc := List.getElem?_eq_getElem (show i < hi.length by omega)
      unfold nearest at hz
      rw [List.getElem?_map, zip3_get _ ga gc gb] at hz
      rw [← Option.some.inj hz]
      exact ev_min (ev_max (ev_ixV (ev_var rfl) (ev_var rfl) (hv.mono e2) gb) (ev_boxAt (m := 1) (ev_var rfl) (ex_t e2 h1) rfl (hb.mono e2) (ev_var rfl) ga)) (ev_boxAt (m := 2) (ev_var rfl) (ex_t e2 h1) rfl (hd.mono e2) (ev_var rfl) gc)
    · have hN : VecAt K H2 (.ref p) (nearest lo hi zs) := VecAt.of hp
      refine q_if (et_is (et_or (et_not (et_B (ev_call (ea_cons (ev_var rfl) (ea_cons (ev_var rfl) (ea_cons (ev_var rfl) ea_nil))) (spF_v fun H3 e3 => ⟨k, _, _, .box lo hi, nearest lo hi zs, rfl, hR.mono (e2.trans e3), hN.mono e3, fN, congrArg V.bl n1.symm⟩))))
        fun _ => et_sameI (ev_call (ea_cons (ev_var rfl) (ea_cons (ev_var rfl) (ea_cons (ev_var rfl) ea_nil))) (spF_v fun H3 e3 => ⟨k, _, _, zs, nearest lo hi zs, rfl, (hv.mono (e2.trans e3)).seq, (hN.mono e3).seq, ⟨(hl _).symm, by omega⟩, ft.bd, fN.bd, congrArg V.int n2.symm⟩)) (ev_var rfl)) (show (!true || false) = false from rfl)) (fun e => by cases e) (fun _ H3 e3 => ?_)
      have e23 := e2.trans e3
      refine q_asgU (xs := vi (farthest k lo hi zs)) (eu_ofL (el_R1 (n := zs.length) (ea_cons (ev_lenV (ev_var rfl) (hv.mono e23) rfl) ea_nil) ((List.length_map _).trans (hl _)) (by omega) (fun _ => rfl) fun i z H4 e4 hlt hz => ?_)) fun p' H4 np' e4 hp' => ?_
      · have ga : lo[i]? = some lo[i] := List.getElem?_eq_getElem (by omega)
        have gb : zs[i]? = some zs[i] := List.getElem?_eq_getElem hlt
        have gc := List.getElem?_eq_getElem (show i < hi.length by omega)
        unfold farthest at hz
        rw [List.getElem?_map, zip3_get _ ga gc gb] at hz
        rw [← Option.some.inj hz]
        have e5 := e23.trans e4
        exact ev_call (ea_cons (ev_var rfl) (ea_cons (ev_ixV (ev_var rfl) (ev_var rfl) (hv.mono e5) gb) (ea_cons (ev_boxAt (m := 1) (ev_var rfl) (ex_t e5 h1) rfl (hb.mono e5) (ev_var rfl) ga) (ea_cons (ev_boxAt (m := 2) (ev_var rfl) (ex_t e5 h1) rfl (hd.mono e5) (ev_var rfl) gc) ea_nil)))) (spF_v fun H6 _ => ⟨k, _, _, _, rfl, rfl⟩)
      · have hF : VecAt K H4 (.ref p') (farthest k lo hi zs) := VecAt.of hp'
        refine s_ret (ev_is (ev_andV (ev_call (ea_cons (ev_var rfl) (ea_cons (ev_var rfl) (ea_cons (ev_var rfl) ea_nil))) (spF_v fun H5 e5 => ⟨k, _, _, .box lo hi, farthest k lo hi zs, rfl, hR.mono ((e23.trans e4).trans e5), hF.mono e5, fF, congrArg V.bl g1.symm⟩))
          fun _ => ev_op (ev_call (ea_cons (ev_var rfl) (ea_cons (ev_var rfl) (ea_cons (ev_var rfl) ea_nil))) (spF_v fun H5 e5 => ⟨k, _, _, zs, farthest k lo hi zs, rfl, (hv.mono ((e23.trans e4).trans e5)).seq, (hF.mono e5).seq, ⟨(hl _).symm, by omega⟩, ft.bd, fF.bd, congrArg V.int g2.symm⟩)) (ev_var rfl) (rv_eq rfl)) ?_) fun H5 e5 => q H5 ((e23.trans e4).trans e5)
        rw [decide_eq_true rfl] <;> rfl
abbrev s__law_right : Stmt := topS 39
abbrev N__law_right : List Str := ["_law_kind", "_law_region_here", "_law_vector", "_law_low", "_law_high"]
abbrev p__law_right : List Str := ["_law_kind", "_law_region_here", "_law_vector"]
theorem sc__law_right : FnScope N__law_right p__law_right (defScope s__law_right) := ⟨rfl, rfl, rfl, by decide +kernel, rfl, by decide +kernel, by decide +kernel⟩

def preRight (K : PySem.W.Frag) : List V → Hp → V → Prop := fun vs H z => ∃ (k : Kd) (r v : V) (R : Reg) (zs : List Int), vs = [.str k.s, r, v] ∧ RegAt K H r R ∧ VecAt K H v zs ∧ Fit2 R zs ∧ z = .bl true
theorem ok__law_right (F : FunX K mg "_law_right" s__law_right p__law_right) (T : Gs mg) (Dfloor_of : Def P w K mg base 5 "floor_of" p_floor_of (spF (preFloor K))) (Dceiling_of : Def P w K mg base 5 "ceiling_of" p_ceiling_of (spF (preCeil K)))
    (Kfloor_of : DefK P w K mg base 5 "floor_of" p_floor_of (spF (preFloor K))) (Kceiling_of : DefK P w K mg base 5 "ceiling_of" p_ceiling_of (spF (preCeil K))) (D_law_floor : Def P w K mg base 3 "_law_floor" p__law_floor (spF (preFloor K))) (D_law_ceiling : Def P w K mg base 3 "_law_ceiling" p__law_ceiling (spF (preCeil K)))
    (Dholds_vector : Def P w K mg base 3 "holds_vector" p_holds_vector (spF (preHolds K))) (D_law_box_reached : Def P w K mg base 4 "_law_box_reached" p__law_box_reached (spF (preReached K))) (D_law_tried_right : Def P w K mg base 4 "_law_tried_right" p__law_tried_right (spF (preTried K))) :
    Def P w K mg base 6 "_law_right" p__law_right (spF (preRight K)) := by
  refine F.def_ fun f fd F => F.ok sc__law_right (fun vs H Q E h => ?_) (fun cdv A outer s H vs Q E hr h => ?_)
  · obtain ⟨z, ⟨k, r, v, R, zs, rfl, _⟩, _⟩ := h
    rfl
  · obtain ⟨z, ⟨k, r, v, R, zs, rfl, hR, hv, f2, rfl⟩, q⟩ := h
    have nd := sc__law_right.nd
    refine ⟨_, (pss_cons (ps_par (i := 3) (j := 4) rfl nd rfl rfl (by decide) rfl rfl (pa_cons (pe_D Dfloor_of (hr.mono (by decide)) (pa_cons (pv 0) (pa_cons (pv 1) (pa_cons (pv 2) pa_nil)))) (pa_cons (pe_D Dceiling_of (hr.mono (by decide)) (pa_cons (pv 0) (pa_cons (pv 1) (pa_cons (pv 2) pa_nil)))) pa_nil)) (by rfl))
    (pss_cons (ps_if (PW.pt (pw_or (pt_cmpR op_ne (pe_callB SkE.call_repr_int (by rfl) T.n_repr (by decide +kernel) (pa_cons (pv 3) pa_nil)) (pe_callB SkE.call_repr_int (by rfl) T.n_repr (by decide +kernel) (pa_cons (pe_D D_law_floor (hr.mono (by decide)) (pa_cons (pv 0) (pa_cons (pv 1) (pa_cons (pv 2) pa_nil)))) pa_nil)) (nomark _)) (pw_or1 (pt_cmpR op_ne (pe_callB SkE.call_repr_int (by rfl) T.n_repr (by decide +kernel) (pa_cons (pv 4) pa_nil)) (pe_callB SkE.call_repr_int (by rfl) T.n_repr (by decide +kernel) (pa_cons (pe_D D_law_ceiling (hr.mono (by decide)) (pa_cons (pv 0) (pa_cons (pv 1) (pa_cons (pv 2) pa_nil)))) pa_nil)) (nomark _))))) (pss_one (ps_ret pe_bl)) pss_nil)
    (pss_cons (ps_if (PW.pt (pw_or (pt_cmpR op_ne (pe_DK Kfloor_of (hr.mono (by decide)) (pk_cons (pv 2) (pk_cons (pv 1) (pk_cons (pv 0) pk_nil)))) (pv 3) (nomark _)) (pw_or1 (pt_cmpR op_ne (pe_DK Kceiling_of (hr.mono (by decide)) (pk_cons (pv 2) (pk_cons (pv 1) (pk_cons (pv 0) pk_nil)))) (pv 4) (nomark _))))) (pss_one (ps_ret pe_bl)) pss_nil)
    (pss_cons (ps_if (PW.pt (pw_and (pt_val (pe_D Dholds_vector (hr.mono (by decide)) (pa_cons (pv 0) (pa_cons (pv 1) (pa_cons (pv 2) pa_nil))))) (pw_and1 (pt_cmpR op_ne (pv 3) pe_int (nomark _))))) (pss_one (ps_ret pe_bl)) pss_nil)
    (pss_cons (ps_if (PW.pt (pw_and (pt_cmpR op_eq (pe_ix (ix_tupK K) (pv 1) pe_int (fun _ _ => rfl)) pe_str (nomark _)) (pw_and1 (pt_not (pt_val (pe_D D_law_box_reached (hr.mono (by decide)) (pa_cons (pv 0) (pa_cons (pv 1) (pa_cons (pv 2) (pa_cons (pv 3) (pa_cons (pv 4) pa_nil))))))))))) (pss_one (ps_ret pe_bl)) pss_nil)
    (pss_one (ps_ret (pe_D D_law_tried_right (hr.mono (by decide)) (pa_cons (pv 0) (pa_cons (pv 1) (pa_cons (pv 2) (pa_cons (pv 3) (pa_cons (pv 4) pa_nil))))))))))))), ?_⟩
    have ft := f2.fit
    obtain ⟨z1, z2⟩ := floor_sz (k := k) ft
    have pf : ∀ H1, Ex H H1 → preFloor K [.str k.s, r, v] H1 (.int (floorOf k R zs)) := fun H1 e => ⟨k, r, v, R, zs, rfl, hR.mono e, hv.mono e, ft, rfl⟩
    have pc : ∀ H1, Ex H H1 → preCeil K [.str k.s, r, v] H1 (.int (ceilOf k R zs)) := fun H1 e => ⟨k, r, v, R, zs, rfl, hR.mono e, hv.mono e, ft, rfl⟩
    have ph : ∀ H1, Ex H H1 → preHolds K [.str k.s, r, v] H1 (.bl (holds k R zs)) := fun H1 e => ⟨k, r, v, R, zs, rfl, hR.mono e, hv.mono e, ft, rfl⟩
    refine q_par (ea_cons (ev_call (ea_cons (ev_var rfl) (ea_cons (ev_var rfl) (ea_cons (ev_var rfl) ea_nil))) (spF_v pf)) (ea_cons (ev_call (ea_cons (ev_var rfl) (ea_cons (ev_var rfl) (ea_cons (ev_var rfl) ea_nil))) (spF_v pc)) ea_nil)) fun H1 e1 => ?_
    refine q_if (et_is (et_or (et_same (ev_reprI (ev_var rfl) z1) (ev_reprI (ev_call (ea_cons (ev_var rfl) (ea_cons (ev_var rfl) (ea_cons (ev_var rfl) ea_nil))) (spF_v fun H2 e2 => pf H2 (e1.trans e2))) z1)) fun _ =>
      et_same (ev_reprI (ev_var rfl) z2) (ev_reprI (ev_call (ea_cons (ev_var rfl) (ea_cons (ev_var rfl) (ea_cons (ev_var rfl) ea_nil))) (spF_v fun H2 e2 => pc H2 (e1.trans e2))) z2)) (show (false || false) = false from rfl)) (fun e => by cases e) (fun _ H2 e2 => ?_)
    have e12 := e1.trans e2
    refine q_if (et_is (et_or (et_sameI (ev_callK0 (ea_cons (ev_var rfl) (ea_cons (ev_var rfl) (ea_cons (ev_var rfl) ea_nil))) (spF_w fun H3 e3 => pf H3 (e12.trans e3))) (ev_var rfl)) fun _ =>
      et_sameI (ev_callK0 (ea_cons (ev_var rfl) (ea_cons (ev_var rfl) (ea_cons (ev_var rfl) ea_nil))) (spF_w fun H3 e3 => pc H3 (e12.trans e3))) (ev_var rfl)) (show (false || false) = false from rfl)) (fun e => by cases e) (fun _ H3 e3 => ?_)
    have e13 := e12.trans e3
    refine q_if (et_is (et_and (et_B (ev_call (ea_cons (ev_var rfl) (ea_cons (ev_var rfl) (ea_cons (ev_var rfl) ea_nil))) (spF_v fun H4 e4 => ph H4 (e13.trans e4)))) fun _ => et_ne (ev_var rfl) ev_c) (b := false) ?_) (fun e => by cases e) (fun _ H4 e4 => ?_)
    · cases hh : holds k R zs with
      | false => rfl
      | true =>
        rw [floor_zero k ft.ok rfl hh, decide_eq_true rfl] <;> rfl
    have e14 := e13.trans e4
    refine q_if (et_is (et_and (et_box (ev_var rfl) (hR.mono e14)) fun hb => et_not (et_B (ev_call (z := .bl true) (ea_cons (ev_var rfl) (ea_cons (ev_var rfl) (ea_cons (ev_var rfl) (ea_cons (ev_var rfl) (ea_cons (ev_var rfl) ea_nil))))) (spF_v fun H5 e5 => ?_)))) (b := false) ?_) (fun e => by cases e) (fun _ H5 e5 => ?_)
    · cases R with
      | ball _ _ => cases hb
      | cell _ _ _ => cases hb
      | box lo hi => exact ⟨k, r, v, lo, hi, zs, rfl, hR.mono (e14.trans e5), hv.mono (e14.trans e5), ft, rfl⟩
    · cases R.isBox <;> rfl
    · exact s_ret (ev_call (ea_cons (ev_var rfl) (ea_cons (ev_var rfl) (ea_cons (ev_var rfl) (ea_cons (ev_var rfl) (ea_cons (ev_var rfl) ea_nil))))) (spF_v fun H6 e6 => ⟨k, r, v, R, zs, rfl, hR.mono ((e14.trans e5).trans e6), hv.mono ((e14.trans e5).trans e6), f2, rfl⟩)) fun H6 e6 => q H6 ((e14.trans e5).trans e6)
end
end K21
/-! F8: the source of draws. -/
namespace K21
open PySem PySem.Spec PyProof.Rows L2 Evl
/-! ### the source of draws: a list of a list of ints and an int -/
def Src (H : Hp) (hp ip : Addr) : Prop := ∃ (cells : List Int) (stir : Int), H hp = some (.lst [.ref ip, .int stir]) ∧ H ip = some (.lst (vi cells)) ∧ cells.length ≤ 100
/-- all else stands as it stood -/
def Exx (hp ip : Addr) (H H' : Hp) : Prop := ∀ a o, a ≠ hp → a ≠ ip → H a = some o → H' a = some o
section
variable {hp ip : Addr} {H H' H1 H2 : Hp} {K : PySem.W.Frag}
theorem Src.ne (s : Src H hp ip) : hp ≠ ip := fun e => by
  obtain ⟨cells, stir, h1, h2, _⟩ := s
  subst e
  rw [h1] at h2
  cases cells with
  | nil => cases h2
  | cons c r => cases h2
theorem Src.mono (e : Ex H H') (s : Src H hp ip) : Src H' hp ip := by
  obtain ⟨cells, stir, h1, h2, h3⟩ := s
  exact ⟨cells, stir, e _ _ h1, e _ _ h2, h3⟩
theorem Exx.refl : Exx hp ip H H := fun _ _ _ _ h => h
theorem Exx.trans (a : Exx hp ip H H1) (b : Exx hp ip H1 H2) : Exx hp ip H H2 := fun x o n1 n2 h => b x o n1 n2 (a x o n1 n2 h)
theorem Exx.of (e : Ex H H') : Exx hp ip H H' := fun x o _ _ h => e x o h
theorem Exx.put1 {o : HO} (a : Exx hp ip H H1) : Exx hp ip H (upd H1 hp o) := fun x u n1 n2 h => by
  rw [upd_ne n1]
  exact a x u n1 n2 h
theorem Exx.put2 {o : HO} (a : Exx hp ip H H1) : Exx hp ip H (upd H1 ip o) := fun x u n1 n2 h => by
  rw [upd_ne n2]
  exact a x u n1 n2 h
/-- what is free behind was free -/
theorem Exx.back {p : Addr} (a : Exx hp ip H H') (s : Src H' hp ip) (h : H' p = none) : H p = none := by
  obtain ⟨cells, stir, h1, h2, h3⟩ := s
  have n1 : p ≠ hp := fun e => by rw [e, h1] at h; cases h
  have n2 : p ≠ ip := fun e => by rw [e, h2] at h; cases h
  cases q : H p with
  | none => rfl
  | some o =>
    rw [a p o n1 n2 q] at h
    cases h
theorem sqt_x {p : Addr} {xs : List V} (s : Src H hp ip) (e : Exx hp ip H H') (h : SqT K H p xs) : SqT K H' p xs := by
  obtain ⟨cells, stir, h1, h2, _⟩ := s
  rcases h with (h | ⟨o, h⟩) | h
  · exact .inl (.inl (e _ _ (ne_of h h1 (by intro z; cases z)) (ne_of h h2 (by intro z; cases z)) h))
  · exact .inl (.inr ⟨o, e _ _ (ne_of h h1 (by intro z; cases z)) (ne_of h h2 (by intro z; cases z)) h⟩)
  · exact .inr h
theorem VecAt.x {v : V} {zs : List Int} (s : Src H hp ip) (e : Exx hp ip H H') (h : VecAt K H v zs) : VecAt K H' v zs := by
  obtain ⟨a, rfl, h⟩ := h
  exact ⟨a, rfl, sqt_x s e h⟩
theorem RegAt.x {v : V} {R : Reg} (s : Src H hp ip) (e : Exx hp ip H H') (h : RegAt K H v R) : RegAt K H' v R := by
  cases R with
  | ball c r =>
    obtain ⟨a, b, rfl, h1, h2⟩ := h
    exact ⟨a, b, rfl, sqt_x s e h1, h2.x s e⟩
  | box lo hi =>
    obtain ⟨a, b, d, rfl, h1, h2, h3⟩ := h
    exact ⟨a, b, d, rfl, sqt_x s e h1, h2.x s e, h3.x s e⟩
  | cell c l g =>
    obtain ⟨a, b, rfl, h1, h2⟩ := h
    exact ⟨a, b, rfl, sqt_x s e h1, h2.x s e⟩
end
section
variable {K : PySem.W.Frag} {σ : L2.St} {H H' : Hp} {ta tb tc te tx : TE} {t u : TT} {x y z v : V} {r : R2} {D : Ends} {w : TS}
theorem ev_ixL {p : Addr} {xs : List V} {i : Int} (ha : Ev ta σ H (.ref p)) (hb : Ev tb σ H (.int i)) (h : SqL K H p xs) (hj : atI xs i = some v) : Ev (tOp (rIxL K) ta tb) σ H v := ev_op ha hb (rv_ixL h hj)
theorem dp_ints (K : PySem.W.Frag) (H : Hp) : ∀ ns : List Int, DpAll K H (vi ns) (ns.map PyData.int)
  | [] => .nil
  | n :: ns => .cons (.int n) (dp_ints K H ns)
/-- xs != [] -/
theorem et_some {p : Addr} {ns : List Int} (ha : Ev ta σ H (.ref p)) (h : SqL K H p (vi ns)) : EvT (tTest (tOp (rNeD K) ta (tLst tNil))) σ H (!ns.isEmpty) :=
  et_test (ev_opL (xs := []) ha (el_lst ea_nil (by show 0 ≤ 100000; decide)) fun q H1 hq e => rv_val fun H2 e2 Q k => ⟨.list (ns.map PyData.int), .list [], .lst (ex_l (e.trans e2) h) (dp_ints K H2 ns), .lst (sq_of (e2 q _ hq)) .nil, PySem.W.ke_shaped_ints ns, PySem.W.ke_shaped_ints [], by
    cases ns with
    | nil => exact k
    | cons n r => exact k⟩)
theorem s_pop {l : Addr} {xs : List V} (ha : Ev te σ H (.ref l)) (hl : H l = some (.lst (xs ++ [y]))) (k : ∀ H1, Ex H H1 → D.nx σ (upd H1 l (.lst xs))) : tDrop (tBM0 K "list" rPop te) D σ H := ha H (Ex.refl H) _ fun H1 e1 =>
  ⟨Or.inl ⟨rfl, _, sq_of (e1 l _ hl)⟩, l, xs ++ [y], y, rfl, rfl, e1 l _ hl, by simp, by rw [List.dropLast_concat]; exact k H1 e1⟩
theorem q_asgPop {l : Addr} {xs : List V} {i : Nat} (ha : Ev te σ H (.ref l)) (hl : H l = some (.lst (xs ++ [y]))) (k : ∀ H1, Ex H H1 → w D (σ.set i (some y)) (upd H1 l (.lst xs))) : tSeq (tAsg (tBM0 K "list" rPop te) (gName i)) w D σ H := ha H (Ex.refl H) _ fun H1 e1 =>
  ⟨Or.inl ⟨rfl, _, sq_of (e1 l _ hl)⟩, l, xs ++ [y], y, rfl, rfl, e1 l _ hl, by simp, by rw [List.dropLast_concat]; exact k H1 e1⟩
theorem q_app {l : Addr} {xs : List V} (hl : H l = some (.lst xs)) (ha : Ev ta σ H (.ref l)) (h : Ev te σ H v) (hz : xs.length < 100000) (k : ∀ H1, Ex H H1 → w D σ (upd H1 l (.lst (xs ++ [v])))) : tSeq (tDrop (tBM K "list" rAppend ta (tCons te tNil))) w D σ H :=
  s_app (D := { D with nx := w D }) hl ha h hz k
theorem q_setL {l : Addr} {xs : List V} {j : Nat} (hl : H l = some (.lst xs)) (h : Ev te σ H v) (ho : Ev ta σ H (.ref l)) (hi : Ev tb σ H (.int (j : Int))) (hj : j < xs.length) (k : ∀ H1, Ex H H1 → w D σ (upd H1 l (.lst (xs.set j v)))) : tSeq (tAsg te (gSub ta tb rSetL)) w D σ H :=
  s_setL (D := { D with nx := w D }) hl h ho hi hj k
theorem q_parL {i j : Nat} {xs : List V} (h : EvL te σ H xs) (hb : Ev tb σ H y) (k : ∀ p H1, H p = none → Ex H H1 → H1 p = some (.lst xs) → w D ((σ.set i (some (.ref p))).set j (some y)) H1) : tSeq (tPar i j (tCons te (tCons tb tNil))) w D σ H :=
  h H (Ex.refl H) _ fun p H1 np e hp => hb H1 e _ fun H2 e2 => ⟨.ref p, y, rfl, k p H2 np (e.trans e2) (e2 p _ hp)⟩
theorem s_retRev {xs : List V} (h : EvL te σ H xs) (hb : Ev tb σ H y) (k : ∀ p4 p5 H3, Ex H H3 → H3 p4 = some (.lst xs.reverse) → H3 p5 = none → D.rt (.ref p5) (upd H3 p5 (.lst [.ref p4, y]))) : tRet (tLst (tCons (tRevL K te) (tCons tb tNil))) D σ H :=
  h H (Ex.refl H) _ fun p H1 np e hp => ⟨p, xs, rfl, sq_of hp, fun p4 np4 => hb _ (e.trans (Ex.new np4)) _ fun H2 e2 => ⟨sz_of (by show 2 ≤ 100000; decide), fun p5 np5 => k p4 p5 H2 ((e.trans (Ex.new np4)).trans e2) (e2 p4 _ upd_same) np5⟩⟩
theorem ev_mod {i j : Int} (ha : Ev ta σ H (.int i)) (hb : Ev tb σ H (.int j)) (hc : 0 < j) : Ev (tOp (rI (fun _ j => 0 < j) fun i j => .int (i % j)) ta tb) σ H (.int (i % j)) := ev_op ha hb (rv_I hc)
theorem last_of : ∀ ns : List Int, ns ≠ [] → ∃ ms c, ns = ms ++ [c] := fun ns h => ⟨ns.dropLast, ns.getLast h, (List.dropLast_concat_getLast h).symm⟩
theorem vi_snoc (ms : List Int) (c : Int) : vi (ms ++ [c]) = vi ms ++ [.int c] := by
  show (ms ++ [c]).map V.int = ms.map V.int ++ [.int c]
  rw [List.map_append] <;> rfl
end
section
variable {P : Program} {w : World} {K : PySem.W.Frag} {mg : Str → Option Value} {base : Heap}
abbrev s__law_draw : Stmt := topS 23
abbrev N__law_draw : List Str := ["_law_heap_here", "_law_many", "_law_rest"]
abbrev p__law_draw : List Str := ["_law_heap_here", "_law_many"]
theorem sc__law_draw : FnScope N__law_draw p__law_draw (defScope s__law_draw) := ⟨rfl, rfl, rfl, by decide +kernel, rfl, by decide +kernel, by decide +kernel⟩

def spDraw : Sp := fun vs H Q _ => ∃ (hp ip : Addr) (many : Int), vs = [.ref hp, .int many] ∧ Src H hp ip ∧ (0 < many ∧ many < 1073741824) ∧ ∀ d H', 0 ≤ d → d < many → Exx hp ip H H' → Src H' hp ip → Q (.int d) H'
theorem ok__law_draw (F : FunX K mg "_law_draw" s__law_draw p__law_draw) (T : Gs mg) : Def P w K mg base 1 "_law_draw" p__law_draw spDraw := by
  refine F.def_ fun f fd F => F.ok sc__law_draw (fun vs H Q E h => ?_) (fun cdv A outer s H vs Q E hr h => ?_)
  · obtain ⟨hp, ip, many, rfl, _⟩ := h
    rfl
  · obtain ⟨hp, ip, many, rfl, hs, ⟨m0, m1⟩, q⟩ := h
    have nd := sc__law_draw.nd
    refine ⟨_, (pss_cons (ps_while PassesOwn.never (PW.pt (pw_and (pt_cmpR (op_neK K (units_of hr)) (pe_ix (ix_listK K) (pv 0) pe_int (fun _ _ => rfl)) (pe_lst pa_nil) (nomark _)) (pw_and1 (pt_cmpR op_eq (pe_ix (ix_listK K) (pe_ix (ix_listK K) (pv 0) pe_int (fun _ _ => rfl)) (pe_un un_neg pe_int) (fun _ _ => rfl)) pe_int (nomark _))))) (pss_one (ps_expr (pe_bm0 PySem.F.plainAttrs_list PySem.F.slot_list_pop PySem.F.type_list_pop mt_pop (pe_ix (ix_listK K) (pv 0) pe_int (fun _ _ => rfl))))))
    (pss_cons (ps_if (pt_cmpR (op_neK K (units_of hr)) (pe_ix (ix_listK K) (pv 0) pe_int (fun _ _ => rfl)) (pe_lst pa_nil) (nomark _)) (pss_cons (ps_set (i := 2) nd rfl (Or.inl rfl) (pe_bm0 PySem.F.plainAttrs_list PySem.F.slot_list_pop PySem.F.type_list_pop mt_pop (pe_ix (ix_listK K) (pv 0) pe_int (fun _ _ => rfl))))
    (pss_cons (ps_expr (pe_bm PySem.F.plainAttrs_list PySem.F.slot_list_append PySem.F.type_list_append mt_append (pe_ix (ix_listK K) (pv 0) pe_int (fun _ _ => rfl)) (pa_cons (pe_op op_fdiv (pv 2) (pv 1)) pa_nil)))
    (pss_one (ps_ret (pe_op op_mod (pe_callTy call_int1 (by rfl) T.n_int (by decide +kernel) (pa_cons (pv 2) pa_nil)) (pv 1)))))) pss_nil)
    (pss_cons (ps_asg (pe_op op_mod (pe_callTy call_int1 (by rfl) T.n_int (by decide +kernel) (pa_cons (pe_op op_add (pe_op op_mul (pe_ix (ix_listK K) (pv 0) pe_int (fun _ _ => rfl)) pe_int) pe_int) pa_nil)) pe_int) (pg_sub (pv 0) pe_int set_list))
    (pss_one (ps_ret (pe_op op_mod (pe_callTy call_int1 (by rfl) T.n_int (by decide +kernel) (pa_cons (pe_op op_fdiv (pe_ix (ix_listK K) (pv 0) pe_int (fun _ _ => rfl)) pe_int) pa_nil)) (pv 1))))))), ?_⟩
    have hne := hs.ne
    refine q_for (fun σ' H' => Exx hp ip H H' ∧ ∃ x : Option V, σ' = [some (.ref hp), some (.int many), x] ∧ Src H' hp ip) (fun nxt hn => ?_) (fun σ' H' hP => ?_)
    · obtain ⟨cells, stir, h1, h2, h3⟩ := hs
      refine s_while (fun m σ' H' => Exx hp ip H H' ∧ ∃ cells : List Int, σ' = [some (.ref hp), some (.int many), none] ∧ H' hp = some (.lst [.ref ip, .int stir]) ∧ H' ip = some (.lst (vi cells)) ∧ cells.length = m ∧ m ≤ 100) cells.length ⟨Exx.refl, cells, rfl, h1, h2, rfl, h3⟩ (fun m σ' H' hW => ?_)
      obtain ⟨e1, cs, rfl, g1, g2, rfl, hm⟩ := hW
      have hix : ∀ H1, Ex H' H1 → Ev (tOp (rIxL K) (tVar 0) (tC (.int 0))) [some (.ref hp), some (.int many), none] H1 (.ref ip) := fun H1 e => ev_ixL (ev_var rfl) ev_c (sq_of (e _ _ g1)) (atI_nat (j := 0) rfl)
      cases hcs : cs.isEmpty with
      | true =>
        have hc0 : cs = [] := List.isEmpty_iff.mp hcs
        refine ⟨false, et_is (et_and (et_some (hix H' (Ex.refl _)) (sq_of g2)) (b := false) fun z => ?_) (by rw [hcs] <;> rfl), (fun z => by cases z), fun _ H1 e2 => hn _ _ ⟨e1.trans (Exx.of e2), none, rfl, cs, stir, e2 _ _ g1, e2 _ _ g2, hm⟩⟩
        rw [hcs] at z
        cases z
      | false =>
        obtain ⟨ms, c, rfl⟩ := last_of cs (fun z => by rw [z] at hcs; cases hcs)
        rw [vi_snoc] at g2
        refine ⟨decide (c = 0), et_is (et_and (et_some (ns := ms ++ [c]) (hix H' (Ex.refl _)) (sq_of (by rw [vi_snoc]; exact g2))) fun _ => et_is (et_eq (ev_ixL (hix H' (Ex.refl _)) (ev_un ev_c ru_neg) (sq_of g2) (atI_last _ _)) ev_c) dec_iI) (by rw [hcs] <;> rfl), fun _ H1 e2 => ?_, fun _ H1 e2 => ?_⟩
        · refine ⟨fun σ2 H2 => Exx hp ip H H2 ∧ σ2 = [some (.ref hp), some (.int many), none] ∧ H2 hp = some (.lst [.ref ip, .int stir]) ∧ H2 ip = some (.lst (vi ms)), fun σ2 H2 hN => ⟨ms.length, by rw [List.length_append]; show _ < _ + 1; omega, hN.1, ms, hN.2.1, hN.2.2.1, hN.2.2.2, rfl, by rw [List.length_append] at hm; omega⟩, ?_⟩
          refine s_pop (hix H1 e2) (e2 _ _ g2) fun H3 e3 => ⟨Exx.put2 (e1.trans (Exx.of (e2.trans e3))), rfl, ?_, upd_same⟩
          rw [upd_ne hne]
          exact (e2.trans e3) _ _ g1
        · exact hn _ _ ⟨e1.trans (Exx.of e2), none, rfl, ms ++ [c], stir, e2 _ _ g1, by rw [vi_snoc]; exact e2 _ _ g2, hm⟩
    · obtain ⟨e1, x, rfl, cs, stir, g1, g2, hm⟩ := hP
      have hix : ∀ H1, Ex H' H1 → ∀ x : Option V, Ev (tOp (rIxL K) (tVar 0) (tC (.int 0))) [some (.ref hp), some (.int many), x] H1 (.ref ip) := fun H1 e x => ev_ixL (ev_var rfl) ev_c (sq_of (e _ _ g1)) (atI_nat (j := 0) rfl)
      refine q_if (et_some (hix H' (Ex.refl _) x) (sq_of g2)) (fun e H1 e2 => ?_) (fun e H1 e2 => ?_)
      · obtain ⟨ms, c, rfl⟩ := last_of cs (fun z => by rw [z] at e; cases e)
        rw [vi_snoc] at g2
        refine q_asgPop (hix H1 e2 x) (e2 _ _ g2) fun H2 e3 => ?_
        have k1 : (upd H2 ip (.lst (vi ms))) hp = some (.lst [.ref ip, .int stir]) := by
          rw [upd_ne hne]
          exact (e2.trans e3) _ _ g1
        refine q_app (xs := vi ms) upd_same (ev_ixL (ev_var rfl) ev_c (sq_of k1) (atI_nat (j := 0) rfl)) (ev_div (ev_var rfl) (ev_var rfl) ⟨m0, m1⟩) (by rw [List.length_map]; rw [List.length_append] at hm; omega) fun H3 e4 => ?_
        refine s_ret (ev_mod (ev_intI (ev_var rfl)) (ev_var rfl) m0) fun H4 e5 => q _ H4 (Int.emod_nonneg _ (by omega)) (Int.emod_lt_of_pos _ m0) ?_ ⟨ms ++ [c / many], stir, e5 _ _ (by rw [upd_ne hne]; exact e4 _ _ k1), e5 _ _ (by rw [upd_same, vi_snoc]), by rw [List.length_append] at hm ⊢; exact hm⟩
        exact (Exx.put2 ((Exx.put2 (e1.trans (Exx.of (e2.trans e3)))).trans (Exx.of e4))).trans (Exx.of e5)
      · refine q_setL (e2 _ _ g1) (ev_mod (ev_intI (ev_add (ev_mul (ev_ixL (ev_var rfl) ev_c (sq_of (e2 _ _ g1)) (atI_nat (j := 1) rfl)) ev_c (.inr ⟨by decide, by decide⟩)) ev_c)) ev_c (by decide)) (ev_var rfl) (j := 1) ev_c (by show 1 < 2; decide) fun H2 e3 => ?_
        refine s_ret (ev_mod (ev_intI (ev_div (ev_ixL (ev_var rfl) ev_c (sq_of upd_same) (atI_nat (j := 1) rfl)) ev_c ⟨by decide, by decide⟩)) (ev_var rfl) m0) fun H4 e5 => q _ H4 (Int.emod_nonneg _ (by omega)) (Int.emod_lt_of_pos _ m0) ?_ ⟨cs, _, e5 _ _ upd_same, e5 _ _ (by rw [upd_ne hne.symm]; exact (e2.trans e3) _ _ g2), hm⟩
        exact (Exx.put1 (e1.trans (Exx.of (e2.trans e3)))).trans (Exx.of e5)
abbrev s__law_pick : Stmt := topS 24
abbrev N__law_pick : List Str := ["_law_heap_here", "_law_some"]
abbrev p__law_pick : List Str := ["_law_heap_here", "_law_some"]
theorem sc__law_pick : FnScope N__law_pick p__law_pick (defScope s__law_pick) := ⟨rfl, rfl, rfl, by decide +kernel, rfl, by decide +kernel, by decide +kernel⟩

def spPick (K : PySem.W.Frag) : Sp := fun vs H Q _ => ∃ (hp ip s : Addr) (xs : List V), vs = [.ref hp, .ref s] ∧ Src H hp ip ∧ H s = some (.lst xs) ∧ s ≠ hp ∧ s ≠ ip ∧ (0 < xs.length ∧ xs.length ≤ 100) ∧ ∀ x H', x ∈ xs → Exx hp ip H H' → Src H' hp ip → Q x H'
theorem ok__law_pick (F : FunX K mg "_law_pick" s__law_pick p__law_pick) (T : Gs mg) (D_law_draw : Def P w K mg base 1 "_law_draw" p__law_draw spDraw) : Def P w K mg base 2 "_law_pick" p__law_pick (spPick K) := by
  refine F.def_ fun f fd F => F.ok sc__law_pick (fun vs H Q E h => ?_) (fun cdv A outer s H vs Q E hr h => ?_)
  · obtain ⟨hp, ip, s, xs, rfl, _⟩ := h
    rfl
  · obtain ⟨hp, ip, s, xs, rfl, hs, hx, n1, n2, ⟨l0, l1⟩, q⟩ := h
    have nd := sc__law_pick.nd
    refine ⟨_, (pss_one (ps_ret (pe_ix (ix_listK K) (pv 1) (pe_D D_law_draw (hr.mono (by decide)) (pa_cons (pv 0) (pa_cons (pe_callB (call_lenK K) (by rfl) T.n_len PySem.boot_len (pa_cons (pv 1) pa_nil)) pa_nil))) (fun _ _ => rfl)))), ?_⟩
    refine ⟨.ref s, rfl, .ref hp, rfl, .ref s, rfl, .ref s, xs.length, rfl, .inl ⟨xs, sq_of hx, rfl⟩, hp, ip, (xs.length : Int), rfl, hs, ⟨by omega, by omega⟩, fun d H' d0 d1 e1 s1 => ?_⟩
    have hd : d.toNat < xs.length := by omega
    have gx : xs[d.toNat]? = some xs[d.toNat] := List.getElem?_eq_getElem hd
    exact ⟨s, xs, d, _, rfl, rfl, sq_of (e1 _ _ n1 n2 hx), at_of (by omega) gx, q _ H' (List.getElem_mem hd) e1 s1⟩
abbrev s__law_heap : Stmt := topS 22
abbrev N__law_heap : List Str := ["_law_script", "_law_cells", "_law_stir", "_law_cell"]
abbrev p__law_heap : List Str := ["_law_script"]
theorem sc__law_heap : FnScope N__law_heap p__law_heap (defScope s__law_heap) := ⟨rfl, rfl, rfl, by decide +kernel, rfl, by decide +kernel, by decide +kernel⟩

def spHeap (K : PySem.W.Frag) : Sp := fun vs H Q _ => ∃ (a : Addr) (ns : List Int), vs = [.ref a] ∧ SqL K H a (vi ns) ∧ ns.length ≤ 63 ∧ ∀ hp ip H', Ex H H' → Src H' hp ip → Q (.ref hp) H'
theorem cut_vi (ns : List Int) (lo hi : Option Int) : ∃ ms : List Int, cutV (vi ns) lo hi = vi ms ∧ ms.length ≤ ns.length := by
  refine ⟨(ns.drop (HT.sIx (vi ns).length 0 lo)).take (HT.sIx (vi ns).length (vi ns).length hi - HT.sIx (vi ns).length 0 lo), ?_, ?_⟩
  · unfold cutV
    show _ = ((ns.drop _).take _).map V.int
    rw [List.map_take, List.map_drop]
  · rw [List.length_take, List.length_drop]
    omega
theorem given_vi {n : Nat} {f : Nat → Bool} {g : Nat → Int} : given n f (fun i => .int (g i)) = vi (((List.range n).filter f).map g) := by
  unfold given
  show _ = (((List.range n).filter f).map g).map V.int
  rw [List.map_map] <;> rfl
theorem ok__law_heap (F : FunX K mg "_law_heap" s__law_heap p__law_heap) (T : Gs mg) : Def P w K mg base 1 "_law_heap" p__law_heap (spHeap K) := by
  refine F.def_ fun f fd F => F.ok sc__law_heap (fun vs H Q E h => ?_) (fun cdv A outer s H vs Q E hr h => ?_)
  · obtain ⟨a, ns, rfl, _⟩ := h
    rfl
  · obtain ⟨a, ns, rfl, hs, hl, q⟩ := h
    have nd := sc__law_heap.nd
    refine ⟨_, (pss_cons (ps_par (i := 1) (j := 2) rfl nd rfl rfl (by decide) rfl rfl (pa_cons (pe_lc (own := [("_law_cell", 3)]) (g := gName 3) rfl nd (pi_listK K (pe_slice (sl_listK K) (pv 0) po_none (po_some pe_int))) (blkOk_by (own := [("_law_cell", 3)]) (N := N__law_heap) (sc := defScope s__law_heap) (by decide +kernel)) (fun _ _ _ _ _ => pg_name (i := 3) nd rfl (Or.inl rfl)) (fun _ _ _ _ _ => pts_nil) (fun _ _ _ _ _ => pe_op op_add (pe_op op_mul pe_int (pe_callB call_abs (by rfl) T.n_abs (by decide +kernel) (pa_cons (pv 3) pa_nil))) (pe_callTy call_int1 (by rfl) T.n_int (by decide +kernel) (pa_cons (pe_cmpR op_lt (pv 3) pe_int (nomark _)) pa_nil)))) (pa_cons pe_int pa_nil)) (by rfl))
    (pss_cons (ps_for PassesOwn.never rfl (pi_listK K (pv 1)) (pg_name (i := 3) nd rfl (Or.inl rfl)) (pss_one (ps_set (i := 2) nd rfl (Or.inl rfl) (pe_op op_mod (pe_callTy call_int1 (by rfl) T.n_int (by decide +kernel) (pa_cons (pe_op op_add (pe_op op_add (pe_op op_mul (pv 2) pe_int) (pe_op op_mod (pe_callTy call_int1 (by rfl) T.n_int (by decide +kernel) (pa_cons (pv 3) pa_nil)) pe_int)) pe_int) pa_nil)) pe_int))))
    (pss_one (ps_ret (pe_lst (pa_cons (pe_revK K (pe_lc (own := [("_law_cell", 3)]) (g := gName 3) rfl nd (pi_listK K (pv 1)) (blkOk_by (own := [("_law_cell", 3)]) (N := N__law_heap) (sc := defScope s__law_heap) (by decide +kernel)) (fun _ _ _ _ _ => pg_name (i := 3) nd rfl (Or.inl rfl)) (fun _ _ _ _ _ => pts_one (pt_cmpR op_ge (pv 3) (pe_op op_pow pe_int pe_int) (nomark _))) (fun _ _ _ _ _ => pv 3))) (pa_cons (pv 2) pa_nil))))))), ?_⟩
    obtain ⟨ms, em, lm⟩ := cut_vi ns none (some 60)
    have hcut : EvL (tSl (rSlL K) (tVar 0) tNoPart (tPart (tC (.int 60)))) (start N__law_heap [.ref a]) H (vi ms) := by
      rw [← em]
      exact el_sl (ev_var rfl) eo_none (eo_some ev_c) hs
    refine q_parL (y := .int 21023) (el_NL (l := vi (ms.map fun c => 2 * absI c + if decide (c < 0) = true then 1 else 0)) hcut (by rw [List.length_map, List.length_map, List.length_map]) (by rw [List.length_map]; omega) (fun _ => rfl) fun i x z H1 e1 hx hz => ?_) ev_c fun p H1 np e1 hp => ?_
    · obtain ⟨x', ex, rfl⟩ := vi_get hx
      obtain ⟨z', ez, rfl⟩ := vi_get hz
      rw [List.getElem?_map, ex] at ez
      rw [← Option.some.inj ez]
      exact ev_add (ev_mul ev_c (ev_abs (ev_var rfl)) (.inl ⟨by decide, by decide⟩)) (ev_intB (ev_cmpI (ev_var rfl) ev_c))
    · generalize ems : (ms.map fun c => 2 * absI c + if decide (c < 0) = true then 1 else 0) = cs at *
      have lc : cs.length ≤ 63 := by
        rw [← ems, List.length_map]
        omega
      refine q_for (fun σ' H' => Ex H H' ∧ ∃ (st : Int) (x : Option V), σ' = [some (.ref a), some (.ref p), some (.int st), x] ∧ H' p = some (.lst (vi cs))) (fun nxt hn => ?_) (fun σ' H' hP => ?_)
      · refine s_forL (a := p) (xs := vi cs) (ev_var rfl) (sq_of hp)
          (fun i σ' H' => Ex H H' ∧ ∃ (st : Int) (x : Option V), σ' = [some (.ref a), some (.ref p), some (.int st), x] ∧ H' p = some (.lst (vi cs))) (fun H2 e2 => ⟨e1.trans e2, 21023, none, rfl, e2 _ _ hp⟩) (fun i σ' H' _ hP => by
            obtain ⟨_, _, _, _, h⟩ := hP
            exact sq_of h) (fun i x σ' H' hi hP => ?_) (fun σ' H' hP => hn _ _ hP)
        obtain ⟨e2, st, x0, rfl, hp2⟩ := hP
        obtain ⟨x', ex, rfl⟩ := vi_get hi
        show tAsg _ _ _ _ _
        refine s_asg (ev_mod (ev_intI (ev_add (ev_add (ev_mul (ev_var rfl) ev_c (.inr ⟨by decide, by decide⟩)) (ev_mod (ev_intI (ev_var rfl)) ev_c (by decide))) ev_c)) ev_c (by decide)) fun H3 e3 => ⟨e2.trans e3, _, _, rfl, e3 _ _ hp2⟩
      · obtain ⟨e2, st, x, rfl, hp2⟩ := hP
        refine s_retRev (y := .int st) (el_lcL (xs := vi cs) (j := 3) (fun i => decide ((10 : Int) ^ (18 : Int).toNat ≤ cs.getD i 0)) (fun i => .int (cs.getD i 0)) (ev_var rfl) (sq_of hp2) (by rw [List.length_map]; omega) (fun _ => rfl) (fun i x H3 e3 hx => ?_) (fun i x H3 e3 hx _ => ?_)) (ev_var rfl) fun p4 p5 H3 e3 hp4 np5 => ?_
        · obtain ⟨x', ex, rfl⟩ := vi_get hx
          rw [List.getD_eq_getElem?_getD, ex]
          exact et_I (f := fun i j => decide (j ≤ i)) (ev_var rfl) (ev_op ev_c ev_c (rv_I ⟨by decide, by decide, by decide⟩))
        · obtain ⟨x', ex, rfl⟩ := vi_get hx
          rw [List.getD_eq_getElem?_getD, ex]
          exact ev_var rfl
        · rw [given_vi] at hp4
          refine q p5 p4 _ ((e2.trans e3).trans (Ex.new np5)) ⟨(((List.range (vi cs).length).filter fun i => decide ((10 : Int) ^ (18 : Int).toNat ≤ cs.getD i 0)).map fun i => cs.getD i 0).reverse, st, upd_same, ?_, ?_⟩
          · rw [upd_ne (ne_of_none hp4 np5), hp4]
            show _ = some (HO.lst ((List.reverse _).map V.int))
            rw [List.map_reverse]
          · rw [List.length_reverse, List.length_map]
            have := List.length_filter_le (fun i => decide ((10 : Int) ^ (18 : Int).toNat ≤ cs.getD i 0)) (List.range (vi cs).length)
            rw [List.length_range, List.length_map] at this
            rw [List.length_map]
            omega
end
end K21
/-! F9: what is drawn; regions. -/
namespace K21
open PySem PySem.Spec PyProof.Rows L2 Evl
section
variable {hp ip : Addr} {H H' H1 H2 : Hp} {K : PySem.W.Frag} {σ : L2.St} {B B' : V → Hp → Prop} {te ta tb : TE} {t : TT} {v : V} {D : Ends} {w : TS}
/-- what evaluates, with draws, to some value of which B holds -/
def Dr (hp ip : Addr) (te : TE) (σ : L2.St) (H : Hp) (B : V → Hp → Prop) : Prop := ∀ H1, Exx hp ip H H1 → Src H1 hp ip → ∀ Q : VK, (∀ v H2, Exx hp ip H1 H2 → Src H2 hp ip → B v H2 → Q v H2) → te σ H1 Q
def DrA (hp ip : Addr) (ta : TA) (σ : L2.St) (H : Hp) (n : Nat) (B : V → Hp → Prop) : Prop := ∀ H1, Exx hp ip H H1 → Src H1 hp ip → ∀ Q : List V → Hp → Prop, (∀ xs H2, Exx hp ip H1 H2 → Src H2 hp ip → xs.length = n → (∀ x ∈ xs, B x H2) → Q xs H2) → ta σ H1 Q
/-- a new list of ints, of which C holds by their places -/
def DrL (hp ip : Addr) (te : TE) (σ : L2.St) (H : Hp) (n : Nat) (C : Nat → Int → Prop) : Prop := ∀ H1, Exx hp ip H H1 → Src H1 hp ip → ∀ Q : VK, (∀ p ms H2, Exx hp ip H1 H2 → Src H2 hp ip → H2 p = some (.lst (vi ms)) → ms.length = n → (∀ i m, ms[i]? = some m → C i m) → Q (.ref p) H2) → te σ H1 Q
def MonoX (hp ip : Addr) (B : V → Hp → Prop) : Prop := ∀ v H H', Src H hp ip → Exx hp ip H H' → B v H → B v H'
def IntIn (a b : Int) : V → Hp → Prop := fun v _ => ∃ i, v = .int i ∧ a ≤ i ∧ i ≤ b
theorem IntIn.x {a b : Int} : MonoX hp ip (IntIn a b) := fun _ _ _ _ _ h => h
theorem IntIn.wide {a b c d : Int} (h : IntIn a b v H) (h1 : c ≤ a) (h2 : b ≤ d) : IntIn c d v H := by
  obtain ⟨i, rfl, h3, h4⟩ := h
  exact ⟨i, rfl, by omega, by omega⟩
theorem Dr.imp (h : Dr hp ip te σ H B) (g : ∀ v H1, B v H1 → B' v H1) : Dr hp ip te σ H B' := fun H1 e s Q q => h H1 e s Q fun v H2 e2 s2 b => q v H2 e2 s2 (g v H2 b)
theorem Dr.on (h : Dr hp ip te σ H B) (e : Exx hp ip H H') : Dr hp ip te σ H' B := fun H1 e1 s Q q => h H1 (e.trans e1) s Q q
theorem dr_of (h : ∀ H1, Exx hp ip H H1 → Src H1 hp ip → Ev te σ H1 v) (b : ∀ H1, Exx hp ip H H1 → Src H1 hp ip → B v H1) : Dr hp ip te σ H B := fun H1 e s Q q => h H1 e s H1 (Ex.refl _) Q fun H2 e2 => q v H2 (.of e2) (s.mono e2) (b H2 (e.trans (.of e2)) (s.mono e2))
theorem dr_int {i a b : Int} (h : ∀ H1, Exx hp ip H H1 → Src H1 hp ip → Ev te σ H1 (.int i)) (g : a ≤ i ∧ i ≤ b) : Dr hp ip te σ H (IntIn a b) := dr_of h fun _ _ _ => ⟨i, rfl, g⟩
theorem dr_lit {i a b : Int} (g : a ≤ i ∧ i ≤ b) : Dr hp ip (tC (.int i)) σ H (IntIn a b) := dr_int (fun _ _ _ => ev_c) g
theorem dr_draw {j : Nat} {many : Int} {E : XK} (hi : σ[j]? = some (some (.ref hp))) (hb : ∀ H1, Exx hp ip H H1 → Src H1 hp ip → Ev tb σ H1 (.int many)) (hm : 0 < many ∧ many < 1073741824) : Dr hp ip (tCall spDraw [] E (tCons (tVar j) (tCons tb tNil))) σ H (IntIn 0 (many - 1)) := fun H1 e s Q q =>
  ⟨.ref hp, hi, hb H1 e s H1 (Ex.refl _) _ fun H2 e2 => ⟨hp, ip, many, rfl, s.mono e2, hm, fun d H3 d0 d1 e3 s3 => q _ H3 (.trans (.of e2) e3) s3 ⟨d, rfl, d0, by omega⟩⟩⟩
theorem da_nil : DrA hp ip tNil σ H 0 B := fun H1 e s Q q => q [] H1 .refl s rfl fun x hx => by cases hx
theorem da_cons {ta : TE} {tr : TA} {n : Nat} (mo : MonoX hp ip B) (h : Dr hp ip ta σ H B) (hr : DrA hp ip tr σ H n B) : DrA hp ip (tCons ta tr) σ H (n + 1) B := fun H1 e s Q q =>
  h H1 e s _ fun v H2 e2 s2 b => hr H2 (e.trans e2) s2 _ fun xs H3 e3 s3 l bs => q _ H3 (e2.trans e3) s3 (by rw [List.length_cons, l]) fun x hx => by
    rcases List.mem_cons.mp hx with rfl | hx
    · exact mo x _ _ s2 e3 b
    · exact bs x hx
theorem Src.off (s : Src H hp ip) {p : Addr} (h : H p = none) : p ≠ hp ∧ p ≠ ip := by
  obtain ⟨cells, stir, h1, h2, _⟩ := s
  exact ⟨fun z => (by rw [z, h1] at h; cases h), fun z => (by rw [z, h2] at h; cases h)⟩
theorem dr_pick {j n : Nat} {ta : TA} {E : XK} (mo : MonoX hp ip B) (hi : σ[j]? = some (some (.ref hp))) (ha : DrA hp ip ta σ H n B) (hn : 0 < n ∧ n ≤ 100) : Dr hp ip (tCall (spPick K) [] E (tCons (tVar j) (tCons (tLst ta) tNil))) σ H B := fun H1 e s Q q =>
  ⟨.ref hp, hi, ha H1 e s _ fun xs H2 e2 s2 l bs => ⟨sz_of (by omega), fun p np => by
    have e3 : Ex H2 (upd H2 p (.lst xs)) := Ex.new np
    obtain ⟨n1, n2⟩ := s2.off np
    exact ⟨hp, ip, p, xs, rfl, s2.mono e3, upd_same, n1, n2, by rw [l]; exact hn, fun x H4 hx e4 s4 => q x H4 ((e2.trans (.of e3)).trans e4) s4 (mo x _ _ (s2.mono e3) e4 (mo x _ _ s2 (.of e3) (bs x hx)))⟩⟩⟩
theorem dr_add {a b c d : Int} (ha : Dr hp ip ta σ H (IntIn a b)) (hb : Dr hp ip tb σ H (IntIn c d)) : Dr hp ip (tOp (rI0 fun i j => .int (i + j)) ta tb) σ H (IntIn (a + c) (b + d)) := fun H1 e s Q q =>
  ha H1 e s _ fun x H2 e2 s2 ⟨i, hi, i1, i2⟩ => hb H2 (e.trans e2) s2 _ fun y H3 e3 s3 ⟨j, hj, j1, j2⟩ => by
    subst hi
    subst hj
    exact ⟨i, j, rfl, rfl, q _ H3 (e2.trans e3) s3 ⟨i + j, rfl, by omega, by omega⟩⟩
theorem dr_sub {a b c d : Int} (ha : Dr hp ip ta σ H (IntIn a b)) (hb : Dr hp ip tb σ H (IntIn c d)) : Dr hp ip (tOp (rI0 fun i j => .int (i - j)) ta tb) σ H (IntIn (a - d) (b - c)) := fun H1 e s Q q =>
  ha H1 e s _ fun x H2 e2 s2 ⟨i, hi, i1, i2⟩ => hb H2 (e.trans e2) s2 _ fun y H3 e3 s3 ⟨j, hj, j1, j2⟩ => by
    subst hi
    subst hj
    exact ⟨i, j, rfl, rfl, q _ H3 (e2.trans e3) s3 ⟨i - j, rfl, by omega, by omega⟩⟩
theorem dr_if {b : Bool} (h : ∀ H1, Exx hp ip H H1 → Src H1 hp ip → EvT t σ H1 b) (h1 : b = true → Dr hp ip ta σ H B) (h2 : b = false → Dr hp ip tb σ H B) : Dr hp ip (tIf t ta tb) σ H B := fun H1 e s Q q => h H1 e s H1 (Ex.refl _) _ fun H2 e2 => by
  cases b with
  | true => exact iteT (h1 rfl H2 (e.trans (.of e2)) (s.mono e2) Q fun v H3 e3 s3 k => q v H3 (.trans (.of e2) e3) s3 k)
  | false => exact iteF (h2 rfl H2 (e.trans (.of e2)) (s.mono e2) Q fun v H3 e3 s3 k => q v H3 (.trans (.of e2) e3) s3 k)
theorem q_asgD {i : Nat} (s : Src H hp ip) (h : Dr hp ip te σ H B) (k : ∀ v H1, Exx hp ip H H1 → Src H1 hp ip → B v H1 → w D (σ.set i (some v)) H1) : tSeq (tAsg te (gName i)) w D σ H := h H .refl s _ fun v H1 e s1 b => k v H1 e s1 b
theorem s_asgD {i : Nat} (s : Src H hp ip) (h : Dr hp ip te σ H B) (k : ∀ v H1, Exx hp ip H H1 → Src H1 hp ip → B v H1 → D.nx (σ.set i (some v)) H1) : tAsg te (gName i) D σ H := h H .refl s _ fun v H1 e s1 b => k v H1 e s1 b
/-! a list that grows by draws -/
def Cd (hp ip : Addr) (H : Hp) (D : Addr) (C : Nat → Int → Prop) (i : Nat) (H' : Hp) : Prop := H D = none ∧ Src H hp ip ∧ Exx hp ip H H' ∧ Src H' hp ip ∧ ∃ ms : List Int, H' D = some (.lst (vi ms)) ∧ ms.length = i ∧ ∀ j m, ms[j]? = some m → C j m
theorem cd_start {D : Addr} {C : Nat → Int → Prop} (s : Src H hp ip) (h : H D = none) : Cd hp ip H D C 0 (upd H D (.lst [])) := ⟨h, s, .of (Ex.new h), s.mono (Ex.new h), [], upd_same, rfl, fun j m hj => by cases hj⟩
theorem cd_turn {σ2 : L2.St} {D : Addr} {C : Nat → Int → Prop} {i : Nat} {H3 : Hp} (p : Cd hp ip H D C i H3) (hi : i < 40000) (he : Dr hp ip te σ2 H3 (fun v _ => ∃ m, v = .int m ∧ C i m)) :
    tYes σ2 H3 fun b H3 => if b = true then te σ2 H3 fun y H4 => ∃ acc, H4 D = some (.lst acc) ∧ acc.length < sizeLine ∧ Cd hp ip H D C (i + 1) (upd H4 D (.lst (acc ++ [y]))) else Cd hp ip H D C (i + 1) H3 := by
  obtain ⟨p1, s1, p2, s2, ms, p3, p4, p5⟩ := p
  show te σ2 H3 fun y H4 => ∃ acc, H4 D = some (.lst acc) ∧ acc.length < sizeLine ∧ Cd hp ip H D C (i + 1) (upd H4 D (.lst (acc ++ [y])))
  obtain ⟨n1, n2⟩ := s1.off p1
  refine he H3 .refl s2 _ fun y H4 e4 s4 ⟨m, hy, hc⟩ => ⟨vi ms, e4 D _ n1 n2 p3, sz_lt (by rw [List.length_map]; omega), p1, s1, fun a o a1 a2 ha => ?_, ?_, ms ++ [m], ?_, by rw [List.length_append, p4] <;> rfl, fun j x hx => ?_⟩
  · have ne : a ≠ D := fun z => by rw [z, p1] at ha; cases ha
    rw [upd_ne ne]
    exact (p2.trans e4) a o a1 a2 ha
  · obtain ⟨cells, stir, h1, h2, h3⟩ := s4
    exact ⟨cells, stir, by rw [upd_ne n1.symm]; exact h1, by rw [upd_ne n2.symm]; exact h2, h3⟩
  · rw [upd_same, vi_snoc, hy]
  · by_cases hj : j < i
    · rw [List.getElem?_append_left (by omega)] at hx
      exact p5 j x hx
    · rw [List.getElem?_append_right (by omega), p4] at hx
      have hj' : j - i = 0 := by
        have := (List.getElem?_eq_some_iff.mp hx).1
        have : j - i < 1 := this
        omega
      have ej : j = i := by omega
      subst ej
      rw [hj'] at hx
      rw [← Option.some.inj hx]
      exact hc
/-- over range(n) -/
theorem dl_R1 {ta : TA} {j : Nat} {vs : List Nat} {n : Nat} {C : Nat → Int → Prop} (h : ∀ H1, Exx hp ip H H1 → Src H1 hp ip → EvA ta σ H1 [.int (n : Int)]) (hz : n ≤ 40000) (hw : ∀ x, wipe ((wipe σ vs).set j (some x)) vs = wipe σ vs)
    (he : ∀ (i : Nat) (x : V) H1, Exx hp ip H H1 → i < n → Dr hp ip te ((wipe σ vs).set j (some x)) H1 (fun v _ => ∃ m, v = .int m ∧ C i m)) : DrL hp ip (tLc (iRng1 ta) (gName j) tYes te vs) σ H n C := fun H0 e s Q q => h H0 e s H0 (Ex.refl _) _ fun H1 e1 =>
  ⟨(n : Int), rfl, by omega, by omega, fun D hD => lc_range (lo := 0) (n := (n : Int).toNat) (Cd hp ip H1 D C) (cd_start (s.mono e1) hD) (fun i H' hi p => ⟨hw _, cd_turn p (by omega) (he i _ H' ((e.trans (.of e1)).trans p.2.2.1) (by omega))⟩) fun H' p => by
    obtain ⟨p1, s1, p2, s2, ms, p3, p4, p5⟩ := p
    exact q D ms H' (.trans (.of e1) p2) s2 p3 (by omega) p5⟩
/-- over a tuple of ints -/
theorem dl_T {tl : TE} {j : Nat} {vs : List Nat} {u : V} {xs : List Int} {C : Nat → Int → Prop} (h : ∀ H1, Exx hp ip H H1 → Src H1 hp ip → Ev tl σ H1 u) (hx : VecAt K H u xs) (s0 : Src H hp ip) (hz : xs.length ≤ 40000) (hw : ∀ x, wipe ((wipe σ vs).set j (some x)) vs = wipe σ vs)
    (he : ∀ (i : Nat) (x : Int) H1, Exx hp ip H H1 → xs[i]? = some x → Dr hp ip te ((wipe σ vs).set j (some (.int x))) H1 (fun v _ => ∃ m, v = .int m ∧ C i m)) : DrL hp ip (tLc (iTup K tl) (gName j) tYes te vs) σ H xs.length C := fun H0 e s Q q => by
  obtain ⟨a, rfl, hx⟩ := hx
  refine h H0 e s H0 (Ex.refl _) _ fun H1 e1 => ⟨a, rfl, ⟨vi xs, sqt_x s0 (e.trans (.of e1)) hx⟩, fun D hD => lc_tup (xs := vi xs) (Cd hp ip H1 D C) (cd_start (s.mono e1) hD) (fun i H' _ p => sqt_x s0 ((e.trans (.of e1)).trans p.2.2.1) hx) (fun i x H' hi p => ?_) fun H' p => ?_⟩
  · obtain ⟨x', ex, rfl⟩ := vi_get hi
    have hlt := (List.getElem?_eq_some_iff.mp ex).1
    exact ⟨hw _, cd_turn p (by omega) (he i x' H' ((e.trans (.of e1)).trans p.2.2.1) ex)⟩
  · obtain ⟨p1, s1, p2, s2, ms, p3, p4, p5⟩ := p
    exact q D ms H' (.trans (.of e1) p2) s2 p3 (by rw [p4, List.length_map]) p5
/-- tuple([..]) -/
def Ints (K : PySem.W.Frag) (n : Nat) (C : Nat → Int → Prop) : V → Hp → Prop := fun v H => ∃ ms, VecAt K H v ms ∧ ms.length = n ∧ ∀ i m, ms[i]? = some m → C i m
theorem Ints.x {n : Nat} {C : Nat → Int → Prop} : MonoX hp ip (Ints K n C) := fun v H H' s e ⟨ms, h, r⟩ => ⟨ms, h.x s e, r⟩
theorem dr_tup {n : Nat} {C : Nat → Int → Prop} (h : DrL hp ip te σ H n C) : Dr hp ip (tCB (rTupOf K) (tCons te tNil)) σ H (Ints K n C) := fun H1 e s Q q => h H1 e s _ fun p ms H2 e2 s2 hp hl hc => ⟨p, vi ms, rfl, .inl ⟨sq_of hp, fun l np => q _ _ (e2.trans (.of (Ex.new np))) (s2.mono (Ex.new np)) ⟨ms, VecAt.of upd_same, hl, hc⟩⟩⟩
theorem bt_of {ms : List Int} {a b : Int} (h : ∀ (i : Nat) (m : Int), ms[i]? = some m → a ≤ m ∧ m ≤ b) (h1 : -10000 ≤ a) (h2 : b ≤ 10000) : Bt ms := fun z hz => by
  obtain ⟨i, hi⟩ := List.getElem?_of_mem hz
  have := h i z hi
  omega
end
section
variable {P : Program} {w : World} {K : PySem.W.Frag} {mg : Str → Option Value} {base : Heap}
abbrev s__law_region : Stmt := topS 32
abbrev N__law_region : List Str := ["_law_heap_here", "_law_kind", "_law_places", "_law_far", "_law_centre", "_law_word", "_law_size", "_law_place", "_law_part_here"]
abbrev p__law_region : List Str := ["_law_heap_here", "_law_kind", "_law_places", "_law_far"]
theorem sc__law_region : FnScope N__law_region p__law_region (defScope s__law_region) := ⟨rfl, rfl, rfl, by decide +kernel, rfl, by decide +kernel, by decide +kernel⟩

/-- a region within the law's limits -/
structure FitR (R : Reg) (n : Nat) : Prop where
  ok : R.Ok n
  sm : R.Sm
  one : Bt R.one
  two : ∀ lo hi, R = .box lo hi → Bt hi
  mid : ∀ z ∈ R.one, -4900 ≤ z ∧ z ≤ 4900
def spRegion (K : PySem.W.Frag) : Sp := fun vs H Q _ => ∃ (hp ip : Addr) (k : Kd) (n : Nat) (far : Int), vs = [.ref hp, .str k.s, .int (n : Int), .int far] ∧ Src H hp ip ∧ (1 ≤ n ∧ n ≤ 8) ∧ (3 ≤ far ∧ far ≤ 4900) ∧
  ∀ r H' R, RegAt K H' r R → FitR R n → Exx hp ip H H' → Src H' hp ip → Q r H'
theorem ok__law_region (F : FunX K mg "_law_region" s__law_region p__law_region) (T : Gs mg) (D_law_draw : Def P w K mg base 1 "_law_draw" p__law_draw spDraw) (D_law_pick : Def P w K mg base 2 "_law_pick" p__law_pick (spPick K)) : Def P w K mg base 3 "_law_region" p__law_region (spRegion K) := by
  refine F.def_ fun f fd F => F.ok sc__law_region (fun vs H Q E h => ?_) (fun cdv A outer s H vs Q E hr h => ?_)
  · obtain ⟨hp, ip, k, n, far, rfl, _⟩ := h
    rfl
  · obtain ⟨hp, ip, k, n, far, rfl, hs, hn, hf, q⟩ := h
    have nd := sc__law_region.nd
    refine ⟨_, (pss_cons (ps_set (i := 4) nd rfl (Or.inl rfl) (pe_callTy (call_tupK K) (by rfl) T.n_tuple (by decide +kernel) (pa_cons (pe_lc (own := [("_law_place", 7)]) (g := gName 7) rfl nd (pi_range1 rfl T.n_range (pa_cons (pv 2) pa_nil)) (blkOk_by (own := [("_law_place", 7)]) (N := N__law_region) (sc := defScope s__law_region) (by decide +kernel)) (fun _ _ _ _ _ => pg_name (i := 7) nd rfl (Or.inl rfl)) (fun _ _ _ _ _ => pts_nil) (fun _ _ _ _ _ => pe_op op_sub (pe_D D_law_draw (hr.mono (by decide)) (pa_cons (pv 0) (pa_cons (pe_op op_add (pe_op op_mul pe_int (pv 3)) pe_int) pa_nil))) (pv 3))) pa_nil)))
    (pss_cons (ps_set (i := 5) nd rfl (Or.inl rfl) (pe_D D_law_pick (hr.mono (by decide)) (pa_cons (pv 0) (pa_cons (pe_lst (pa_cons pe_str (pa_cons pe_str (pa_cons pe_str pa_nil)))) pa_nil))))
    (pss_cons (ps_if (pt_cmpR op_eq (pv 5) pe_str (nomark _)) (pss_one (ps_ret (pe_tup (pa_cons pe_str (pa_cons (pv 4) (pa_cons (pe_callTy (call_tupK K) (by rfl) T.n_tuple (by decide +kernel) (pa_cons (pe_lc (own := [("_law_part_here", 8)]) (g := gName 8) rfl nd (pi_tupK K (pv 4)) (blkOk_by (own := [("_law_part_here", 8)]) (N := N__law_region) (sc := defScope s__law_region) (by decide +kernel)) (fun _ _ _ _ _ => pg_name (i := 8) nd rfl (Or.inl rfl)) (fun _ _ _ _ _ => pts_nil) (fun _ _ _ _ _ => pe_op op_add (pv 8) (pe_D D_law_pick (hr.mono (by decide)) (pa_cons (pv 0) (pa_cons (pe_lst (pa_cons pe_int (pa_cons pe_int (pa_cons (pe_D D_law_draw (hr.mono (by decide)) (pa_cons (pv 0) (pa_cons pe_int pa_nil))) (pa_cons (pe_D D_law_draw (hr.mono (by decide)) (pa_cons (pv 0) (pa_cons (pe_op op_add (pv 3) pe_int) pa_nil))) pa_nil))))) pa_nil))))) pa_nil)) pa_nil)))))) pss_nil)
    (pss_cons (ps_set (i := 6) nd rfl (Or.inl rfl) (pe_ifExp (pt_cmpR op_eq (pv 1) pe_str (nomark _)) (pe_D D_law_draw (hr.mono (by decide)) (pa_cons (pv 0) (pa_cons pe_int pa_nil))) (pe_D D_law_pick (hr.mono (by decide)) (pa_cons (pv 0) (pa_cons (pe_lst (pa_cons pe_int (pa_cons pe_int (pa_cons pe_int (pa_cons (pe_D D_law_draw (hr.mono (by decide)) (pa_cons (pv 0) (pa_cons pe_int pa_nil))) (pa_cons (pe_D D_law_draw (hr.mono (by decide)) (pa_cons (pv 0) (pa_cons (pe_op op_add (pe_op op_mul (pv 3) (pv 3)) pe_int) pa_nil))) pa_nil)))))) pa_nil)))))
    (pss_cons (ps_if (pt_cmpR op_eq (pv 5) pe_str (nomark _)) (pss_one (ps_ret (pe_tup (pa_cons pe_str (pa_cons (pv 4) (pa_cons (pv 6) pa_nil)))))) pss_nil)
    (pss_one (ps_ret (pe_tup (pa_cons pe_str (pa_cons (pv 4) (pa_cons (pv 6) (pa_cons (pe_op op_add (pv 6) (pe_D D_law_pick (hr.mono (by decide)) (pa_cons (pv 0) (pa_cons (pe_lst (pa_cons pe_int (pa_cons pe_int (pa_cons (pe_D D_law_draw (hr.mono (by decide)) (pa_cons (pv 0) (pa_cons pe_int pa_nil))) pa_nil)))) pa_nil)))) pa_nil)))))))))))), ?_⟩
    -- the centre
    refine q_asgD (B := Ints K n fun _ m => -far ≤ m ∧ m ≤ far) hs (dr_tup (dl_R1 (n := n) (fun H1 _ _ => ea_cons (ev_var rfl) ea_nil) (by omega) (fun _ => rfl) fun i x H1 e1 hi => (dr_sub (dr_draw (many := 2 * far + 1) rfl (fun H2 _ _ => ev_add (ev_mul ev_c (ev_var rfl) (.inl ⟨by decide, by decide⟩)) ev_c) ⟨by omega, by omega⟩) (dr_int (i := far) (a := far) (b := far) (fun _ _ _ => ev_var rfl) ⟨by omega, by omega⟩)).imp fun v _ ⟨m, e, m1, m2⟩ => ⟨m, e, by omega, by omega⟩)) fun c H1 e1 s1 hc => ?_
    obtain ⟨cs, hc, lc, bc⟩ := hc
    have btc : Bt cs := bt_of bc (by omega) (by omega)
    have mid : ∀ z ∈ cs, -4900 ≤ z ∧ z ≤ 4900 := fun z hz => by
      obtain ⟨i, hi⟩ := List.getElem?_of_mem hz
      have := bc i z hi
      omega
    -- the word
    refine q_asgD (B := fun v _ => v = .str "ball" ∨ v = .str "box" ∨ v = .str "cell") s1 (dr_pick (n := 3) (fun _ _ _ _ _ h => h) rfl (da_cons (fun _ _ _ _ _ h => h) (dr_of (fun _ _ _ => ev_c) fun _ _ _ => .inl rfl) (da_cons (fun _ _ _ _ _ h => h) (dr_of (fun _ _ _ => ev_c) fun _ _ _ => .inr (.inl rfl)) (da_cons (fun _ _ _ _ _ h => h) (dr_of (fun _ _ _ => ev_c) fun _ _ _ => .inr (.inr rfl)) da_nil))) ⟨by decide, by decide⟩) fun wd H2 e2 s2 hw => ?_
    have hc2 := hc.x s1 e2
    have e12 := e1.trans e2
    obtain ⟨sq0, sq1⟩ : 0 ≤ far * far ∧ far * far ≤ 24010000 := ⟨Int.mul_nonneg (by omega) (by omega), Int.mul_le_mul hf.2 hf.2 (by omega) (by omega)⟩
    have sc : ∀ s : Str, scal wd (.str s) = true := fun s => by
      rcases hw with rfl | rfl | rfl <;> rfl
    refine q_if (b := decide (wd = V.str "box")) (et_eq (ev_var rfl) ev_c (sc _)) (fun eb H3 e3 => ?_) (fun eb H3 e3 => ?_)
    · -- a box
      have s3 := s2.mono e3
      have hc3 := hc2.mono e3
      refine ⟨c, rfl, ?_⟩
      refine dr_tup (K := K) (C := fun i m => ∃ p, cs[i]? = some p ∧ p ≤ m ∧ m ≤ p + 4900) (dl_T (fun H4 _ _ => ev_var rfl) hc3 s3 (by omega) (fun _ => rfl) fun i p H4 e4 hp => (dr_add (dr_int (i := p) (a := p) (b := p) (fun _ _ _ => ev_var rfl) ⟨by omega, by omega⟩) (dr_pick (n := 4) (B := IntIn 0 4900) IntIn.x rfl (da_cons IntIn.x (dr_lit ⟨by decide, by decide⟩) (da_cons IntIn.x (dr_lit ⟨by decide, by decide⟩)
        (da_cons IntIn.x ((dr_draw (many := 4) rfl (fun _ _ _ => ev_c) ⟨by decide, by decide⟩).imp fun v _ g => g.wide (by decide) (by decide)) (da_cons IntIn.x ((dr_draw (many := far + 1) rfl (fun _ _ _ => ev_add (ev_var rfl) ev_c) ⟨by omega, by omega⟩).imp fun v _ g => g.wide (by omega) (by omega)) da_nil)))) ⟨by decide, by decide⟩)).imp fun v _ ⟨m, e, m1, m2⟩ => ⟨m, e, p, hp, by omega, by omega⟩) H3 .refl s3 _ fun d H4 e4 s4 hd => ⟨sz_of (by show 3 ≤ 100000; decide), fun p np => ?_⟩
      obtain ⟨ds, hd, ld, bd⟩ := hd
      have e5 : Ex H4 (upd H4 p (.tup [.str "box", c, d])) := Ex.new np
      have bth : Bt ds := fun z hz => by
        obtain ⟨i, hi⟩ := List.getElem?_of_mem hz
        obtain ⟨p, hp, h1, h2⟩ := bd i z hi
        have := bc i p hp
        omega
      refine q (.ref p) _ (.box cs ds) ⟨p, c, d, rfl, st_of upd_same, (hc3.x s3 e4).mono e5, hd.mono e5⟩ ⟨⟨lc, by rw [ld, lc], fun i a b ha hb => ?_⟩, ⟨btc.bd, bth.bd⟩, btc, fun lo hi e => (by cases e; exact bth), mid⟩ (((e12.trans (.of e3)).trans e4).trans (.of e5)) (s4.mono e5)
      obtain ⟨p, hp, h1, _⟩ := bd i b hb
      rw [ha] at hp
      cases hp
      exact h1
    · -- a ball, a cell
      have s3 := s2.mono e3
      have hc3 := hc2.mono e3
      refine q_asgD (B := IntIn 0 24010000) s3 (dr_if (b := k.isUn) (fun _ _ _ => et_un (ev_var rfl) ev_c) (fun _ => (dr_draw (many := 4) rfl (fun _ _ _ => ev_c) ⟨by decide, by decide⟩).imp fun v _ g => g.wide (by decide) (by decide)) fun _ =>
        dr_pick (n := 5) (B := IntIn 0 24010000) IntIn.x rfl (da_cons IntIn.x (dr_lit ⟨by decide, by decide⟩) (da_cons IntIn.x (dr_lit ⟨by decide, by decide⟩) (da_cons IntIn.x (dr_lit ⟨by decide, by decide⟩)
          (da_cons IntIn.x ((dr_draw (many := 9) rfl (fun _ _ _ => ev_c) ⟨by decide, by decide⟩).imp fun v _ g => g.wide (by decide) (by decide)) (da_cons IntIn.x ((dr_draw (many := far * far + 1) rfl (fun _ _ _ => ev_add (ev_mul (ev_var rfl) (ev_var rfl) (.inl ⟨by omega, by omega⟩)) ev_c) ⟨by omega, by omega⟩).imp fun v _ g => g.wide (by omega) (by omega)) da_nil))))) ⟨by decide, by decide⟩) fun sz H4 e4 s4 hz => ?_
      · obtain ⟨size, rfl, z0, z1⟩ := hz
        have hc4 := hc3.x s3 e4
        have e14 := (e12.trans (.of e3)).trans e4
        refine q_if (b := decide (wd = V.str "ball")) (et_eq (ev_var rfl) ev_c (sc _)) (fun el H5 e5 => ?_) (fun el H5 e5 => ?_)
        · refine ⟨c, rfl, .int size, rfl, sz_of (by show 3 ≤ 100000; decide), fun p np => ?_⟩
          have e6 := e5.trans (Ex.new (o := .tup [.str "ball", c, .int size]) np)
          exact q (.ref p) _ (.ball cs size) ⟨p, c, rfl, st_of upd_same, hc4.mono e6⟩ ⟨⟨lc, z0⟩, ⟨btc.bd, by omega⟩, btc, fun lo hi e => (by cases e), mid⟩ (e14.trans (.of e6)) (s4.mono e6)
        · refine ⟨c, rfl, .int size, rfl, ?_⟩
          refine dr_add (a := size) (b := size) (dr_int (i := size) (fun _ _ _ => ev_var rfl) ⟨by omega, by omega⟩) (dr_pick (n := 3) (B := IntIn 0 8) IntIn.x rfl (da_cons IntIn.x (dr_lit ⟨by decide, by decide⟩) (da_cons IntIn.x (dr_lit ⟨by decide, by decide⟩)
            (da_cons IntIn.x ((dr_draw (many := 9) rfl (fun _ _ _ => ev_c) ⟨by decide, by decide⟩).imp fun v _ g => g.wide (by decide) (by decide)) da_nil))) ⟨by decide, by decide⟩) H5 .refl (s4.mono e5) _ fun g H6 e6 s6 hg => ⟨sz_of (by show 4 ≤ 100000; decide), fun p np => ?_⟩
          obtain ⟨big, rfl, g0, g1⟩ := hg
          have e7 : Ex H6 (upd H6 p (.tup [.str "cell", c, .int size, .int big])) := Ex.new np
          exact q (.ref p) _ (.cell cs size big) ⟨p, c, rfl, st_of upd_same, ((hc4.mono e5).x (s4.mono e5) e6).mono e7⟩ ⟨⟨lc, z0, by omega⟩, ⟨btc.bd, by omega⟩, btc, fun lo hi e => (by cases e), mid⟩ ((((e14.trans (.of e5)).trans e6)).trans (.of e7)) (s6.mono e7)
end
end K21
/-! KGuard: the law's def called by the caller itself, so that nothing is known to be under way; repr of data. -/
namespace K21
open PySem PySem.Spec PyProof.Rows L2
section
variable {P : Program} {w : World} {K : PySem.W.Frag} {mg : Str → Option Value} {base : Heap}
/-- a def's call where the around is known -/
theorem run_at {x qual : Str} {st : Stmt} {f : Addr} {fd : FuncData} {N ps : List Str} {k : Nat} {A : Around} {outer : List Env} {s : Shared} {H : Hp} {args : Args} {us : List Value} {vs : List V} {Q : VK} {E : XK} (F : Fun K x qual st f fd) (S : FnScope N ps (defScope st)) (room : Room (k + 1) A)
    (e0 : Env0 P w K mg base A outer s H) (bt : BindsTo s fd args (ps.zip us)) (vu : Vals vs us) (hl : vs.length = ps.length)
    (body : ∀ cdv : Value, Room k (A.deeper (envOfC qual (defScope st) s.heap.objs.size f cdv)) → ∃ t, PSs (cxOf CX0 P w K mg base N qual (defScope st) f cdv A outer s H E).nox (defBody st) t ∧ t { nx := fun _ H' => Q .non H', rt := Q } (start N vs) H) :
    codeAny (model P w) A (.call (.ref f) args) (CR CX0 outer P w H s Q E) s := by
  obtain ⟨oc, od, kV, doc, pm, an, cdv, ct, osl, rfl, lk, code⟩ := F.ex
  have kept : ∀ b o, base.get? b = some o → s.heap.get? b = some o := fun b o e => (e0.bs b o e).1
  have kin := e0.mod.kin.keeps kept
  have par : ∀ p ∈ ps.zip us, (defScope st).names.lookup p.1 = some .local ∨ ((defScope st).names.lookup p.1 = some .cell ∧ ((cellsFrom (s.heap.objs.size + 1) (defScope st).names []).lookup p.1).isSome = true) := by
    rintro ⟨n, v⟩ hm
    rcases S.par n (List.of_mem_zip hm).1 with q | q
    · exact .inl q
    · exact .inr ⟨q, PySem.W.cellsFrom_some _ _ _ (.inl q)⟩
  refine codeAny_call_function room.depth (kin _ _ lk) rfl S.co S.gen rfl (PySem.W.codeRec_of kin code) (bt _ _ _ _ (wpAny_newFunctionEnv_cells S.kind par fun env he s1 inC => ?_))
  subst he
  refine ⟨(e0.mod.nolimit.keeps kept).keeps inC.toInCall.keep, codeAny_func ?_⟩
  obtain ⟨t, ht, hq⟩ := body cdv (room.deeper _)
  have J0 : Inv (cxOf CX0 P w K mg base N qual (defScope st) f cdv A outer s H E) [] (start N vs) H s1 := inv_start S room.hd e0 hl vu inC
  refine wpAny_mono (ht.nox.run [] s1 (start N vs) H _ J0 hq) (fun fl s' end_ => ?_) fun _ _ q => q
  cases fl with
  | next =>
    obtain ⟨σ', H', J, q⟩ := end_
    exact ⟨.non, H', J.os, J.bare, J.base, J.hok, rfl, q⟩
  | ret u =>
    obtain ⟨v, σ', H', J, rv, q⟩ := end_
    exact ⟨v, H', J.os, J.bare, J.base, J.hok, rv, q⟩
  | brk => exact (end_.elim fun _ h => h.elim fun _ h => h.2).elim
  | cont => exact (end_.elim fun _ h => h.elim fun _ h => h.2).elim

/-- the law's call at the heap behind the top -/
theorem call_at {mb : Str → Option Value} {fa a : Addr} {s1 : Shared} {vs : List Value} {ns : List Int} (kin : K.In s1.heap) (gl : s1.heap.Ns mainGlobals mg) (bl : s1.heap.Ns builtinsNs mb) (blv : ∀ x : Str, x ≠ "__name__" → mb x = bootBuiltins x) (lim : s1.heap.NoLimit) (gn : s1.gens = #[])
    (obj : s1.heap.get? a = some { cls := .type "list", data := .seq vs.toArray }) (hin : IntsAre vs ns) (few : ns.length ≤ sizeLine)
    (go : ∀ (H : Hp) (base : Heap), Only H → SqL K H a (ns.map V.int) → K.In base → base.Ns mainGlobals mg → Env0 P w K mg base callerA [] s1 H →
      codeAny (model P w) callerA (.call (.ref fa) ⟨[.ref a], []⟩) (CR CX0 [] P w H s1 (fun v _ => v = .bl true) E0) s1) :
    codeAny (model P w) callerA (.call (.ref fa) ⟨[.ref a], []⟩) (fun r z => r = .ok (.ret (.bool true)) ∧ OldK s1.heap z.heap ∧ z.os = s1.os ∧ AllBare z.gens) s1 := by
  have rel := vals_ints hin
  have size : vs.length = ns.length := hin.length
  have main : ∀ H : Hp, Only H → SqL K H a (ns.map V.int) → HOk P w H s1.heap → (∀ b, H b ≠ none → b = a ∧ K.lookup a = none) →
      codeAny (model P w) callerA (.call (.ref fa) ⟨[.ref a], []⟩) (fun r z => r = .ok (.ret (.bool true)) ∧ OldK s1.heap z.heap ∧ z.os = s1.os ∧ AllBare z.gens) s1 := fun H only sq hok at_a => by
    have hid : ∀ {b : Addr} {o : Obj}, s1.heap.get? b = some o → H b = none → (hidT s1.heap H).get? b = some o := fun e n => hidT_get e n
    have untr : ∀ {b : Addr} {o : Obj}, s1.heap.get? b = some o → (b = a → K.lookup a = none → False) → H b = none := fun {b o} _ no => by
      cases q : H b with
      | none => rfl
      | some u =>
        obtain ⟨e1, e2⟩ := at_a b (fun z => by rw [q] at z; cases z)
        exact (no e1 e2).elim
    have nsB : ∀ {b : Addr} {m : Str → Option Value}, s1.heap.Ns b m → (hidT s1.heap H).Ns b m := fun {b m} ⟨o, es, ep, e, d, r⟩ => ⟨o, es, ep, hid e (untr e fun z _ => by
      subst z
      rw [obj] at e
      cases e
      have d' : Data.seq vs.toArray _ = Data.dict es ep := d
      cases d'), d, r⟩
    have kinB : K.In (hidT s1.heap H) := fun b o e => hid (kin b o e) (untr (kin b o e) fun z n => by
      subst z
      rw [n] at e
      cases e)
    obtain ⟨mc, c1, c2⟩ := lim
    have md : Mod K mg (hidT s1.heap H) := ⟨kinB, nsB gl, ⟨mb, nsB bl, blv⟩, ⟨mc, nsB c1, c2⟩⟩
    have env0 : Env0 P w K mg (hidT s1.heap H) callerA [] s1 H := ⟨rfl, md, fun b o e => of_hidT e, Nat.le_of_eq (hidT_size _ _), trivial, fun b hb => (by cases (show b ∈ ([] : List Addr) from hb)), hok, .of_eq gn⟩
    refine codeAny_mono (go H _ only sq kinB (nsB gl) env0) fun r z hr => ?_
    match r, hr with
    | .error e, hr => exact False.elim hr
    | .ok .next, hr => exact False.elim hr
    | .ok .brk, hr => exact False.elim hr
    | .ok .cont, hr => exact False.elim hr
    | .ok (.ret u), hr =>
      obtain ⟨v, H', os, bare, un, hok', rv, ev⟩ := hr
      have ev' : v = .bl true := ev
      subst ev'
      have eu : u = Value.bool true := rv
      subst eu
      refine ⟨rfl, OldK.of_keep fun b o e => ?_, os, bare⟩
      rcases only b with n | ⟨ob, xs, n⟩
      · exact un.keep b o e n (fun z => by cases (show b ∈ ([] : List Addr) from z)) (fun z => by cases z)
      · obtain ⟨k1, _⟩ := hok b _ n
        obtain ⟨k2, _⟩ := hok' b _ (un.frzs b ob _ n)
        rw [e] at k1
        cases k1
        exact k2
  cases hk : K.lookup a with
  | some o =>
    have eo := kin a o hk
    rw [obj] at eo
    cases eo
    refine main (fun _ => none) (fun _ => .inl rfl) (.inr ⟨_, vs.toArray, _, hk, rfl, rfl, rfl, by rw [List.size_toArray, size]; exact few, by simpa using rel⟩) (fun b u z => by cases (show (none : Option HO) = some u from z)) (fun b z => absurd rfl z)
  | none =>
    have yes : ∀ {b : Addr}, b = a → (if b = a then some (HO.frz { cls := .type "list", data := .seq vs.toArray } (.lst (ns.map V.int))) else none) = some (HO.frz { cls := .type "list", data := .seq vs.toArray } (.lst (ns.map V.int))) := fun e => if_pos e
    have no : ∀ {b : Addr}, b ≠ a → (if b = a then some (HO.frz { cls := .type "list", data := .seq vs.toArray } (.lst (ns.map V.int))) else none) = none := fun e => if_neg e
    refine main (fun b => if b = a then some (.frz { cls := .type "list", data := .seq vs.toArray } (.lst (ns.map V.int))) else none) (fun b => ?_) (.inl (.inr ⟨_, yes rfl⟩)) (fun b u z => ?_) (fun b z => ?_)
    · rcases Decidable.em (b = a) with e | e
      · exact .inr ⟨_, _, yes e⟩
      · exact .inl (no e)
    · rcases Decidable.em (b = a) with e | e
      · have zz := (yes e).symm.trans z
        cases zz
        subst e
        exact ⟨obj, by rw [List.length_map]; exact few, vs, _, rel, obj⟩
      · have zz := (no e).symm.trans z
        cases zz
    · rcases Decidable.em (b = a) with e | e
      · exact ⟨e, hk⟩
      · exact absurd (no e) z
end
/-- the goal that k_head leaves, from the law's call -/
theorem law_end {l : PySem.W.OpenLaw} {n : Nat} {q : Program} {loose : List Str} {XP : (Str → Option Value) → Heap → Prop} {YP : World → Heap → Prop} {d : DefRec} {K : Params → PySem.W.Frag} (hn : l.most = some n) (hn2 : n ≤ sizeLine) (hdf : d.params.defaults = [])
    (hY : ∀ (w : World) (h : Heap), YP w h → (K w.params).In h)
    (go : ∀ (w : World) (mg : Str → Option Value) (fa a : Addr) (h base : Heap) (s1 : Shared) (H : Hp) (ns : List Int), (K w.params).In h → h.Ns mainGlobals mg → mg d.name = some (.ref fa) → ns.length ≤ n → SqL (K w.params) H a (ns.map V.int) → (K w.params).In base → base.Ns mainGlobals mg →
      Env0 l.prog w (K w.params) mg base callerA [] s1 H → codeAny (model l.prog w) callerA (.call (.ref fa) ⟨[.ref a], []⟩) (CR CX0 [] l.prog w H s1 (fun v _ => v = .bl true) E0) s1) :
    PySem.W.WalkO q loose XP YP l.row.toRowW d [] (fun f vs => PySem.call f vs) := by
  refine Att.attach_call hn hdf fun w s0 s1 mg mb fa o pm cd doc a vs ns G Y ho hd hcd hmg hobj hints hlen hg => ?_
  exact call_at (hY w _ Y) G.T.g G.T.b G.T.builtins G.T.nolimit hg hobj hints (Nat.le_trans hlen hn2) fun H base _ sq k1 k2 e0 => go w mg fa a _ base s1 H ns (hY w _ Y) G.T.g hmg hlen sq k1 k2 e0

/-! ### repr of a tuple of data, where nothing is under way -/
def rReprT (K : PySem.W.Frag) : List V → Hp → VK → Prop := fun vs H Q => ∃ (a : Addr) (d : PyData), vs = [.ref a] ∧ Dp K H (.ref a) d ∧ PyData.showable d = true ∧ PyData.hasDict d = false ∧ PyData.depth d ≤ 60 ∧ (PyData.shown d).length ≤ sizeLine ∧ Q (.str (PyData.shown d)) H
theorem cr_reprT {X : Cx} (K : PySem.W.Frag) (hg : X.A.guards = some []) (hu : X.A.units + 64 < cLine) (hK : X.K = K := by rfl) : CallR X (.builtin "repr") (rReprT K) := by
  intro pins s σ H vs us Q I r h
  subst hK
  obtain ⟨a, d, rfl, hd, h1, h2, h3, h4, q⟩ := h
  obtain ⟨as, rd⟩ := Dp.reads I d (.ref a) (.ref a) hd rfl
  rw [Vals.ref1 r]
  exact repr_of_reads' rd h1 (PyData.noDict_hsm h2) hg (by omega) (fun _ _ e => e) (fun h' u tk k => ⟨.str (PyData.shown d), H, I.kept k, ⟨u, rfl⟩, q⟩) h4
end K21
/-! KData: a region as data, and the length of its text. -/
namespace K21
open PySem PySem.Spec PyProof.Rows L2 Evl
def Reg.data : Reg → PyData
  | .ball c r => .tuple [.str "ball", .tuple (c.map .int), .int r]
  | .box lo hi => .tuple [.str "box", .tuple (lo.map .int), .tuple (hi.map .int)]
  | .cell c l g => .tuple [.str "cell", .tuple (c.map .int), .int l, .int g]
section
variable {K : PySem.W.Frag} {σ : L2.St} {H H' : Hp} {te : TE} {v r : V} {R : Reg}
theorem dp_vec {zs : List Int} (h : VecAt K H v zs) : Dp K H v (.tuple (zs.map .int)) := by
  obtain ⟨a, rfl, h⟩ := h
  exact .tup h (dp_ints K H zs)
theorem dp_reg (h : RegAt K H r R) : ∃ a, r = .ref a ∧ Dp K H (.ref a) R.data := by
  cases R with
  | ball c r =>
    obtain ⟨a, b, rfl, h1, h2⟩ := h
    exact ⟨a, rfl, .tup h1 (.cons (.str _) (.cons (dp_vec h2) (.cons (.int _) .nil)))⟩
  | box lo hi =>
    obtain ⟨a, b, d, rfl, h1, h2, h3⟩ := h
    exact ⟨a, rfl, .tup h1 (.cons (.str _) (.cons (dp_vec h2) (.cons (dp_vec h3) .nil)))⟩
  | cell c l g =>
    obtain ⟨a, b, rfl, h1, h2⟩ := h
    exact ⟨a, rfl, .tup h1 (.cons (.str _) (.cons (dp_vec h2) (.cons (.int _) (.cons (.int _) .nil))))⟩
/-- plain data of no great weight -/
structure Dk (d : PyData) (n : Nat) : Prop where
  sh : PyData.showable d = true
  nd : PyData.hasDict d = false
  ls : PyData.leavesShort 13 d = true
  wt : PyData.weight d ≤ n
  dp : PyData.depth d ≤ 5
structure DkAll (ds : List PyData) (n : Nat) : Prop where
  sh : PyData.showableAll ds = true
  nd : PyData.hasDictAll ds = false
  ls : PyData.leavesShortAll 13 ds = true
  wt : PyData.weightAll ds ≤ n
  dp : PyData.depthAll ds ≤ 4
theorem dk_int {i : Int} (h : i.natAbs < 1000000000000) : Dk (.int i) 60 ∧ PyData.depth (.int i) = 0 := by
  have h1 : i.natAbs.log2 < 40 := PySem.Flt.log2_lt_of (by decide) (Nat.lt_of_lt_of_le h (by decide))
  refine ⟨⟨?_, rfl, ?_, ?_, Nat.zero_le _⟩, rfl⟩
  · show decide (i.natAbs.log2 < 1920) = true
    rw [decide_eq_true_eq]
    omega
  · show decide _ = true
    rw [decide_eq_true_eq]
    exact PyData.shown_int_le h
  · show (if (i == 0) = true then 0 else i.natAbs.log2 + 1) ≤ 60
    split <;> omega
theorem dka_nil : DkAll [] 0 := ⟨rfl, rfl, rfl, Nat.le_refl _, Nat.zero_le _⟩
theorem dka_cons {d : PyData} {ds : List PyData} {m n : Nat} (h : Dk d m) (hd : PyData.depth d ≤ 4) (hs : DkAll ds n) : DkAll (d :: ds) (m + 1 + n) := by
  refine ⟨?_, ?_, ?_, ?_, ?_⟩
  · show (PyData.showable d && PyData.showableAll ds) = true
    rw [h.sh, hs.sh] <;> rfl
  · show (PyData.hasDict d || PyData.hasDictAll ds) = false
    rw [h.nd, hs.nd] <;> rfl
  · show (PyData.leavesShort 13 d && PyData.leavesShortAll 13 ds) = true
    rw [h.ls, hs.ls] <;> rfl
  · show PyData.weight d + 1 + PyData.weightAll ds ≤ _
    have := h.wt
    have := hs.wt
    omega
  · show max (PyData.depth d) (PyData.depthAll ds) ≤ 4
    exact Nat.max_le.mpr ⟨hd, hs.dp⟩
theorem dk_tup {ds : List PyData} {n : Nat} (h : DkAll ds n) : Dk (.tuple ds) n := ⟨h.sh, h.nd, h.ls, h.wt, Nat.succ_le_succ h.dp⟩
theorem dka_ints : ∀ zs : List Int, Bd zs → DkAll (zs.map .int) (61 * zs.length) ∧ PyData.depthAll (zs.map .int) = 0
  | [], _ => ⟨dka_nil, rfl⟩
  | z :: zs, h => by
    obtain ⟨i1, i2⟩ := dka_ints zs fun x hx => h x (List.mem_cons_of_mem _ hx)
    obtain ⟨j1, j2⟩ := dk_int (i := z) (by have := h z List.mem_cons_self; omega)
    have c := dka_cons j1 (by rw [j2]; decide) i1
    refine ⟨⟨c.sh, c.nd, c.ls, ?_, c.dp⟩, ?_⟩
    · have := c.wt
      rw [List.length_cons]
      show PyData.weightAll (PyData.int z :: zs.map .int) ≤ _
      omega
    · show max (PyData.depth (.int z)) (PyData.depthAll (zs.map .int)) = 0
      rw [i2, j2] <;> rfl
theorem dk_vec {zs : List Int} (h : Bd zs) : Dk (.tuple (zs.map .int)) (61 * zs.length) ∧ PyData.depth (.tuple (zs.map .int)) = 1 := by
  obtain ⟨i1, i2⟩ := dka_ints zs h
  refine ⟨dk_tup i1, ?_⟩
  show PyData.depthAll (zs.map .int) + 1 = 1
  rw [i2]
theorem dk_reg {n : Nat} (h : FitR R n) (hn : n ≤ 8) : Dk R.data 2000 := by
  have wide : ∀ {ds : List PyData} {m : Nat}, DkAll ds m → m ≤ 2000 → Dk (.tuple ds) 2000 := fun a hm => ⟨a.sh, a.nd, a.ls, Nat.le_trans a.wt hm, Nat.succ_le_succ a.dp⟩
  have str : ∀ s : Str, PyData.leavesShort 13 (.str s) = true → s.cps.size ≤ 10 → Dk (.str s) 10 := fun s a b => ⟨rfl, rfl, a, b, Nat.zero_le _⟩
  cases R with
  | ball c r =>
    obtain ⟨k1, k2⟩ := h.ok
    obtain ⟨s1, s2⟩ := h.sm
    obtain ⟨v1, v2⟩ := dk_vec s1
    obtain ⟨j1, j2⟩ := dk_int (i := r) (by omega)
    exact wide (dka_cons (str _ rfl (by decide)) (Nat.zero_le _) (dka_cons v1 (by rw [v2]; decide) (dka_cons j1 (by rw [j2]; decide) dka_nil))) (by omega)
  | box lo hi =>
    obtain ⟨k1, k2, _⟩ := h.ok
    obtain ⟨s1, s2⟩ := h.sm
    obtain ⟨v1, v2⟩ := dk_vec s1
    obtain ⟨u1, u2⟩ := dk_vec s2
    exact wide (dka_cons (str _ rfl (by decide)) (Nat.zero_le _) (dka_cons v1 (by rw [v2]; decide) (dka_cons u1 (by rw [u2]; decide) dka_nil))) (by omega)
  | cell c l g =>
    obtain ⟨k1, k2, k3⟩ := h.ok
    obtain ⟨s1, s2⟩ := h.sm
    obtain ⟨v1, v2⟩ := dk_vec s1
    obtain ⟨j1, j2⟩ := dk_int (i := l) (by omega)
    obtain ⟨m1, m2⟩ := dk_int (i := g) (by omega)
    exact wide (dka_cons (str _ rfl (by decide)) (Nat.zero_le _) (dka_cons v1 (by rw [v2]; decide) (dka_cons j1 (by rw [j2]; decide) (dka_cons m1 (by rw [m2]; decide) dka_nil)))) (by omega)
/-- repr(region) -/
theorem ev_reprR {n : Nat} (ha : Ev te σ H r) (h : RegAt K H r R) (f : FitR R n) (hn : n ≤ 8) : Ev (tCB (rReprT K) (tCons te tNil)) σ H (.str (PyData.shown R.data)) := by
  have k := dk_reg f hn
  refine ev_blt (ea_cons ha ea_nil) fun H1 e Q q => ?_
  obtain ⟨a, ea, hd⟩ := dp_reg (h.mono e)
  exact ⟨a, R.data, by rw [ea], hd, k.sh, k.nd, Nat.le_trans k.dp (by decide), PyData.shown_fits (by decide) (by decide) k.ls (Nat.le_trans k.wt (by decide)), q⟩
end
end K21
/-! F10: the law. -/
namespace K21
open PySem PySem.Spec PyProof.Rows L2 Evl
section
variable {hp ip : Addr} {H H' : Hp} {K : PySem.W.Frag} {σ : L2.St} {B B1 B2 : V → Hp → Prop} {te ta tb tc tr tv : TE} {t : TT} {v : V} {D : Ends} {w : TS} {R : Reg}
theorem q_pairD {i j : Nat} (s : Src H hp ip) (m1 : MonoX hp ip B1) (m2 : MonoX hp ip B2) (h1 : Dr hp ip ta σ H B1) (h2 : Dr hp ip tb σ H B2) (k : ∀ v1 v2 H1, Exx hp ip H H1 → Src H1 hp ip → B1 v1 H1 → B2 v2 H1 → w D ((σ.set i (some v1)).set j (some v2)) H1) :
    tSeq (tAsg (tTup (tCons ta (tCons tb tNil))) (gTup K 2 (gCons (gName i) (gCons (gName j) gNil)))) w D σ H := h1 H .refl s _ fun x H1 e1 s1 b1 => h2 H1 e1 s1 _ fun y H2 e2 s2 b2 => ⟨sz_of (by show 2 ≤ 100000; decide), fun p np => by
    have e3 : Ex H2 (upd H2 p (.tup [x, y])) := Ex.new np
    exact ⟨p, [x, y], rfl, st_of upd_same, rfl, x, [y], rfl, y, [], rfl, rfl, k x y _ ((e1.trans e2).trans (.of e3)) (s2.mono e3) (m1 x _ _ s2 (.of e3) (m1 x _ _ s1 e2 b1)) (m2 y _ _ s2 (.of e3) b2)⟩⟩
theorem q_asgH {i j : Nat} {a : Addr} {ns : List Int} {E : XK} (h : σ[j]? = some (some (.ref a))) (ha : SqL K H a (vi ns)) (hl : ns.length ≤ 63) (k : ∀ hp ip H1, Ex H H1 → Src H1 hp ip → w D (σ.set i (some (.ref hp))) H1) : tSeq (tAsg (tCall (spHeap K) [] E (tCons (tVar j) tNil)) (gName i)) w D σ H :=
  ⟨.ref a, h, a, ns, rfl, ha, hl, k⟩
theorem ev_lenL {a : Addr} {xs : List V} {n : Nat} (h : Ev ta σ H (.ref a)) (hx : SqL K H a xs) (hn : xs.length = n) : Ev (tCB (rLen K) (tCons ta tNil)) σ H (.int (n : Int)) := fun H1 e Q q =>
  h H1 e _ fun H2 e2 => ⟨.ref a, n, rfl, .inl ⟨xs, ex_l (e.trans e2) hx, hn.symm⟩, q H2 e2⟩
/-- a region that stands, by its numbers -/
def Rg (K : PySem.W.Frag) (R : Reg) : V → Hp → Prop := fun v H => RegAt K H v R
def RgF (K : PySem.W.Frag) (n : Nat) : V → Hp → Prop := fun v H => ∃ R, RegAt K H v R ∧ FitR R n
def VcF (K : PySem.W.Frag) (n : Nat) : V → Hp → Prop := fun v H => ∃ zs, VecAt K H v zs ∧ zs.length = n ∧ Bt zs
theorem VcF.x {n : Nat} : MonoX hp ip (VcF K n) := fun v H H' s e ⟨zs, h, r⟩ => ⟨zs, h.x s e, r⟩
theorem dr_region {j1 j2 j3 j4 n : Nat} {E : XK} {k : Kd} {far : Int} (h1 : σ[j1]? = some (some (.ref hp))) (h2 : σ[j2]? = some (some (.str k.s))) (h3 : σ[j3]? = some (some (.int (n : Int)))) (h4 : σ[j4]? = some (some (.int far))) (hn : 1 ≤ n ∧ n ≤ 8) (hf : 3 ≤ far ∧ far ≤ 4900) :
    Dr hp ip (tCall (spRegion K) [] E (tCons (tVar j1) (tCons (tVar j2) (tCons (tVar j3) (tCons (tVar j4) tNil))))) σ H (RgF K n) := fun H1 e s Q q =>
  ⟨_, h1, _, h2, _, h3, _, h4, hp, ip, k, n, far, rfl, s, hn, hf, fun r H2 R hr hR e2 s2 => q r H2 e2 s2 ⟨R, hr, hR⟩⟩
theorem FitR.len {n : Nat} (h : FitR R n) : R.one.length = n := by
  have k := h.ok
  cases R with
  | ball c r => exact k.1
  | cell c l g => exact k.1
  | box lo hi => exact k.1
theorem FitR.fit {n : Nat} {zs : List Int} (h : FitR R n) (hn : 1 ≤ n ∧ n ≤ 8) (hl : zs.length = n) (hb : Bt zs) : Fit2 R zs := ⟨⟨by rw [hl]; exact h.ok, by omega, by omega, h.sm, hb.bd⟩, hb, h.one, h.two⟩
/-! displays -/
theorem evg_vec {ta : TA} {zs : List Int} (h : EvA ta σ H (vi zs)) (hz : zs.length ≤ 1000) : EvG (tTup ta) σ H (Vc K zs) := fun H1 e Q q => eu_tup h (by show (zs.map V.int).length ≤ 100000; rw [List.length_map]; omega) H1 e Q fun p H2 _ e2 hp => q _ H2 e2 (VecAt.of hp)
theorem evg_2 {a b : Int} : EvG (tTup (tCons (tC (.int a)) (tCons (tC (.int b)) tNil))) σ H (Vc K [a, b]) := evg_vec (zs := [a, b]) (ea_cons ev_c (ea_cons ev_c ea_nil)) (by show 2 ≤ 1000; decide)
theorem evg_ball {c : List Int} {r : Int} (h : EvG tb σ H (Vc K c)) : EvG (tTup (tCons (tC (.str "ball")) (tCons tb (tCons (tC (.int r)) tNil)))) σ H (Rg K (.ball c r)) := fun H1 e Q q => h H1 e _ fun v H2 e2 g => ⟨sz_of (by show 3 ≤ 100000; decide), fun p np =>
  q (.ref p) _ (e2.trans (Ex.new np)) ⟨p, v, rfl, st_of upd_same, VecAt.mono (Ex.new np) g⟩⟩
theorem evg_cell {c : List Int} {l r : Int} (h : EvG tb σ H (Vc K c)) : EvG (tTup (tCons (tC (.str "cell")) (tCons tb (tCons (tC (.int l)) (tCons (tC (.int r)) tNil))))) σ H (Rg K (.cell c l r)) := fun H1 e Q q => h H1 e _ fun v H2 e2 g => ⟨sz_of (by show 4 ≤ 100000; decide), fun p np =>
  q (.ref p) _ (e2.trans (Ex.new np)) ⟨p, v, rfl, st_of upd_same, VecAt.mono (Ex.new np) g⟩⟩
theorem evg_box {lo hi : List Int} (h : EvG tb σ H (Vc K lo)) (h2 : EvG tc σ H (Vc K hi)) : EvG (tTup (tCons (tC (.str "box")) (tCons tb (tCons tc tNil)))) σ H (Rg K (.box lo hi)) := fun H1 e Q q => h H1 e _ fun v H2 e2 g => h2 H2 (e.trans e2) _ fun u H3 e3 g2 => ⟨sz_of (by show 3 ≤ 100000; decide), fun p np =>
  q (.ref p) _ ((e2.trans e3).trans (Ex.new np)) ⟨p, v, u, rfl, st_of upd_same, VecAt.mono (e3.trans (Ex.new np)) g, VecAt.mono (Ex.new np) g2⟩⟩
theorem evg_reg (ha : Ev ta σ H v) (h : RegAt K H v R) : EvG ta σ H (Rg K R) := fun H1 e Q q => ha H1 e Q fun H2 e2 => q v H2 e2 (h.mono (e.trans e2))
theorem q_three {R1 R2 R3 : Reg} {i j l : Nat} (h1 : EvG ta σ H (Rg K R1)) (h2 : EvG tb σ H (Rg K R2)) (h3 : EvG tc σ H (Rg K R3)) (k : ∀ x y z H1, Ex H H1 → RegAt K H1 x R1 → RegAt K H1 y R2 → RegAt K H1 z R3 → w D (((σ.set i (some x)).set j (some y)).set l (some z)) H1) :
    tSeq (tAsg (tTup (tCons ta (tCons tb (tCons tc tNil)))) (gTup K 3 (gCons (gName i) (gCons (gName j) (gCons (gName l) gNil))))) w D σ H := h1 H (Ex.refl _) _ fun x H1 e1 g1 => h2 H1 e1 _ fun y H2 e2 g2 => h3 H2 (e1.trans e2) _ fun z H3 e3 g3 => ⟨sz_of (by show 3 ≤ 100000; decide), fun p np => by
    have e4 : Ex H3 (upd H3 p (.tup [x, y, z])) := Ex.new np
    exact ⟨p, [x, y, z], rfl, st_of upd_same, rfl, x, [y, z], rfl, y, [z], rfl, z, [], rfl, rfl, k x y z _ (((e1.trans e2).trans e3).trans e4) (RegAt.mono ((e2.trans e3).trans e4) g1) (RegAt.mono (e3.trans e4) g2) (RegAt.mono e4 g3)⟩⟩
theorem ev_floorC {k : Kd} {zs : List Int} {s : Str} {E : XK} (hr : EvG tr σ H (Rg K R)) (hv : EvG tv σ H (Vc K zs)) (ft : Fit R zs) (hs : s = k.s := by rfl) : Ev (tCall (spF (preFloor K)) [] E (tCons (tC (.str s)) (tCons tr (tCons tv tNil)))) σ H (.int (floorOf k R zs)) := fun H1 e Q q =>
  hr H1 e _ fun r H2 e2 g => hv H2 (e.trans e2) _ fun v H3 e3 g2 => ⟨_, ⟨k, r, v, R, zs, by rw [hs] <;> rfl, RegAt.mono e3 g, g2, ft, rfl⟩, fun H4 e4 => q H4 ((e2.trans e3).trans e4)⟩
theorem ev_ceilC {k : Kd} {zs : List Int} {s : Str} {E : XK} (hr : EvG tr σ H (Rg K R)) (hv : EvG tv σ H (Vc K zs)) (ft : Fit R zs) (hs : s = k.s := by rfl) : Ev (tCall (spF (preCeil K)) [] E (tCons (tC (.str s)) (tCons tr (tCons tv tNil)))) σ H (.int (ceilOf k R zs)) := fun H1 e Q q =>
  hr H1 e _ fun r H2 e2 g => hv H2 (e.trans e2) _ fun v H3 e3 g2 => ⟨_, ⟨k, r, v, R, zs, by rw [hs] <;> rfl, RegAt.mono e3 g, g2, ft, rfl⟩, fun H4 e4 => q H4 ((e2.trans e3).trans e4)⟩
/-- a number is asked to be other than it is -/
theorem et_neI {i j : Int} (ha : Ev ta σ H (.int i)) (h : i = j) : EvT (tTest (tOp rNe ta (tC (.int j)))) σ H false := et_sameI ha (h ▸ ev_c)
theorem ev_eqI {i j : Int} (ha : Ev ta σ H (.int i)) (h : i = j) : Ev (tOp rEq ta (tC (.int j))) σ H (.bl true) := ev_is (ev_op ha (ev_c (v := .int j)) (rv_eq rfl)) (by rw [h, decide_eq_true rfl])
theorem et_notT (h : EvT t σ H true) : EvT (tNot t) σ H false := et_not h
theorem et_or3 {t1 t2 t3 : TT} (h1 : EvT t1 σ H false) (h2 : EvT t2 σ H false) (h3 : EvT t3 σ H false) : EvT (tOr t1 (tOr t2 t3)) σ H false := et_or (a := false) (b := false) h1 fun _ => et_or (a := false) (b := false) h2 fun _ => h3
end
theorem bd2 {a b : Int} (h : (-20000 ≤ a ∧ a ≤ 20000) ∧ -20000 ≤ b ∧ b ≤ 20000) : Bd [a, b] := fun z hz => by
  rcases List.mem_cons.mp hz with rfl | hz
  · exact h.1
  · rw [List.mem_singleton.mp hz]
    exact h.2
theorem fit_ball {a b r c d : Int} (h : (-20000 ≤ a ∧ a ≤ 20000) ∧ -20000 ≤ b ∧ b ≤ 20000) (h2 : (-20000 ≤ c ∧ c ≤ 20000) ∧ -20000 ≤ d ∧ d ≤ 20000) (hr : 0 ≤ r ∧ r ≤ 30000000) : Fit (.ball [a, b] r) [c, d] := ⟨⟨rfl, hr.1⟩, by show 0 < 2; decide, by show 2 ≤ 8; decide, ⟨bd2 h, hr.2⟩, bd2 h2⟩
theorem fit_cell {a b l r c d : Int} (h : (-20000 ≤ a ∧ a ≤ 20000) ∧ -20000 ≤ b ∧ b ≤ 20000) (h2 : (-20000 ≤ c ∧ c ≤ 20000) ∧ -20000 ≤ d ∧ d ≤ 20000) (hr : 0 ≤ l ∧ l ≤ r ∧ r ≤ 30000000) : Fit (.cell [a, b] l r) [c, d] := ⟨⟨rfl, hr.1, hr.2.1⟩, by show 0 < 2; decide, by show 2 ≤ 8; decide, ⟨bd2 h, hr.2.2⟩, bd2 h2⟩
theorem fit_box {a b e f c d : Int} (h : (-20000 ≤ a ∧ a ≤ 20000) ∧ -20000 ≤ b ∧ b ≤ 20000) (h3 : (-20000 ≤ e ∧ e ≤ 20000) ∧ -20000 ≤ f ∧ f ≤ 20000) (h2 : (-20000 ≤ c ∧ c ≤ 20000) ∧ -20000 ≤ d ∧ d ≤ 20000) (hr : a ≤ e ∧ b ≤ f) : Fit (.box [a, b] [e, f]) [c, d] :=
  ⟨⟨rfl, rfl, fun i x y hx hy => by
    match i, hx, hy with
    | 0, hx, hy =>
      rw [← Option.some.inj hx, ← Option.some.inj hy]
      exact hr.1
    | 1, hx, hy =>
      rw [← Option.some.inj hx, ← Option.some.inj hy]
      exact hr.2
    | i + 2, hx, _ => exact absurd hx (by simp)⟩, by show 0 < 2; decide, by show 2 ≤ 8; decide, ⟨bd2 h, bd2 h3⟩, bd2 h2⟩
section
variable {P : Program} {w : World} {K : PySem.W.Frag} {mg : Str → Option Value} {base : Heap}
abbrev s_law : Stmt := topS 40
abbrev N_law : List Str := ["_law_script", "_law_heap_here", "_law_turn", "_law_places", "_law_far", "_law_kind", "_law_region_here", "_law_near", "_law_vector", "_law_kept", "_law_ball", "_law_box", "_law_cell", "_law_part_here"]
abbrev p_law : List Str := ["_law_script"]
theorem sc_law : FnScope N_law p_law (defScope s_law) := ⟨rfl, rfl, rfl, by decide +kernel, rfl, by decide +kernel, by decide +kernel⟩

theorem run_law {fa a k_KINDS : Addr} {s : Shared} {H : Hp} {ns : List Int} (F : FunX K mg "law" s_law p_law) (hf : mg "law" = some (.ref fa)) (T : Gs mg) (gKINDS : mg "KINDS" = some (.ref k_KINDS)) (kt : ∀ H, SqT K H k_KINDS [.str "square", .str "sum", .str "most", .str "unlike"])
    (D_law_heap : Def P w K mg base 1 "_law_heap" p__law_heap (spHeap K)) (D_law_draw : Def P w K mg base 1 "_law_draw" p__law_draw spDraw) (D_law_pick : Def P w K mg base 2 "_law_pick" p__law_pick (spPick K)) (D_law_region : Def P w K mg base 3 "_law_region" p__law_region (spRegion K))
    (D_law_right : Def P w K mg base 6 "_law_right" p__law_right (spF (preRight K))) (Dfloor_of : Def P w K mg base 5 "floor_of" p_floor_of (spF (preFloor K))) (Dceiling_of : Def P w K mg base 5 "ceiling_of" p_ceiling_of (spF (preCeil K)))
    (e0 : Env0 P w K mg base callerA [] s H) (ha : SqL K H a (vi ns)) (hl : ns.length ≤ 63) : codeAny (model P w) callerA (.call (.ref fa) ⟨[.ref a], []⟩) (CR CX0 [] P w H s (fun v _ => v = .bl true) E0) s := by
  obtain ⟨f, fd, F1, hm, hb⟩ := F
  have ef : f = fa := by
    rw [hm] at hf
    cases hf
    rfl
  subst ef
  have kin := e0.mod.kin.keeps fun b o e => (e0.bs b o e).1
  refine run_at (us := [.ref a]) (vs := [.ref a]) F1 sc_law (k := 6) ⟨rfl, by decide, by decide⟩ e0 (hb s [.ref a] kin rfl) (.cons rfl .nil) rfl fun cdv hr => ?_
  have nd := sc_law.nd
  refine ⟨_, (pss_cons (ps_set (i := 1) nd rfl (Or.inr rfl) (pe_D D_law_heap (hr.mono (by decide)) (pa_cons (pv 0) pa_nil)))
    (pss_cons (ps_for PassesOwn.never rfl (pi_range1 rfl T.n_range (pa_cons (pe_op op_add pe_int (pe_callTy call_int1 (by rfl) T.n_int (by decide +kernel) (pa_cons (pe_cmpR op_gt (pe_callB (call_lenK K) (by rfl) T.n_len PySem.boot_len (pa_cons (pv 0) pa_nil)) pe_int (nomark _)) pa_nil))) pa_nil)) (pg_name (i := 2) nd rfl (Or.inl rfl)) (pss_cons (ps_asg (pe_tup (pa_cons (pe_D D_law_pick (hr.mono (by decide)) (pa_cons (pv 1) (pa_cons (pe_lst (pa_cons pe_int (pa_cons pe_int (pa_cons pe_int (pa_cons pe_int (pa_cons pe_int (pa_cons pe_int pa_nil))))))) pa_nil))) (pa_cons (pe_D D_law_pick (hr.mono (by decide)) (pa_cons (pv 1) (pa_cons (pe_lst (pa_cons pe_int (pa_cons pe_int (pa_cons pe_int (pa_cons pe_int pa_nil))))) pa_nil))) pa_nil))) (pg_tupK K 2 (pgs_cons (pg_name (i := 3) nd rfl (Or.inl rfl)) (pgs_cons (pg_name (i := 4) nd rfl (Or.inr rfl)) pgs_nil))))
    (pss_one (ps_for PassesOwn.never rfl (pi_tupK K (pe_glob (v := .ref k_KINDS) rfl gKINDS rfl)) (pg_name (i := 5) nd rfl (Or.inl rfl)) (pss_cons (ps_set (i := 6) nd rfl (Or.inl rfl) (pe_D D_law_region (hr.mono (by decide)) (pa_cons (pv 1) (pa_cons (pv 5) (pa_cons (pv 3) (pa_cons (pv 4) pa_nil))))))
    (pss_cons (ps_set (i := 7) nd rfl (Or.inl rfl) (pe_callTy (call_tupK K) (by rfl) T.n_tuple (by decide +kernel) (pa_cons (pe_lc (own := [("_law_part_here", 13)]) (g := gName 13) rfl nd (pi_tupK K (pe_ix (ix_tupK K) (pv 6) pe_int (fun _ _ => rfl))) (blkOk_by (own := [("_law_part_here", 13)]) (N := N_law) (sc := defScope s_law) (by decide +kernel)) (fun _ _ _ _ _ => pg_name (i := 13) nd rfl (Or.inl rfl)) (fun _ _ _ _ _ => pts_nil) (fun _ _ _ _ _ => pe_op op_sub (pe_op op_add (pv 13) (pe_D D_law_draw (hr.mono (by decide)) (pa_cons (pv 1) (pa_cons pe_int pa_nil)))) pe_int)) pa_nil)))
    (pss_cons (ps_set (i := 8) nd rfl (Or.inl rfl) (pe_D D_law_pick (hr.mono (by decide)) (pa_cons (pv 1) (pa_cons (pe_lst (pa_cons (pe_ix (ix_tupK K) (pv 6) pe_int (fun _ _ => rfl)) (pa_cons (pv 7) (pa_cons (pv 7) (pa_cons (pe_callTy (call_tupK K) (by rfl) T.n_tuple (by decide +kernel) (pa_cons (pe_lc (own := [("_law_part_here", 13)]) (g := gName 13) rfl nd (pi_tupK K (pv 7)) (blkOk_by (own := [("_law_part_here", 13)]) (N := N_law) (sc := defScope s_law) (by decide +kernel)) (fun _ _ _ _ _ => pg_name (i := 13) nd rfl (Or.inl rfl)) (fun _ _ _ _ _ => pts_nil) (fun _ _ _ _ _ => pe_op op_sub (pe_D D_law_draw (hr.mono (by decide)) (pa_cons (pv 1) (pa_cons (pe_op op_add (pe_op op_mul pe_int (pv 4)) pe_int) pa_nil))) (pv 4))) pa_nil)) pa_nil))))) pa_nil))))
    (pss_cons (ps_set (i := 9) nd rfl (Or.inl rfl) (pe_callB (cr_reprT K rfl (units_of hr)) (by rfl) T.n_repr (by decide +kernel) (pa_cons (pv 6) pa_nil)))
    (pss_one (ps_if (PW.pt (pw_or (pt_not (pt_val (pe_D D_law_right (hr.mono (by decide)) (pa_cons (pv 5) (pa_cons (pv 6) (pa_cons (pv 8) pa_nil)))))) (pw_or (pt_not (pt_val (pe_D D_law_right (hr.mono (by decide)) (pa_cons (pv 5) (pa_cons (pv 6) (pa_cons (pv 7) pa_nil)))))) (pw_or1 (pt_cmpR op_ne (pe_callB (cr_reprT K rfl (units_of hr)) (by rfl) T.n_repr (by decide +kernel) (pa_cons (pv 6) pa_nil)) (pv 9) (nomark _)))))) (pss_one (ps_ret pe_bl)) pss_nil))))))))))
    (pss_cons (ps_asg (pe_tup (pa_cons (pe_tup (pa_cons pe_str (pa_cons (pe_tup (pa_cons pe_int (pa_cons pe_int pa_nil))) (pa_cons pe_int pa_nil)))) (pa_cons (pe_tup (pa_cons pe_str (pa_cons (pe_tup (pa_cons pe_int (pa_cons pe_int pa_nil))) (pa_cons (pe_tup (pa_cons pe_int (pa_cons pe_int pa_nil))) pa_nil)))) (pa_cons (pe_tup (pa_cons pe_str (pa_cons (pe_tup (pa_cons pe_int (pa_cons pe_int pa_nil))) (pa_cons pe_int (pa_cons pe_int pa_nil))))) pa_nil)))) (pg_tupK K 3 (pgs_cons (pg_name (i := 10) nd rfl (Or.inl rfl)) (pgs_cons (pg_name (i := 11) nd rfl (Or.inl rfl)) (pgs_cons (pg_name (i := 12) nd rfl (Or.inl rfl)) pgs_nil)))))
    (pss_cons (ps_if (PW.pt (pw_or (pt_cmpR op_ne (pe_D Dfloor_of (hr.mono (by decide)) (pa_cons pe_str (pa_cons (pv 10) (pa_cons (pe_tup (pa_cons pe_int (pa_cons pe_int pa_nil))) pa_nil)))) pe_int (nomark _)) (pw_or (pt_cmpR op_ne (pe_D Dceiling_of (hr.mono (by decide)) (pa_cons pe_str (pa_cons (pv 10) (pa_cons (pe_tup (pa_cons pe_int (pa_cons pe_int pa_nil))) pa_nil)))) pe_int (nomark _)) (pw_or1 (pt_cmpR op_ne (pe_D Dfloor_of (hr.mono (by decide)) (pa_cons pe_str (pa_cons (pv 12) (pa_cons (pe_tup (pa_cons pe_int (pa_cons pe_int pa_nil))) pa_nil)))) pe_int (nomark _)))))) (pss_one (ps_ret pe_bl)) pss_nil)
    (pss_cons (ps_if (PW.pt (pw_or (pt_cmpR op_ne (pe_D Dfloor_of (hr.mono (by decide)) (pa_cons pe_str (pa_cons (pv 11) (pa_cons (pe_tup (pa_cons pe_int (pa_cons pe_int pa_nil))) pa_nil)))) pe_int (nomark _)) (pw_or (pt_cmpR op_ne (pe_D Dceiling_of (hr.mono (by decide)) (pa_cons pe_str (pa_cons (pv 11) (pa_cons (pe_tup (pa_cons pe_int (pa_cons pe_int pa_nil))) pa_nil)))) pe_int (nomark _)) (pw_or1 (pt_cmpR op_ne (pe_D Dfloor_of (hr.mono (by decide)) (pa_cons pe_str (pa_cons (pv 11) (pa_cons (pe_tup (pa_cons pe_int (pa_cons pe_int pa_nil))) pa_nil)))) pe_int (nomark _)))))) (pss_one (ps_ret pe_bl)) pss_nil)
    (pss_cons (ps_if (PW.pt (pw_or (pt_cmpR op_ne (pe_D Dceiling_of (hr.mono (by decide)) (pa_cons pe_str (pa_cons (pv 11) (pa_cons (pe_tup (pa_cons pe_int (pa_cons pe_int pa_nil))) pa_nil)))) pe_int (nomark _)) (pw_or (pt_cmpR op_ne (pe_D Dceiling_of (hr.mono (by decide)) (pa_cons pe_str (pa_cons (pe_tup (pa_cons pe_str (pa_cons (pe_tup (pa_cons pe_int (pa_cons pe_int pa_nil))) (pa_cons (pe_tup (pa_cons pe_int (pa_cons pe_int pa_nil))) pa_nil)))) (pa_cons (pe_tup (pa_cons pe_int (pa_cons pe_int pa_nil))) pa_nil)))) pe_int (nomark _)) (pw_or1 (pt_cmpR op_ne (pe_D Dceiling_of (hr.mono (by decide)) (pa_cons pe_str (pa_cons (pv 10) (pa_cons (pe_tup (pa_cons pe_int (pa_cons pe_int pa_nil))) pa_nil)))) pe_int (nomark _)))))) (pss_one (ps_ret pe_bl)) pss_nil)
    (pss_one (ps_ret (pe_and (pe_cmpR op_eq (pe_D Dfloor_of (hr.mono (by decide)) (pa_cons pe_str (pa_cons (pv 12) (pa_cons (pe_tup (pa_cons pe_int (pa_cons pe_int pa_nil))) pa_nil)))) pe_int (nomark _)) (pe_and (pe_cmpR op_eq (pe_D Dfloor_of (hr.mono (by decide)) (pa_cons pe_str (pa_cons (pe_tup (pa_cons pe_str (pa_cons (pe_tup (pa_cons pe_int (pa_cons pe_int pa_nil))) (pa_cons pe_int pa_nil)))) (pa_cons (pe_tup (pa_cons pe_int (pa_cons pe_int pa_nil))) pa_nil)))) pe_int (nomark _)) (pe_one (pe_cmpR op_eq (pe_D Dfloor_of (hr.mono (by decide)) (pa_cons pe_str (pa_cons (pv 12) (pa_cons (pe_tup (pa_cons pe_int (pa_cons pe_int pa_nil))) pa_nil)))) pe_int (nomark _))))))))))))), ?_⟩
  -- the source of draws
  refine q_asgH rfl ha hl fun hp ip H1 e1 hs1 => ?_
  refine q_for (fun σ' H' => Src H' hp ip ∧ ∃ x2 x3 x4 x5 x6 x7 x8 x9 xa xb xc xd : Option V, σ' = [some (.ref a), some (.ref hp), x2, x3, x4, x5, x6, x7, x8, x9, xa, xb, xc, xd]) (fun nxt hn => ?_) (fun σ' H' hP => ?_)
  · refine s_forR1 (n := 1 + (if decide ((ns.length : Int) > 2) = true then 1 else 0)) (ea_cons (ev_add ev_c (ev_intB (ev_cmpI (ev_lenL (n := ns.length) (ev_var rfl) (ex_l e1 ha) (by rw [List.length_map])) ev_c))) ea_nil) (by split <;> omega)
      (fun i σ' H' => Src H' hp ip ∧ ∃ x2 x3 x4 x5 x6 x7 x8 x9 xa xb xc xd : Option V, σ' = [some (.ref a), some (.ref hp), x2, x3, x4, x5, x6, x7, x8, x9, xa, xb, xc, xd])
      (fun H2 e2 => ⟨hs1.mono e2, none, none, none, none, none, none, none, none, none, none, none, none, rfl⟩) (fun i σ' H' hi hP => ?_) (fun σ' H' hP => hn _ _ hP)
    obtain ⟨s1, x2, x3, x4, x5, x6, x7, x8, x9, xa, xb, xc, xd, rfl⟩ := hP
    refine q_pairD (B1 := IntIn 1 8) (B2 := IntIn 3 4900) s1 IntIn.x IntIn.x
      (dr_pick (n := 6) IntIn.x rfl (da_cons IntIn.x (dr_lit ⟨by decide, by decide⟩) (da_cons IntIn.x (dr_lit ⟨by decide, by decide⟩) (da_cons IntIn.x (dr_lit ⟨by decide, by decide⟩) (da_cons IntIn.x (dr_lit ⟨by decide, by decide⟩) (da_cons IntIn.x (dr_lit ⟨by decide, by decide⟩) (da_cons IntIn.x (dr_lit ⟨by decide, by decide⟩) da_nil)))))) ⟨by decide, by decide⟩)
      (dr_pick (n := 4) IntIn.x rfl (da_cons IntIn.x (dr_lit ⟨by decide, by decide⟩) (da_cons IntIn.x (dr_lit ⟨by decide, by decide⟩) (da_cons IntIn.x (dr_lit ⟨by decide, by decide⟩) (da_cons IntIn.x (dr_lit ⟨by decide, by decide⟩) da_nil)))) ⟨by decide, by decide⟩) fun v1 v2 H2 e2 s2 b1 b2 => ?_
    obtain ⟨n', rfl, n1, n2⟩ := b1
    obtain ⟨far, rfl, f1, f2⟩ := b2
    obtain ⟨n, rfl⟩ : ∃ n : Nat, n' = (n : Int) := ⟨n'.toNat, by omega⟩
    have hn8 : 1 ≤ n ∧ n ≤ 8 := by omega
    refine s_forT (a := k_KINDS) (xs := [.str "square", .str "sum", .str "most", .str "unlike"]) ev_c (kt H2)
      (fun i σ' H' => Src H' hp ip ∧ ∃ x2 x5 x6 x7 x8 x9 xa xb xc xd : Option V, σ' = [some (.ref a), some (.ref hp), x2, some (.int (n : Int)), some (.int far), x5, x6, x7, x8, x9, xa, xb, xc, xd])
      (fun H3 e3 => ⟨s2.mono e3, _, _, _, _, _, _, _, _, _, _, rfl⟩) (fun i σ' H' _ _ => kt H') (fun i x σ' H' hi hP => ?_) (fun σ' H' hP => ?_)
    · obtain ⟨s3, y2, y5, y6, y7, y8, y9, ya, yb, yc, yd, rfl⟩ := hP
      obtain ⟨k, rfl⟩ : ∃ k : Kd, x = .str k.s := by
        match i, hi with
        | 0, hi => exact ⟨.sq, (Option.some.inj hi).symm⟩
        | 1, hi => exact ⟨.su, (Option.some.inj hi).symm⟩
        | 2, hi => exact ⟨.mo, (Option.some.inj hi).symm⟩
        | 3, hi => exact ⟨.un, (Option.some.inj hi).symm⟩
        | i + 4, hi => exact absurd hi (by simp)
      show tSeq _ _ _ _ _
      -- the region
      refine q_asgD (B := RgF K n) s3 (dr_region (k := k) rfl rfl rfl rfl hn8 ⟨f1, f2⟩) fun r H4 e4 s4 hR => ?_
      obtain ⟨R, hR, fR⟩ := hR
      obtain ⟨ra, rb, rest, er, h1, hb'⟩ := hR.parts
      have lR := fR.len
      -- a near vector
      refine q_asgD (B := VcF K n) s4 ((dr_tup (C := fun _ m => -10000 ≤ m ∧ m ≤ 10000) (dl_T (u := rb) (fun H5 e5 s5 => ev_ixT (j := 1) (ev_var (by rw [er] <;> rfl)) ev_c (sqt_x s4 e5 h1) rfl) hb' s4 (by omega) (fun _ => rfl) fun i p H5 e5 hp => by
          have bp := fR.mid p (List.mem_of_getElem? hp)
          exact (dr_sub (dr_add (dr_int (i := p) (a := p) (b := p) (fun _ _ _ => ev_var rfl) ⟨by omega, by omega⟩) (dr_draw (many := 9) rfl (fun _ _ _ => ev_c) ⟨by decide, by decide⟩)) (dr_lit (i := 4) (a := 4) (b := 4) ⟨by decide, by decide⟩)).imp fun v _ ⟨m, e, m1, m2⟩ => ⟨m, e, by omega, by omega⟩)).imp fun v H5 ⟨ms, h, l, c⟩ => ⟨ms, h, by omega, bt_of c (by decide) (by decide)⟩) fun near H5 e5 s5 hN => ?_
      obtain ⟨us, hN, lN, bN⟩ := hN
      -- the vector
      refine q_asgD (B := VcF K n) s5 (dr_pick (n := 4) VcF.x rfl (da_cons VcF.x (dr_of (v := rb) (fun H6 e6 s6 => ev_ixT (j := 1) (ev_var (by rw [er] <;> rfl)) ev_c (sqt_x s5 e6 (sqt_x s4 e5 h1)) rfl) fun H6 e6 s6 => ⟨R.one, (hb'.x s4 e5).x s5 e6, lR, fR.one⟩) (da_cons VcF.x (dr_of (fun _ _ _ => ev_var rfl) fun H6 e6 s6 => ⟨us, hN.x s5 e6, lN, bN⟩) (da_cons VcF.x (dr_of (fun _ _ _ => ev_var rfl) fun H6 e6 s6 => ⟨us, hN.x s5 e6, lN, bN⟩)
        (da_cons VcF.x ((dr_tup (C := fun _ m => -10000 ≤ m ∧ m ≤ 10000) (dl_T (u := near) (fun _ _ _ => ev_var rfl) hN s5 (by omega) (fun _ => rfl) fun i p H6 e6 hp => (dr_sub (dr_draw (many := 2 * far + 1) rfl (fun _ _ _ => ev_add (ev_mul ev_c (ev_var rfl) (.inl ⟨by decide, by decide⟩)) ev_c) ⟨by omega, by omega⟩) (dr_int (i := far) (a := far) (b := far) (fun _ _ _ => ev_var rfl) ⟨by omega, by omega⟩)).imp fun v _ ⟨m, e, m1, m2⟩ => ⟨m, e, by omega, by omega⟩)).imp fun v H6 ⟨ms, h, l, c⟩ => ⟨ms, h, by omega, bt_of c (by decide) (by decide)⟩) da_nil)))) ⟨by decide, by decide⟩) fun vec H6 e6 s6 hV => ?_
      obtain ⟨zs, hV, lV, bV⟩ := hV
      have hR6 := (hR.x s4 e5).x s5 e6
      have hN6 := hN.x s5 e6
      have ft1 := fR.fit hn8 lV bV
      have ft2 := fR.fit hn8 lN bN
      -- the text, and what is asked
      refine q_asg (ev_reprR (ev_var rfl) hR6 fR hn8.2) fun H7 e7 => ?_
      refine s_if (et_or3 (et_notT (et_B (ev_call (ea_cons (ev_var rfl) (ea_cons (ev_var rfl) (ea_cons (ev_var rfl) ea_nil))) (spF_v fun H8 e8 => ⟨k, r, vec, R, zs, rfl, hR6.mono (e7.trans e8), hV.mono (e7.trans e8), ft1, rfl⟩))))
        (et_notT (et_B (ev_call (ea_cons (ev_var rfl) (ea_cons (ev_var rfl) (ea_cons (ev_var rfl) ea_nil))) (spF_v fun H8 e8 => ⟨k, r, near, R, us, rfl, hR6.mono (e7.trans e8), hN6.mono (e7.trans e8), ft2, rfl⟩))))
        (et_same (ev_reprR (ev_var rfl) (hR6.mono e7) fR hn8.2) (ev_var rfl))) (fun e => by cases e) (fun _ H8 e8 => ⟨s6.mono (e7.trans e8), _, _, _, _, _, _, _, _, _, _, rfl⟩)
    · obtain ⟨s3, y2, y5, y6, y7, y8, y9, ya, yb, yc, yd, rfl⟩ := hP
      exact ⟨s3, _, _, _, _, _, _, _, _, _, _, _, _, rfl⟩
  · obtain ⟨s1, x2, x3, x4, x5, x6, x7, x8, x9, xa, xb, xc, xd, rfl⟩ := hP
    refine q_three (evg_ball evg_2) (evg_box evg_2 evg_2) (evg_cell evg_2) fun ball box cell H2 e2 h1 h2 h3 => ?_
    refine q_if (et_or3 (et_neI (ev_floorC (k := .sq) (evg_reg (ev_var rfl) h1) evg_2 (fit_ball (by decide) (by decide) (by decide))) (by decide +kernel)) (et_neI (ev_ceilC (k := .sq) (evg_reg (ev_var rfl) h1) evg_2 (fit_ball (by decide) (by decide) (by decide))) (by decide +kernel)) (et_neI (ev_floorC (k := .sq) (evg_reg (ev_var rfl) h3) evg_2 (fit_cell (by decide) (by decide) (by decide))) (by decide +kernel))) (fun e => by cases e) fun _ H3 e3 => ?_
    have k1 := h1.mono e3
    have k2 := h2.mono e3
    have k3 := h3.mono e3
    refine q_if (et_or3 (et_neI (ev_floorC (k := .su) (evg_reg (ev_var rfl) k2) evg_2 (fit_box (by decide) (by decide) (by decide) (by decide))) (by decide +kernel)) (et_neI (ev_ceilC (k := .mo) (evg_reg (ev_var rfl) k2) evg_2 (fit_box (by decide) (by decide) (by decide) (by decide))) (by decide +kernel)) (et_neI (ev_floorC (k := .un) (evg_reg (ev_var rfl) k2) evg_2 (fit_box (by decide) (by decide) (by decide) (by decide))) (by decide +kernel))) (fun e => by cases e) fun _ H4 e4 => ?_
    have l1 := k1.mono e4
    have l2 := k2.mono e4
    have l3 := k3.mono e4
    refine q_if (et_or3 (et_neI (ev_ceilC (k := .un) (evg_reg (ev_var rfl) l2) evg_2 (fit_box (by decide) (by decide) (by decide) (by decide))) (by decide +kernel)) (et_neI (ev_ceilC (k := .un) (evg_box evg_2 evg_2) evg_2 (fit_box (by decide) (by decide) (by decide) (by decide))) (by decide +kernel)) (et_neI (ev_ceilC (k := .un) (evg_reg (ev_var rfl) l1) evg_2 (fit_ball (by decide) (by decide) (by decide))) (by decide +kernel))) (fun e => by cases e) fun _ H5 e5 => ?_
    have m3 := l3.mono e5
    exact s_ret (ev_andV (a := true) (b := true) (ev_eqI (ev_floorC (k := .sq) (evg_reg (ev_var rfl) m3) evg_2 (fit_cell (by decide) (by decide) (by decide))) (by decide +kernel)) fun _ => ev_andV (a := true) (b := true) (ev_eqI (ev_floorC (k := .sq) (evg_ball evg_2) evg_2 (fit_ball (by decide) (by decide) (by decide))) (by decide +kernel)) fun _ => ev_eqI (ev_floorC (k := .mo) (evg_reg (ev_var rfl) m3) evg_2 (fit_cell (by decide) (by decide) (by decide))) (by decide +kernel)) fun H6 e6 => rfl
end
end K21
/-! F11: all defs, one after another. -/
namespace K21
open PySem PySem.Spec PyProof.Rows L2 Evl
section
variable {P : Program} {w : World} {K : PySem.W.Frag} {mg : Str → Option Value} {h base : Heap}
/-- one def as the top leaves it -/
theorem funx_mk {x : Str} {st : Stmt} {ps : List Str} {f : Addr} {oc : Value} {od an : Option Addr} {osl : Array (Option Value)} {kV doc pm cdv ct : Value} (X : K.In h) (G : h.Ns mainGlobals mg)
    (b : ∀ (kV doc pm : Value) (an : Option Addr) (cdv ct : Value) (us : List Value), us.length = ps.length → bindArgs (PySem.W.fnOf x x (defArgs st) (defBody st) (defScope st) .none kV doc pm an cdv ct) ⟨us, []⟩ = pure (ps.zip us))
    (a : PySem.W.nsIn K mainGlobals x = some (some (.ref f))) (l : K.lookup f = some ⟨oc, od, .func (PySem.W.fnOf x x (defArgs st) (defBody st) (defScope st) .none kV doc pm an cdv ct), osl⟩)
    (c : PySem.W.codeIn K cdv x = true) (k : PySem.W.keepIn K (.ref f) = true) : FunX K mg x st ps := ⟨f, _, fun_mk l c k, PySem.W.mg_of X G a, Fun.binds (fun_mk l c k) b⟩

theorem b_differences (kV doc pm : Value) (an : Option Addr) (cdv ct : Value) (us : List Value) (hl : us.length = p_differences.length) : bindArgs (PySem.W.fnOf "differences" "differences" (defArgs s_differences) (defBody s_differences) (defScope s_differences) .none kV doc pm an cdv ct) ⟨us, []⟩ = pure (p_differences.zip us) := match us, hl with
  | [_, _], _ => rfl
theorem b_part_of (kV doc pm : Value) (an : Option Addr) (cdv ct : Value) (us : List Value) (hl : us.length = p_part_of.length) : bindArgs (PySem.W.fnOf "part_of" "part_of" (defArgs s_part_of) (defBody s_part_of) (defScope s_part_of) .none kV doc pm an cdv ct) ⟨us, []⟩ = pure (p_part_of.zip us) := match us, hl with
  | [_, _], _ => rfl
theorem b_joined_parts (kV doc pm : Value) (an : Option Addr) (cdv ct : Value) (us : List Value) (hl : us.length = p_joined_parts.length) : bindArgs (PySem.W.fnOf "joined_parts" "joined_parts" (defArgs s_joined_parts) (defBody s_joined_parts) (defScope s_joined_parts) .none kV doc pm an cdv ct) ⟨us, []⟩ = pure (p_joined_parts.zip us) := match us, hl with
  | [_, _], _ => rfl
theorem b_distance (kV doc pm : Value) (an : Option Addr) (cdv ct : Value) (us : List Value) (hl : us.length = p_distance.length) : bindArgs (PySem.W.fnOf "distance" "distance" (defArgs s_distance) (defBody s_distance) (defScope s_distance) .none kV doc pm an cdv ct) ⟨us, []⟩ = pure (p_distance.zip us) := match us, hl with
  | [_, _, _], _ => rfl
theorem b_doubled_root (kV doc pm : Value) (an : Option Addr) (cdv ct : Value) (us : List Value) (hl : us.length = p_doubled_root.length) : bindArgs (PySem.W.fnOf "doubled_root" "doubled_root" (defArgs s_doubled_root) (defBody s_doubled_root) (defScope s_doubled_root) .none kV doc pm an cdv ct) ⟨us, []⟩ = pure (p_doubled_root.zip us) := match us, hl with
  | [_, _], _ => rfl
theorem b_gap_of (kV doc pm : Value) (an : Option Addr) (cdv ct : Value) (us : List Value) (hl : us.length = p_gap_of.length) : bindArgs (PySem.W.fnOf "gap_of" "gap_of" (defArgs s_gap_of) (defBody s_gap_of) (defScope s_gap_of) .none kV doc pm an cdv ct) ⟨us, []⟩ = pure (p_gap_of.zip us) := match us, hl with
  | [_, _, _], _ => rfl
theorem b_least_beyond (kV doc pm : Value) (an : Option Addr) (cdv ct : Value) (us : List Value) (hl : us.length = p_least_beyond.length) : bindArgs (PySem.W.fnOf "least_beyond" "least_beyond" (defArgs s_least_beyond) (defBody s_least_beyond) (defScope s_least_beyond) .none kV doc pm an cdv ct) ⟨us, []⟩ = pure (p_least_beyond.zip us) := match us, hl with
  | [_, _, _], _ => rfl
theorem b_most_beyond (kV doc pm : Value) (an : Option Addr) (cdv ct : Value) (us : List Value) (hl : us.length = p_most_beyond.length) : bindArgs (PySem.W.fnOf "most_beyond" "most_beyond" (defArgs s_most_beyond) (defBody s_most_beyond) (defScope s_most_beyond) .none kV doc pm an cdv ct) ⟨us, []⟩ = pure (p_most_beyond.zip us) := match us, hl with
  | [_, _, _], _ => rfl
theorem b_shell_of (kV doc pm : Value) (an : Option Addr) (cdv ct : Value) (us : List Value) (hl : us.length = p_shell_of.length) : bindArgs (PySem.W.fnOf "shell_of" "shell_of" (defArgs s_shell_of) (defBody s_shell_of) (defScope s_shell_of) .none kV doc pm an cdv ct) ⟨us, []⟩ = pure (p_shell_of.zip us) := match us, hl with
  | [_], _ => rfl
theorem b_gap_to (kV doc pm : Value) (an : Option Addr) (cdv ct : Value) (us : List Value) (hl : us.length = p_gap_to.length) : bindArgs (PySem.W.fnOf "gap_to" "gap_to" (defArgs s_gap_to) (defBody s_gap_to) (defScope s_gap_to) .none kV doc pm an cdv ct) ⟨us, []⟩ = pure (p_gap_to.zip us) := match us, hl with
  | [_, _, _], _ => rfl
theorem b_room_to (kV doc pm : Value) (an : Option Addr) (cdv ct : Value) (us : List Value) (hl : us.length = p_room_to.length) : bindArgs (PySem.W.fnOf "room_to" "room_to" (defArgs s_room_to) (defBody s_room_to) (defScope s_room_to) .none kV doc pm an cdv ct) ⟨us, []⟩ = pure (p_room_to.zip us) := match us, hl with
  | [_, _, _], _ => rfl
theorem b_floor_of_shell (kV doc pm : Value) (an : Option Addr) (cdv ct : Value) (us : List Value) (hl : us.length = p_floor_of_shell.length) : bindArgs (PySem.W.fnOf "floor_of_shell" "floor_of_shell" (defArgs s_floor_of_shell) (defBody s_floor_of_shell) (defScope s_floor_of_shell) .none kV doc pm an cdv ct) ⟨us, []⟩ = pure (p_floor_of_shell.zip us) := match us, hl with
  | [_, _, _, _], _ => rfl
theorem b_capped (kV doc pm : Value) (an : Option Addr) (cdv ct : Value) (us : List Value) (hl : us.length = p_capped.length) : bindArgs (PySem.W.fnOf "capped" "capped" (defArgs s_capped) (defBody s_capped) (defScope s_capped) .none kV doc pm an cdv ct) ⟨us, []⟩ = pure (p_capped.zip us) := match us, hl with
  | [_, _, _], _ => rfl
theorem b_holds_vector (kV doc pm : Value) (an : Option Addr) (cdv ct : Value) (us : List Value) (hl : us.length = p_holds_vector.length) : bindArgs (PySem.W.fnOf "holds_vector" "holds_vector" (defArgs s_holds_vector) (defBody s_holds_vector) (defScope s_holds_vector) .none kV doc pm an cdv ct) ⟨us, []⟩ = pure (p_holds_vector.zip us) := match us, hl with
  | [_, _, _], _ => rfl
theorem b_floor_of (kV doc pm : Value) (an : Option Addr) (cdv ct : Value) (us : List Value) (hl : us.length = p_floor_of.length) : bindArgs (PySem.W.fnOf "floor_of" "floor_of" (defArgs s_floor_of) (defBody s_floor_of) (defScope s_floor_of) .none kV doc pm an cdv ct) ⟨us, []⟩ = pure (p_floor_of.zip us) := match us, hl with
  | [_, _, _], _ => rfl
theorem b_ceiling_of (kV doc pm : Value) (an : Option Addr) (cdv ct : Value) (us : List Value) (hl : us.length = p_ceiling_of.length) : bindArgs (PySem.W.fnOf "ceiling_of" "ceiling_of" (defArgs s_ceiling_of) (defBody s_ceiling_of) (defScope s_ceiling_of) .none kV doc pm an cdv ct) ⟨us, []⟩ = pure (p_ceiling_of.zip us) := match us, hl with
  | [_, _, _], _ => rfl
theorem b__law_part (kV doc pm : Value) (an : Option Addr) (cdv ct : Value) (us : List Value) (hl : us.length = p__law_part.length) : bindArgs (PySem.W.fnOf "_law_part" "_law_part" (defArgs s__law_part) (defBody s__law_part) (defScope s__law_part) .none kV doc pm an cdv ct) ⟨us, []⟩ = pure (p__law_part.zip us) := match us, hl with
  | [_, _, _], _ => rfl
theorem b__law_distance (kV doc pm : Value) (an : Option Addr) (cdv ct : Value) (us : List Value) (hl : us.length = p__law_distance.length) : bindArgs (PySem.W.fnOf "_law_distance" "_law_distance" (defArgs s__law_distance) (defBody s__law_distance) (defScope s__law_distance) .none kV doc pm an cdv ct) ⟨us, []⟩ = pure (p__law_distance.zip us) := match us, hl with
  | [_, _, _], _ => rfl
theorem b__law_root (kV doc pm : Value) (an : Option Addr) (cdv ct : Value) (us : List Value) (hl : us.length = p__law_root.length) : bindArgs (PySem.W.fnOf "_law_root" "_law_root" (defArgs s__law_root) (defBody s__law_root) (defScope s__law_root) .none kV doc pm an cdv ct) ⟨us, []⟩ = pure (p__law_root.zip us) := match us, hl with
  | [_], _ => rfl
theorem b__law_gap (kV doc pm : Value) (an : Option Addr) (cdv ct : Value) (us : List Value) (hl : us.length = p__law_gap.length) : bindArgs (PySem.W.fnOf "_law_gap" "_law_gap" (defArgs s__law_gap) (defBody s__law_gap) (defScope s__law_gap) .none kV doc pm an cdv ct) ⟨us, []⟩ = pure (p__law_gap.zip us) := match us, hl with
  | [_, _, _], _ => rfl
theorem b__law_most (kV doc pm : Value) (an : Option Addr) (cdv ct : Value) (us : List Value) (hl : us.length = p__law_most.length) : bindArgs (PySem.W.fnOf "_law_most" "_law_most" (defArgs s__law_most) (defBody s__law_most) (defScope s__law_most) .none kV doc pm an cdv ct) ⟨us, []⟩ = pure (p__law_most.zip us) := match us, hl with
  | [_, _, _], _ => rfl
theorem b__law_shell (kV doc pm : Value) (an : Option Addr) (cdv ct : Value) (us : List Value) (hl : us.length = p__law_shell.length) : bindArgs (PySem.W.fnOf "_law_shell" "_law_shell" (defArgs s__law_shell) (defBody s__law_shell) (defScope s__law_shell) .none kV doc pm an cdv ct) ⟨us, []⟩ = pure (p__law_shell.zip us) := match us, hl with
  | [_], _ => rfl
theorem b__law_holds (kV doc pm : Value) (an : Option Addr) (cdv ct : Value) (us : List Value) (hl : us.length = p__law_holds.length) : bindArgs (PySem.W.fnOf "_law_holds" "_law_holds" (defArgs s__law_holds) (defBody s__law_holds) (defScope s__law_holds) .none kV doc pm an cdv ct) ⟨us, []⟩ = pure (p__law_holds.zip us) := match us, hl with
  | [_, _, _], _ => rfl
theorem b__law_floor (kV doc pm : Value) (an : Option Addr) (cdv ct : Value) (us : List Value) (hl : us.length = p__law_floor.length) : bindArgs (PySem.W.fnOf "_law_floor" "_law_floor" (defArgs s__law_floor) (defBody s__law_floor) (defScope s__law_floor) .none kV doc pm an cdv ct) ⟨us, []⟩ = pure (p__law_floor.zip us) := match us, hl with
  | [_, _, _], _ => rfl
theorem b__law_ceiling (kV doc pm : Value) (an : Option Addr) (cdv ct : Value) (us : List Value) (hl : us.length = p__law_ceiling.length) : bindArgs (PySem.W.fnOf "_law_ceiling" "_law_ceiling" (defArgs s__law_ceiling) (defBody s__law_ceiling) (defScope s__law_ceiling) .none kV doc pm an cdv ct) ⟨us, []⟩ = pure (p__law_ceiling.zip us) := match us, hl with
  | [_, _, _], _ => rfl
theorem b__law_window (kV doc pm : Value) (an : Option Addr) (cdv ct : Value) (us : List Value) (hl : us.length = p__law_window.length) : bindArgs (PySem.W.fnOf "_law_window" "_law_window" (defArgs s__law_window) (defBody s__law_window) (defScope s__law_window) .none kV doc pm an cdv ct) ⟨us, []⟩ = pure (p__law_window.zip us) := match us, hl with
  | [_, _], _ => rfl
theorem b__law_tried_right (kV doc pm : Value) (an : Option Addr) (cdv ct : Value) (us : List Value) (hl : us.length = p__law_tried_right.length) : bindArgs (PySem.W.fnOf "_law_tried_right" "_law_tried_right" (defArgs s__law_tried_right) (defBody s__law_tried_right) (defScope s__law_tried_right) .none kV doc pm an cdv ct) ⟨us, []⟩ = pure (p__law_tried_right.zip us) := match us, hl with
  | [_, _, _, _, _], _ => rfl
theorem b__law_pick_far (kV doc pm : Value) (an : Option Addr) (cdv ct : Value) (us : List Value) (hl : us.length = p__law_pick_far.length) : bindArgs (PySem.W.fnOf "_law_pick_far" "_law_pick_far" (defArgs s__law_pick_far) (defBody s__law_pick_far) (defScope s__law_pick_far) .none kV doc pm an cdv ct) ⟨us, []⟩ = pure (p__law_pick_far.zip us) := match us, hl with
  | [_, _, _, _], _ => rfl
theorem b__law_box_reached (kV doc pm : Value) (an : Option Addr) (cdv ct : Value) (us : List Value) (hl : us.length = p__law_box_reached.length) : bindArgs (PySem.W.fnOf "_law_box_reached" "_law_box_reached" (defArgs s__law_box_reached) (defBody s__law_box_reached) (defScope s__law_box_reached) .none kV doc pm an cdv ct) ⟨us, []⟩ = pure (p__law_box_reached.zip us) := match us, hl with
  | [_, _, _, _, _], _ => rfl
theorem b__law_right (kV doc pm : Value) (an : Option Addr) (cdv ct : Value) (us : List Value) (hl : us.length = p__law_right.length) : bindArgs (PySem.W.fnOf "_law_right" "_law_right" (defArgs s__law_right) (defBody s__law_right) (defScope s__law_right) .none kV doc pm an cdv ct) ⟨us, []⟩ = pure (p__law_right.zip us) := match us, hl with
  | [_, _, _], _ => rfl
theorem b__law_draw (kV doc pm : Value) (an : Option Addr) (cdv ct : Value) (us : List Value) (hl : us.length = p__law_draw.length) : bindArgs (PySem.W.fnOf "_law_draw" "_law_draw" (defArgs s__law_draw) (defBody s__law_draw) (defScope s__law_draw) .none kV doc pm an cdv ct) ⟨us, []⟩ = pure (p__law_draw.zip us) := match us, hl with
  | [_, _], _ => rfl
theorem b__law_pick (kV doc pm : Value) (an : Option Addr) (cdv ct : Value) (us : List Value) (hl : us.length = p__law_pick.length) : bindArgs (PySem.W.fnOf "_law_pick" "_law_pick" (defArgs s__law_pick) (defBody s__law_pick) (defScope s__law_pick) .none kV doc pm an cdv ct) ⟨us, []⟩ = pure (p__law_pick.zip us) := match us, hl with
  | [_, _], _ => rfl
theorem b__law_heap (kV doc pm : Value) (an : Option Addr) (cdv ct : Value) (us : List Value) (hl : us.length = p__law_heap.length) : bindArgs (PySem.W.fnOf "_law_heap" "_law_heap" (defArgs s__law_heap) (defBody s__law_heap) (defScope s__law_heap) .none kV doc pm an cdv ct) ⟨us, []⟩ = pure (p__law_heap.zip us) := match us, hl with
  | [_], _ => rfl
theorem b__law_region (kV doc pm : Value) (an : Option Addr) (cdv ct : Value) (us : List Value) (hl : us.length = p__law_region.length) : bindArgs (PySem.W.fnOf "_law_region" "_law_region" (defArgs s__law_region) (defBody s__law_region) (defScope s__law_region) .none kV doc pm an cdv ct) ⟨us, []⟩ = pure (p__law_region.zip us) := match us, hl with
  | [_, _, _, _], _ => rfl
theorem b_law (kV doc pm : Value) (an : Option Addr) (cdv ct : Value) (us : List Value) (hl : us.length = p_law.length) : bindArgs (PySem.W.fnOf "law" "law" (defArgs s_law) (defBody s_law) (defScope s_law) .none kV doc pm an cdv ct) ⟨us, []⟩ = pure (p_law.zip us) := match us, hl with
  | [_], _ => rfl
theorem k_floor_of (kV doc pm : Value) (an : Option Addr) (cdv ct : Value) (us ws : List Value) (hl : (us ++ ws.reverse).length = p_floor_of.length) : bindArgs (PySem.W.fnOf "floor_of" "floor_of" (defArgs s_floor_of) (defBody s_floor_of) (defScope s_floor_of) .none kV doc pm an cdv ct) ⟨us, kwNames.zip ws⟩ = pure (p_floor_of.zip (us ++ ws.reverse)) := by
  have hl3 : us.length + ws.length = 3 := by
    rw [List.length_append, List.length_reverse] at hl
    exact hl
  clear hl
  rcases us with _ | ⟨u1, _ | ⟨u2, _ | ⟨u3, _ | ⟨u4, us⟩⟩⟩⟩ <;> rcases ws with _ | ⟨w1, _ | ⟨w2, _ | ⟨w3, _ | ⟨w4, ws⟩⟩⟩⟩ <;> simp only [List.length_cons, List.length_nil] at hl3 <;> first | omega | rfl
theorem k_ceiling_of (kV doc pm : Value) (an : Option Addr) (cdv ct : Value) (us ws : List Value) (hl : (us ++ ws.reverse).length = p_ceiling_of.length) : bindArgs (PySem.W.fnOf "ceiling_of" "ceiling_of" (defArgs s_ceiling_of) (defBody s_ceiling_of) (defScope s_ceiling_of) .none kV doc pm an cdv ct) ⟨us, kwNames.zip ws⟩ = pure (p_ceiling_of.zip (us ++ ws.reverse)) := by
  have hl3 : us.length + ws.length = 3 := by
    rw [List.length_append, List.length_reverse] at hl
    exact hl
  clear hl
  rcases us with _ | ⟨u1, _ | ⟨u2, _ | ⟨u3, _ | ⟨u4, us⟩⟩⟩⟩ <;> rcases ws with _ | ⟨w1, _ | ⟨w2, _ | ⟨w3, _ | ⟨w4, ws⟩⟩⟩⟩ <;> simp only [List.length_cons, List.length_nil] at hl3 <;> first | omega | rfl
structure Tops (K : PySem.W.Frag) (mg : Str → Option Value) : Prop where
  F_differences : FunX K mg "differences" s_differences p_differences
  F_part_of : FunX K mg "part_of" s_part_of p_part_of
  F_joined_parts : FunX K mg "joined_parts" s_joined_parts p_joined_parts
  F_distance : FunX K mg "distance" s_distance p_distance
  F_doubled_root : FunX K mg "doubled_root" s_doubled_root p_doubled_root
  F_gap_of : FunX K mg "gap_of" s_gap_of p_gap_of
  F_least_beyond : FunX K mg "least_beyond" s_least_beyond p_least_beyond
  F_most_beyond : FunX K mg "most_beyond" s_most_beyond p_most_beyond
  F_shell_of : FunX K mg "shell_of" s_shell_of p_shell_of
  F_gap_to : FunX K mg "gap_to" s_gap_to p_gap_to
  F_room_to : FunX K mg "room_to" s_room_to p_room_to
  F_floor_of_shell : FunX K mg "floor_of_shell" s_floor_of_shell p_floor_of_shell
  F_capped : FunX K mg "capped" s_capped p_capped
  F_holds_vector : FunX K mg "holds_vector" s_holds_vector p_holds_vector
  F_floor_of : FunX K mg "floor_of" s_floor_of p_floor_of
  F_ceiling_of : FunX K mg "ceiling_of" s_ceiling_of p_ceiling_of
  F__law_part : FunX K mg "_law_part" s__law_part p__law_part
  F__law_distance : FunX K mg "_law_distance" s__law_distance p__law_distance
  F__law_root : FunX K mg "_law_root" s__law_root p__law_root
  F__law_gap : FunX K mg "_law_gap" s__law_gap p__law_gap
  F__law_most : FunX K mg "_law_most" s__law_most p__law_most
  F__law_shell : FunX K mg "_law_shell" s__law_shell p__law_shell
  F__law_holds : FunX K mg "_law_holds" s__law_holds p__law_holds
  F__law_floor : FunX K mg "_law_floor" s__law_floor p__law_floor
  F__law_ceiling : FunX K mg "_law_ceiling" s__law_ceiling p__law_ceiling
  F__law_window : FunX K mg "_law_window" s__law_window p__law_window
  F__law_tried_right : FunX K mg "_law_tried_right" s__law_tried_right p__law_tried_right
  F__law_pick_far : FunX K mg "_law_pick_far" s__law_pick_far p__law_pick_far
  F__law_box_reached : FunX K mg "_law_box_reached" s__law_box_reached p__law_box_reached
  F__law_right : FunX K mg "_law_right" s__law_right p__law_right
  F__law_draw : FunX K mg "_law_draw" s__law_draw p__law_draw
  F__law_pick : FunX K mg "_law_pick" s__law_pick p__law_pick
  F__law_heap : FunX K mg "_law_heap" s__law_heap p__law_heap
  F__law_region : FunX K mg "_law_region" s__law_region p__law_region
  F_law : FunX K mg "law" s_law p_law
theorem law_true {fa a k_KINDS : Addr} {s : Shared} {H : Hp} {ns : List Int} (F : Tops K mg) (hf : mg "law" = some (.ref fa)) (T : Gs mg) (gKINDS : mg "KINDS" = some (.ref k_KINDS)) (kt : ∀ H, SqT K H k_KINDS [.str "square", .str "sum", .str "most", .str "unlike"])
    (e0 : Env0 P w K mg base callerA [] s H) (ha : SqL K H a (vi ns)) (hl : ns.length ≤ 63) : codeAny (model P w) callerA (.call (.ref fa) ⟨[.ref a], []⟩) (CR CX0 [] P w H s (fun v _ => v = .bl true) E0) s := by
  have Ddifferences := ok_differences (P := P) (w := w) (base := base) F.F_differences T 
  have Dpart_of := ok_part_of (P := P) (w := w) (base := base) F.F_part_of T 
  have Djoined_parts := ok_joined_parts (P := P) (w := w) (base := base) F.F_joined_parts T 
  have Ddistance := ok_distance (P := P) (w := w) (base := base) F.F_distance T Ddifferences Dpart_of Djoined_parts
  have Ddoubled_root := ok_doubled_root (P := P) (w := w) (base := base) F.F_doubled_root T 
  have Dgap_of := ok_gap_of (P := P) (w := w) (base := base) F.F_gap_of T Ddoubled_root
  have Dleast_beyond := ok_least_beyond (P := P) (w := w) (base := base) F.F_least_beyond T Dgap_of
  have Dmost_beyond := ok_most_beyond (P := P) (w := w) (base := base) F.F_most_beyond T Ddoubled_root
  have Dshell_of := ok_shell_of (P := P) (w := w) (base := base) F.F_shell_of T 
  have Dgap_to := ok_gap_to (P := P) (w := w) (base := base) F.F_gap_to T 
  have Droom_to := ok_room_to (P := P) (w := w) (base := base) F.F_room_to T 
  have Dfloor_of_shell := ok_floor_of_shell (P := P) (w := w) (base := base) F.F_floor_of_shell T Dgap_of Dleast_beyond
  have Dcapped := ok_capped (P := P) (w := w) (base := base) F.F_capped T 
  have Dholds_vector := ok_holds_vector (P := P) (w := w) (base := base) F.F_holds_vector T Ddistance Dshell_of
  have Dfloor_of := ok_floor_of (P := P) (w := w) (base := base) F.F_floor_of T Dgap_to Dpart_of Djoined_parts Ddistance Dshell_of Dfloor_of_shell
  have Kfloor_of := Dfloor_of.toK F.F_floor_of k_floor_of
  have Dceiling_of := ok_ceiling_of (P := P) (w := w) (base := base) F.F_ceiling_of T Droom_to Dpart_of Djoined_parts Ddistance Dshell_of Dcapped Dmost_beyond
  have Kceiling_of := Dceiling_of.toK F.F_ceiling_of k_ceiling_of
  have D_law_part := ok__law_part (P := P) (w := w) (base := base) F.F__law_part T 
  have D_law_distance := ok__law_distance (P := P) (w := w) (base := base) F.F__law_distance T D_law_part
  have D_law_root := ok__law_root (P := P) (w := w) (base := base) F.F__law_root T 
  have D_law_gap := ok__law_gap (P := P) (w := w) (base := base) F.F__law_gap T D_law_root
  have D_law_most := ok__law_most (P := P) (w := w) (base := base) F.F__law_most T D_law_root
  have D_law_shell := ok__law_shell (P := P) (w := w) (base := base) F.F__law_shell T 
  have D_law_holds := ok__law_holds (P := P) (w := w) (base := base) F.F__law_holds T D_law_distance D_law_shell
  have D_law_floor := ok__law_floor (P := P) (w := w) (base := base) F.F__law_floor T D_law_distance D_law_shell D_law_gap
  have D_law_ceiling := ok__law_ceiling (P := P) (w := w) (base := base) F.F__law_ceiling T D_law_distance D_law_shell D_law_most
  have D_law_window := ok__law_window (P := P) (w := w) (base := base) F.F__law_window T 
  have D_law_tried_right := ok__law_tried_right (P := P) (w := w) (base := base) F.F__law_tried_right T D_law_window D_law_holds Dholds_vector D_law_distance
  have D_law_pick_far := ok__law_pick_far (P := P) (w := w) (base := base) F.F__law_pick_far T 
  have D_law_box_reached := ok__law_box_reached (P := P) (w := w) (base := base) F.F__law_box_reached T D_law_pick_far Dholds_vector D_law_distance
  have D_law_right := ok__law_right (P := P) (w := w) (base := base) F.F__law_right T Dfloor_of Dceiling_of Kfloor_of Kceiling_of D_law_floor D_law_ceiling Dholds_vector D_law_box_reached D_law_tried_right
  have D_law_draw := ok__law_draw (P := P) (w := w) (base := base) F.F__law_draw T 
  have D_law_pick := ok__law_pick (P := P) (w := w) (base := base) F.F__law_pick T D_law_draw
  have D_law_heap := ok__law_heap (P := P) (w := w) (base := base) F.F__law_heap T 
  have D_law_region := ok__law_region (P := P) (w := w) (base := base) F.F__law_region T D_law_draw D_law_pick
  exact run_law F.F_law hf T gKINDS kt D_law_heap D_law_draw D_law_pick D_law_region D_law_right Dfloor_of Dceiling_of e0 ha hl
/-- the four kinds, as they are written at the top -/
theorem kinds_at {a : Addr} {od : Option Addr} {n : Nat} {t1 t2 t3 t4 : Tok} {sl : Array (Option Value)} (l : K.lookup a = some ⟨.type "tuple", od, .seq #[.str "square" t1, .str "sum" t2, .str "most" t3, .str "unlike" t4] n, sl⟩) (H : Hp) : SqT K H a [.str "square", .str "sum", .str "most", .str "unlike"] :=
  .inr ⟨_, _, _, l, rfl, rfl, by show 4 ≤ sizeLine; decide, .cons ⟨t1, rfl⟩ (.cons ⟨t2, rfl⟩ (.cons ⟨t3, rfl⟩ (.cons ⟨t4, rfl⟩ .nil)))⟩
end
end K21
open PySem PySem.W PyProof.Rows
set_option maxRecDepth 100000 in
set_option maxHeartbeats 0 in
theorem PySem.Challenge.cw_nonearer_k21_whole_floors_and_ceilings_holds : PySem.Challenge.rw_nonearer_k21_whole_floors_and_ceilings.Holds := by
  w_on; o_law; k_head; (case hw => w_witness2)
  k_fill
  refine K21.law_end (l := PySem.Challenge.rw_nonearer_k21_whole_floors_and_ceilings) (n := 63) rfl (by decide) rfl (fun w h Y => PySem.W.kIn_of Y) ?F
  case F =>
    intro w mg fa a h base s1 H ns KX G hmg hl ha KB GB e0
    refine' K21.law_true ⟨K21.funx_mk KX G K21.b_differences ?a0 ?l0 ?c0 ?k0,
      K21.funx_mk KX G K21.b_part_of ?a1 ?l1 ?c1 ?k1,
      K21.funx_mk KX G K21.b_joined_parts ?a2 ?l2 ?c2 ?k2,
      K21.funx_mk KX G K21.b_distance ?a3 ?l3 ?c3 ?k3,
      K21.funx_mk KX G K21.b_doubled_root ?a4 ?l4 ?c4 ?k4,
      K21.funx_mk KX G K21.b_gap_of ?a5 ?l5 ?c5 ?k5,
      K21.funx_mk KX G K21.b_least_beyond ?a6 ?l6 ?c6 ?k6,
      K21.funx_mk KX G K21.b_most_beyond ?a7 ?l7 ?c7 ?k7,
      K21.funx_mk KX G K21.b_shell_of ?a8 ?l8 ?c8 ?k8,
      K21.funx_mk KX G K21.b_gap_to ?a9 ?l9 ?c9 ?k9,
      K21.funx_mk KX G K21.b_room_to ?a10 ?l10 ?c10 ?k10,
      K21.funx_mk KX G K21.b_floor_of_shell ?a11 ?l11 ?c11 ?k11,
      K21.funx_mk KX G K21.b_capped ?a12 ?l12 ?c12 ?k12,
      K21.funx_mk KX G K21.b_holds_vector ?a13 ?l13 ?c13 ?k13,
      K21.funx_mk KX G K21.b_floor_of ?a14 ?l14 ?c14 ?k14,
      K21.funx_mk KX G K21.b_ceiling_of ?a15 ?l15 ?c15 ?k15,
      K21.funx_mk KX G K21.b__law_part ?a16 ?l16 ?c16 ?k16,
      K21.funx_mk KX G K21.b__law_distance ?a17 ?l17 ?c17 ?k17,
      K21.funx_mk KX G K21.b__law_root ?a18 ?l18 ?c18 ?k18,
      K21.funx_mk KX G K21.b__law_gap ?a19 ?l19 ?c19 ?k19,
      K21.funx_mk KX G K21.b__law_most ?a20 ?l20 ?c20 ?k20,
      K21.funx_mk KX G K21.b__law_shell ?a21 ?l21 ?c21 ?k21,
      K21.funx_mk KX G K21.b__law_holds ?a22 ?l22 ?c22 ?k22,
      K21.funx_mk KX G K21.b__law_floor ?a23 ?l23 ?c23 ?k23,
      K21.funx_mk KX G K21.b__law_ceiling ?a24 ?l24 ?c24 ?k24,
      K21.funx_mk KX G K21.b__law_window ?a25 ?l25 ?c25 ?k25,
      K21.funx_mk KX G K21.b__law_tried_right ?a26 ?l26 ?c26 ?k26,
      K21.funx_mk KX G K21.b__law_pick_far ?a27 ?l27 ?c27 ?k27,
      K21.funx_mk KX G K21.b__law_box_reached ?a28 ?l28 ?c28 ?k28,
      K21.funx_mk KX G K21.b__law_right ?a29 ?l29 ?c29 ?k29,
      K21.funx_mk KX G K21.b__law_draw ?a30 ?l30 ?c30 ?k30,
      K21.funx_mk KX G K21.b__law_pick ?a31 ?l31 ?c31 ?k31,
      K21.funx_mk KX G K21.b__law_heap ?a32 ?l32 ?c32 ?k32,
      K21.funx_mk KX G K21.b__law_region ?a33 ?l33 ?c33 ?k33,
      K21.funx_mk KX G K21.b_law ?a34 ?l34 ?c34 ?k34⟩ hmg
      ⟨PySem.W.mg_none_of KX G ?n_tuple, PySem.W.mg_none_of KX G ?n_zip, PySem.W.mg_none_of KX G ?n_abs, PySem.W.mg_none_of KX G ?n_max, PySem.W.mg_none_of KX G ?n_min, PySem.W.mg_none_of KX G ?n_sum, PySem.W.mg_none_of KX G ?n_all, PySem.W.mg_none_of KX G ?n_len, PySem.W.mg_none_of KX G ?n_int, PySem.W.mg_none_of KX G ?n_range, PySem.W.mg_none_of KX G ?n_repr, PySem.W.mg_of KX G ?isq⟩ (PySem.W.mg_of KX G ?gK) (K21.kinds_at ?lK) e0 ha hl
    (case a0 => k_is); (case l0 => k_is); (case c0 => k_is); (case k0 => k_is)
    (case a1 => k_is); (case l1 => k_is); (case c1 => k_is); (case k1 => k_is)
    (case a2 => k_is); (case l2 => k_is); (case c2 => k_is); (case k2 => k_is)
    (case a3 => k_is); (case l3 => k_is); (case c3 => k_is); (case k3 => k_is)
    (case a4 => k_is); (case l4 => k_is); (case c4 => k_is); (case k4 => k_is)
    (case a5 => k_is); (case l5 => k_is); (case c5 => k_is); (case k5 => k_is)
    (case a6 => k_is); (case l6 => k_is); (case c6 => k_is); (case k6 => k_is)
    (case a7 => k_is); (case l7 => k_is); (case c7 => k_is); (case k7 => k_is)
    (case a8 => k_is); (case l8 => k_is); (case c8 => k_is); (case k8 => k_is)
    (case a9 => k_is); (case l9 => k_is); (case c9 => k_is); (case k9 => k_is)
    (case a10 => k_is); (case l10 => k_is); (case c10 => k_is); (case k10 => k_is)
    (case a11 => k_is); (case l11 => k_is); (case c11 => k_is); (case k11 => k_is)
    (case a12 => k_is); (case l12 => k_is); (case c12 => k_is); (case k12 => k_is)
    (case a13 => k_is); (case l13 => k_is); (case c13 => k_is); (case k13 => k_is)
    (case a14 => k_is); (case l14 => k_is); (case c14 => k_is); (case k14 => k_is)
    (case a15 => k_is); (case l15 => k_is); (case c15 => k_is); (case k15 => k_is)
    (case a16 => k_is); (case l16 => k_is); (case c16 => k_is); (case k16 => k_is)
    (case a17 => k_is); (case l17 => k_is); (case c17 => k_is); (case k17 => k_is)
    (case a18 => k_is); (case l18 => k_is); (case c18 => k_is); (case k18 => k_is)
    (case a19 => k_is); (case l19 => k_is); (case c19 => k_is); (case k19 => k_is)
    (case a20 => k_is); (case l20 => k_is); (case c20 => k_is); (case k20 => k_is)
    (case a21 => k_is); (case l21 => k_is); (case c21 => k_is); (case k21 => k_is)
    (case a22 => k_is); (case l22 => k_is); (case c22 => k_is); (case k22 => k_is)
    (case a23 => k_is); (case l23 => k_is); (case c23 => k_is); (case k23 => k_is)
    (case a24 => k_is); (case l24 => k_is); (case c24 => k_is); (case k24 => k_is)
    (case a25 => k_is); (case l25 => k_is); (case c25 => k_is); (case k25 => k_is)
    (case a26 => k_is); (case l26 => k_is); (case c26 => k_is); (case k26 => k_is)
    (case a27 => k_is); (case l27 => k_is); (case c27 => k_is); (case k27 => k_is)
    (case a28 => k_is); (case l28 => k_is); (case c28 => k_is); (case k28 => k_is)
    (case a29 => k_is); (case l29 => k_is); (case c29 => k_is); (case k29 => k_is)
    (case a30 => k_is); (case l30 => k_is); (case c30 => k_is); (case k30 => k_is)
    (case a31 => k_is); (case l31 => k_is); (case c31 => k_is); (case k31 => k_is)
    (case a32 => k_is); (case l32 => k_is); (case c32 => k_is); (case k32 => k_is)
    (case a33 => k_is); (case l33 => k_is); (case c33 => k_is); (case k33 => k_is)
    (case a34 => k_is); (case l34 => k_is); (case c34 => k_is); (case k34 => k_is)
    (case n_tuple => k_is)
    (case n_zip => k_is)
    (case n_abs => k_is)
    (case n_max => k_is)
    (case n_min => k_is)
    (case n_sum => k_is)
    (case n_all => k_is)
    (case n_len => k_is)
    (case n_int => k_is)
    (case n_range => k_is)
    (case n_repr => k_is)
    (case isq => k_is); (case gK => k_is); (case lK => k_is)
