import PyProof.Rows.All
import Wide.All
import OpenK.AllK
import Wide.FinOn
import Open.SpecLaws
import KE.OsGo
import HandS.ForSpec
import HandS.Comp
import HandS.Dict
import HandS.Iter
import HandS.Walk
import HandS.Wide
import HandS.CallLocal
import PyKp408
import PySem.Challenge.RW_sievemill_s01_answers
section P_GsM
set_option maxRecDepth 100000
/-! GsM: the plain laws: Rat as Python's tuples in lowest terms, bounds. -/
namespace Gs

/-! ### sizes -/
theorem num_nat {x : Rat} (h : 0 ≤ x) : x.num = ((x.num.toNat : Nat) : Int) := by
  have := Rat.num_nonneg.mpr h
  omega
theorem abs_nat {x : Rat} (h : 0 ≤ x) : x.num.natAbs = x.num.toNat := by
  have := Rat.num_nonneg.mpr h
  omega
/-- the sum, as the program reckons it -/
theorem plus_nat {x y : Rat} (hx : 0 ≤ x) (hy : 0 ≤ y) : x + y = mkRat (((x.num.toNat * y.den + y.num.toNat * x.den : Nat) : Int)) (x.den * y.den) := by
  rw [Rat.add_def']
  have e1 := num_nat hx
  have e2 := num_nat hy
  congr 1
  rw [Int.natCast_add, Int.natCast_mul, Int.natCast_mul, ← e1, ← e2]
theorem frac_mk (n d : Nat) : (n : Rat) / (d : Rat) = mkRat (n : Int) d := by rw [Rat.mkRat_eq_div]; rfl
theorem nat_mk (n : Nat) : (n : Rat) = mkRat (n : Int) 1 := by
  have h := Rat.mkRat_self (n : Rat)
  rw [Rat.num_natCast, Rat.den_natCast] at h
  exact h.symm
theorem mul_div (x y z : Rat) : x * y / z = x * (y / z) := by rw [Rat.div_def, Rat.div_def, Rat.mul_assoc]
theorem times_nat {x : Rat} (hx : 0 ≤ x) (n : Nat) {d : Nat} : x * (n : Rat) / (d : Rat) = mkRat (((x.num.toNat * n : Nat) : Int)) (x.den * d) := by
  have e1 := num_nat hx
  have h3 : mkRat (((x.num.toNat * n : Nat) : Int)) (x.den * d) = mkRat (x.num * (n : Int)) (x.den * d) := by
    congr 1
    rw [Int.natCast_mul, ← e1]
  rw [mul_div, frac_mk, h3, ← Rat.mkRat_mul_mkRat, Rat.mkRat_self]
theorem mk_num (n : Nat) {d : Nat} (hd : 0 < d) : (mkRat (n : Int) d).num = ((n / d.gcd n : Nat) : Int) := by
  rw [Rat.num_mkRat, if_neg (by omega), Int.natAbs_natCast]
  rfl
theorem mk_den (n : Nat) {d : Nat} (hd : 0 < d) : (mkRat (n : Int) d).den = d / d.gcd n := by
  rw [Rat.den_mkRat, if_neg (by omega), Int.natAbs_natCast]
theorem le_nat {x y : Rat} (hx : 0 ≤ x) (hy : 0 ≤ y) : (y ≤ x) ↔ y.num.toNat * x.den ≤ x.num.toNat * y.den := by
  rw [Rat.le_iff]
  have e1 := num_nat hx
  have e2 := num_nat hy
  have e3 : y.num * (x.den : Int) = ((y.num.toNat * x.den : Nat) : Int) := by rw [Int.natCast_mul, ← e2]
  have e4 : x.num * (y.den : Int) = ((x.num.toNat * y.den : Nat) : Int) := by rw [Int.natCast_mul, ← e1]
  rw [e3, e4, Int.ofNat_le]

/-! ### sizes by bits -/
def Sz (b : Nat) (x : Rat) : Prop := 0 ≤ x ∧ x.num.toNat < 2 ^ b ∧ x.den < 2 ^ b
theorem Sz.mono {a b : Nat} {x : Rat} (h : Sz a x) (hb : a ≤ b) : Sz b x :=
  ⟨h.1, Nat.lt_of_lt_of_le h.2.1 (Nat.pow_le_pow_right (by decide) hb), Nat.lt_of_lt_of_le h.2.2 (Nat.pow_le_pow_right (by decide) hb)⟩
theorem mk_nn (n d : Nat) : 0 ≤ mkRat (n : Int) d := by
  rw [← Rat.divInt_ofNat]
  exact Rat.divInt_nonneg (Int.natCast_nonneg _) (Int.natCast_nonneg _)
theorem sz_mk {n d b : Nat} (hd : 0 < d) (hn : n < 2 ^ b) (hdb : d < 2 ^ b) : Sz b (mkRat (n : Int) d) := by
  refine ⟨mk_nn n d, ?_, ?_⟩
  · rw [mk_num n hd, Int.toNat_natCast]
    exact Nat.lt_of_le_of_lt (Nat.div_le_self _ _) hn
  · rw [mk_den n hd]
    exact Nat.lt_of_le_of_lt (Nat.div_le_self _ _) hdb
theorem Sz.zero : Sz 1 0 := ⟨by decide, by decide, by decide⟩
theorem Sz.nat {n b : Nat} (h : n < 2 ^ b) (h1 : 0 < b) : Sz b (n : Rat) := by
  refine ⟨Rat.natCast_nonneg, ?_, ?_⟩
  · rw [Rat.num_natCast, Int.toNat_natCast]
    exact h
  · rw [Rat.den_natCast]
    exact Nat.one_lt_two_pow (by omega)
theorem Sz.add {a b : Nat} {x y : Rat} (hx : Sz a x) (hy : Sz b y) : Sz (a + b + 1) (x + y) := by
  rw [plus_nat hx.1 hy.1]
  have p1 : x.num.toNat * y.den < 2 ^ (a + b) := by rw [Nat.pow_add]; exact Nat.mul_lt_mul'' hx.2.1 hy.2.2
  have p2 : y.num.toNat * x.den < 2 ^ (a + b) := by rw [Nat.add_comm a b, Nat.pow_add]; exact Nat.mul_lt_mul'' hy.2.1 hx.2.2
  have p3 : x.den * y.den < 2 ^ (a + b) := by rw [Nat.pow_add]; exact Nat.mul_lt_mul'' hx.2.2 hy.2.2
  have p4 : 2 ^ (a + b + 1) = 2 ^ (a + b) + 2 ^ (a + b) := by rw [Nat.pow_succ]; omega
  refine sz_mk (Nat.mul_pos x.den_pos y.den_pos) ?_ ?_ <;> omega
theorem Sz.times {a b n d : Nat} {x : Rat} (hx : Sz a x) (hn : n < 2 ^ b) (hd : d < 2 ^ b) (h0 : 0 < d) : Sz (a + b) (x * (n : Rat) / (d : Rat)) := by
  rw [times_nat hx.1]
  refine sz_mk (Nat.mul_pos x.den_pos h0) ?_ ?_
  · rw [Nat.pow_add]; exact Nat.mul_lt_mul'' hx.2.1 hn
  · rw [Nat.pow_add]; exact Nat.mul_lt_mul'' hx.2.2 hd
/-- a fraction that the program's numbers carry -/
abbrev Sm (x : Rat) : Prop := Sz 4000 x

/-! ### a fraction whose denominator divides d, and whose numerator over d is at most N -/
def Bd (d N : Nat) (x : Rat) : Prop := ∃ n : Nat, n ≤ N ∧ x = mkRat (n : Int) d
theorem Bd.nn {d N : Nat} {x : Rat} (h : Bd d N x) : 0 ≤ x := by
  obtain ⟨n, _, rfl⟩ := h
  exact mk_nn n d
theorem Bd.sz {d N b : Nat} {x : Rat} (h : Bd d N x) (h0 : 0 < d) (h1 : d < 2 ^ b) (h2 : N < 2 ^ b) : Sz b x := by
  obtain ⟨n, hn, rfl⟩ := h
  exact sz_mk h0 (Nat.lt_of_le_of_lt hn h2) h1
theorem Bd.mono {d N M : Nat} {x : Rat} (h : Bd d N x) (hm : N ≤ M) : Bd d M x := by
  obtain ⟨n, hn, e⟩ := h
  exact ⟨n, Nat.le_trans hn hm, e⟩
theorem Bd.zero (d : Nat) : Bd d 0 0 := ⟨0, Nat.le_refl _, by simp⟩
theorem Bd.add {d N M : Nat} {x y : Rat} (h0 : 0 < d) (hx : Bd d N x) (hy : Bd d M y) : Bd d (N + M) (x + y) := by
  obtain ⟨n, hn, rfl⟩ := hx
  obtain ⟨m, hm, rfl⟩ := hy
  refine ⟨n + m, by omega, ?_⟩
  rw [Rat.mkRat_add_mkRat _ _ (by omega) (by omega), ← Int.add_mul, Rat.mkRat_mul_right (by omega), Int.natCast_add]
theorem Bd.lift {d N : Nat} {x : Rat} (k : Nat) (h0 : 0 < k) (hx : Bd d N x) : Bd (d * k) (N * k) x := by
  obtain ⟨n, hn, rfl⟩ := hx
  refine ⟨n * k, Nat.mul_le_mul_right _ hn, ?_⟩
  rw [Int.natCast_mul, Rat.mkRat_mul_right (by omega)]
theorem Bd.nat (n d : Nat) (h0 : 0 < d) : Bd d (n * d) (n : Rat) := by
  refine ⟨n * d, Nat.le_refl _, ?_⟩
  have h := Rat.mkRat_mul_right (n := (n : Int)) (d := 1) (a := d) (by omega)
  rw [Nat.one_mul] at h
  rw [Int.natCast_mul, h, nat_mk]
theorem Bd.times {d N : Nat} {x : Rat} (hx : Bd d N x) (c k : Nat) : Bd (d * k) (N * c) (x * (c : Rat) / (k : Rat)) := by
  obtain ⟨n, hn, rfl⟩ := hx
  refine ⟨n * c, Nat.mul_le_mul_right _ hn, ?_⟩
  rw [mul_div, frac_mk, Rat.mkRat_mul_mkRat, Int.natCast_mul]
theorem Bd.sum {d N : Nat} (h0 : 0 < d) : ∀ l : List Rat, (∀ x ∈ l, Bd d N x) → Bd d (l.length * N) l.sum
  | [], _ => by
    rw [List.sum_nil]
    exact (Bd.zero d).mono (Nat.zero_le _)
  | x :: r, h => by
    rw [List.sum_cons]
    have h1 := Bd.add h0 (h x List.mem_cons_self) (Bd.sum h0 r fun y hy => h y (List.mem_cons_of_mem _ hy))
    refine h1.mono ?_
    rw [List.length_cons, Nat.succ_mul]
    omega

/-! ### sums of few -/
theorem sz_sum {b : Nat} : ∀ l : List Rat, (∀ x ∈ l, Sz b x) → Sz (l.length * (b + 1) + 1) l.sum
  | [], _ => by
    rw [List.sum_nil]
    exact Sz.zero.mono (by omega)
  | x :: r, h => by
    rw [List.sum_cons]
    have h1 := Sz.add (h x List.mem_cons_self) (sz_sum r fun y hy => h y (List.mem_cons_of_mem _ hy))
    refine h1.mono ?_
    rw [List.length_cons, Nat.succ_mul]
    omega
/-- each of the sums on the way, and each one, is carried -/
def Sums (l : List Rat) : Prop := (∀ x ∈ l, Sm x) ∧ ∀ i, Sm (l.take i).sum
theorem Sums.of {b : Nat} {l : List Rat} (h : ∀ x ∈ l, Sz b x) (hl : l.length ≤ 5) (hb : b ≤ 790) : Sums l := by
  refine ⟨fun x hx => (h x hx).mono (by omega), fun i => ?_⟩
  refine (sz_sum (l.take i) fun x hx => h x (List.mem_of_mem_take hx)).mono ?_
  have h1 : (l.take i).length ≤ 5 := Nat.le_trans (List.length_take_le' _ _) hl
  have h2 : (l.take i).length * (b + 1) ≤ 5 * (b + 1) := Nat.mul_le_mul_right _ h1
  omega
theorem Sums.all {l : List Rat} (h : Sums l) : Sm l.sum := by
  have := h.2 l.length
  rw [List.take_length] at this
  exact this
theorem sumR_take : ∀ {l : List Rat} {i : Nat} {z : Rat}, l[i]? = some z → (l.take (i + 1)).sum = (l.take i).sum + z
  | [], i, z, h => by simp at h
  | a :: r, 0, z, h => by
    have e : a = z := Option.some.inj h
    subst e
    show ([a] : List Rat).sum = ([] : List Rat).sum + a
    rw [List.sum_cons, List.sum_nil, Rat.add_comm]
  | a :: r, i + 1, z, h => by
    have ih := sumR_take (l := r) (i := i) (z := z) h
    show (a :: r.take (i + 1)).sum = (a :: r.take i).sum + z
    rw [List.sum_cons, List.sum_cons, ih, Rat.add_assoc]
end Gs
end P_GsM
section P_GsM2
set_option maxRecDepth 100000
/-! GsM2: what the program's mill and steady state reckon, over Rat. -/
namespace Gs

theorem getD_in {α : Type} {l : List α} {i : Nat} {d : α} (h : i < l.length) : l.getD i d = l[i] := by
  rw [List.getD_eq_getElem?_getD, List.getElem?_eq_getElem h]
  rfl
theorem getD_out {α : Type} {l : List α} {i : Nat} {d : α} (h : l.length ≤ i) : l.getD i d = d := by
  rw [List.getD_eq_getElem?_getD, List.getElem?_eq_none h]
  rfl
/-- percentage of class i that becomes class j -/
def cell (B : List (List Nat)) (i j : Nat) : Nat := (B.getD i []).getD j 0
/-- a breakage matrix of n classes -/
structure WfB (B : List (List Nat)) (n : Nat) : Prop where
  len : B.length = n
  lo : 2 ≤ n
  hi : n ≤ 5
  row : ∀ i, i < n → (B.getD i []).length = i + 1
  sum : ∀ i, i < n → (B.getD i []).sum = 100
  le : ∀ i, i < n → ∀ c ∈ B.getD i [], c ≤ 100
theorem WfB.cell_le {B : List (List Nat)} {n i : Nat} (h : WfB B n) (hi : i < n) (j : Nat) : cell B i j ≤ 100 := by
  unfold cell
  by_cases hj : j < (B.getD i []).length
  · rw [getD_in hj]
    exact h.le i hi _ (List.getElem_mem hj)
  · rw [getD_out (by omega)]
    omega
theorem WfB.cell_at {B : List (List Nat)} {n i j : Nat} (h : WfB B n) (hi : i < n) (hj : j ≤ i) : (B.getD i [])[j]? = some (cell B i j) := by
  unfold cell
  have hl : j < (B.getD i []).length := by rw [h.row i hi]; omega
  rw [getD_in hl, List.getElem?_eq_getElem hl]

def icPart (B : List (List Nat)) (xs : List Rat) (j : Nat) : Nat → Rat
  | 0 => 0
  | k + 1 => icPart B xs j k + xs.getD (j + k) 0 * ((cell B (j + k) j : Nat) : Rat) / ((100 : Nat) : Rat)
def icls (B : List (List Nat)) (xs : List Rat) (j : Nat) : Rat := icPart B xs j (xs.length - j)
def pass (B : List (List Nat)) (xs : List Rat) : List Rat := (List.range xs.length).map (icls B xs)
def passes (B : List (List Nat)) : Nat → List Rat → List Rat
  | 0, xs => xs
  | k + 1, xs => pass B (passes B k xs)
def whole (feed : List Nat) : List Rat := feed.map fun (n : Nat) => (n : Rat)
def under (xs : List Rat) (c : Nat) : List Rat := (List.range xs.length).map fun i => if i < c then xs.getD i 0 else 0
def over (xs : List Rat) (c : Nat) : List Rat := (List.range xs.length).map fun i => if i < c then 0 else xs.getD i 0
def tog (xs ys : List Rat) : List Rat := (List.range (min xs.length ys.length)).map fun i => xs.getD i 0 + ys.getD i 0
def rds (B : List (List Nat)) (feed : List Nat) (cut : Nat) : Nat → List Rat × Rat
  | 0 => (List.replicate feed.length 0, 0)
  | k + 1 => (over (pass B (tog (whole feed) (rds B feed cut k).1)) cut, (rds B feed cut k).2 + (under (pass B (tog (whole feed) (rds B feed cut k).1)) cut).sum)
theorem pass_len (B : List (List Nat)) (xs : List Rat) : (pass B xs).length = xs.length := by simp [pass]
theorem passes_len (B : List (List Nat)) : ∀ (k : Nat) (xs : List Rat), (passes B k xs).length = xs.length
  | 0, _ => rfl
  | k + 1, xs => (pass_len B _).trans (passes_len B k xs)
theorem under_len (xs : List Rat) (c : Nat) : (under xs c).length = xs.length := by simp [under]
theorem over_len (xs : List Rat) (c : Nat) : (over xs c).length = xs.length := by simp [over]
theorem whole_len (f : List Nat) : (whole f).length = f.length := by simp [whole]
theorem tog_len {xs ys : List Rat} (h : xs.length = ys.length) : (tog xs ys).length = xs.length := by simp [tog, h]
theorem getD_mem0 {xs : List Rat} {i : Nat} : xs.getD i 0 = 0 ∨ xs.getD i 0 ∈ xs := by
  by_cases h : i < xs.length
  · rw [getD_in h]
    exact .inr (List.getElem_mem h)
  · exact .inl (getD_out (by omega))
theorem getD_some {xs : List Rat} {i : Nat} (h : i < xs.length) : xs[i]? = some (xs.getD i 0) := by
  rw [getD_in h, List.getElem?_eq_getElem h]
theorem getD_of {xs : List Rat} {i : Nat} {x : Rat} (h : xs[i]? = some x) : xs.getD i 0 = x := by
  rw [List.getD_eq_getElem?_getD, h]
  rfl

theorem rds_len (B : List (List Nat)) (f : List Nat) (c : Nat) : ∀ k, (rds B f c k).1.length = f.length
  | 0 => by simp [rds]
  | k + 1 => by
    show (over (pass B (tog (whole f) (rds B f c k).1)) c).length = f.length
    rw [over_len, pass_len, tog_len (by rw [whole_len, rds_len B f c k]), whole_len]

/-! ### sizes by bits: one pass -/
theorem Sz.getD {b : Nat} {xs : List Rat} (h : ∀ x ∈ xs, Sz b x) (h1 : 1 ≤ b) (i : Nat) : Sz b (xs.getD i 0) := by
  rcases getD_mem0 (xs := xs) (i := i) with e | e
  · rw [e]
    exact Sz.zero.mono h1
  · exact h _ e
theorem icTerm_sz {B : List (List Nat)} {n b : Nat} {xs : List Rat} (h : WfB B n) (hx : ∀ x ∈ xs, Sz b x) (h1 : 1 ≤ b) {i : Nat} (hi : i < n) (j : Nat) : Sz (b + 7) (xs.getD i 0 * ((cell B i j : Nat) : Rat) / ((100 : Nat) : Rat)) :=
  Sz.times (Sz.getD hx h1 i) (Nat.lt_of_le_of_lt (h.cell_le hi j) (by decide)) (by decide) (by decide)
theorem icPart_sz {B : List (List Nat)} {n b : Nat} {xs : List Rat} (h : WfB B n) (hx : ∀ x ∈ xs, Sz b x) (h1 : 1 ≤ b) (j : Nat) : ∀ k, j + k ≤ n → Sz (k * (b + 8) + 1) (icPart B xs j k)
  | 0, _ => Sz.zero.mono (by omega)
  | k + 1, hk => by
    have q := Sz.add (icPart_sz h hx h1 j k (by omega)) (icTerm_sz h hx h1 (i := j + k) (by omega) j)
    refine q.mono ?_
    rw [Nat.succ_mul]
    omega
theorem icls_sz {B : List (List Nat)} {n b : Nat} {xs : List Rat} (h : WfB B n) (hl : xs.length = n) (hx : ∀ x ∈ xs, Sz b x) (h1 : 1 ≤ b) {j : Nat} (hj : j < n) : Sz (5 * (b + 8) + 1) (icls B xs j) := by
  refine (icPart_sz h hx h1 j _ (by omega)).mono ?_
  have : (xs.length - j) * (b + 8) ≤ 5 * (b + 8) := Nat.mul_le_mul_right _ (by have := h.hi; omega)
  omega
theorem mem_pass {B : List (List Nat)} {xs : List Rat} {y : Rat} (h : y ∈ pass B xs) : ∃ j, j < xs.length ∧ y = icls B xs j := by
  obtain ⟨j, hj, e⟩ := List.mem_map.mp h
  exact ⟨j, List.mem_range.mp hj, e.symm⟩
/-! ### sizes by a common denominator -/
theorem Bd.getD {d N : Nat} {xs : List Rat} (h : ∀ x ∈ xs, Bd d N x) (i : Nat) : Bd d N (xs.getD i 0) := by
  rcases getD_mem0 (xs := xs) (i := i) with e | e
  · rw [e]
    exact (Bd.zero d).mono (Nat.zero_le _)
  · exact h _ e
theorem icPart_bd {B : List (List Nat)} {n d N : Nat} {xs : List Rat} (h : WfB B n) (h0 : 0 < d) (hx : ∀ x ∈ xs, Bd d N x) (j : Nat) : ∀ k, j + k ≤ n → Bd (d * 100) (k * (N * 100)) (icPart B xs j k)
  | 0, _ => (Bd.zero _).mono (Nat.zero_le _)
  | k + 1, hk => by
    have t := Bd.times (Bd.getD hx (j + k)) (cell B (j + k) j) 100
    have q := Bd.add (by omega) (icPart_bd h h0 hx j k (by omega)) (t.mono (Nat.mul_le_mul_left N (h.cell_le (i := j + k) (by omega) j)))
    refine q.mono ?_
    rw [Nat.succ_mul]
    omega
theorem pass_bd {B : List (List Nat)} {n d N : Nat} {xs : List Rat} (h : WfB B n) (hl : xs.length = n) (h0 : 0 < d) (hx : ∀ x ∈ xs, Bd d N x) : ∀ y ∈ pass B xs, Bd (d * 100) (N * 500) y := by
  intro y hy
  obtain ⟨j, hj, rfl⟩ := mem_pass hy
  refine (icPart_bd h h0 hx j _ (by omega)).mono ?_
  have : (xs.length - j) * (N * 100) ≤ 5 * (N * 100) := Nat.mul_le_mul_right _ (by have := h.hi; omega)
  omega
theorem passes_bd {B : List (List Nat)} {n d N : Nat} {xs : List Rat} (h : WfB B n) (hl : xs.length = n) (h0 : 0 < d) (hx : ∀ x ∈ xs, Bd d N x) : ∀ k, ∀ y ∈ passes B k xs, Bd (d * 100 ^ k) (N * 500 ^ k) y
  | 0, y, hy => by
    rw [Nat.pow_zero, Nat.mul_one, Nat.mul_one]
    exact hx y hy
  | k + 1, y, hy => by
    have q := pass_bd h ((passes_len B k xs).trans hl) (Nat.mul_pos h0 (Nat.pow_pos (by decide))) (passes_bd h hl h0 hx k) y hy
    rw [Nat.pow_succ, ← Nat.mul_assoc, Nat.pow_succ, ← Nat.mul_assoc]
    exact q
theorem mem_under {xs : List Rat} {c : Nat} {y : Rat} (h : y ∈ under xs c) : y = 0 ∨ y ∈ xs := by
  obtain ⟨j, hj, e⟩ := List.mem_map.mp h
  split at e
  · rcases getD_mem0 (xs := xs) (i := j) with q | q
    · exact .inl (e.symm.trans q)
    · exact .inr (e ▸ q)
  · exact .inl e.symm
theorem mem_over {xs : List Rat} {c : Nat} {y : Rat} (h : y ∈ over xs c) : y = 0 ∨ y ∈ xs := by
  obtain ⟨j, hj, e⟩ := List.mem_map.mp h
  split at e
  · exact .inl e.symm
  · rcases getD_mem0 (xs := xs) (i := j) with q | q
    · exact .inl (e.symm.trans q)
    · exact .inr (e ▸ q)
theorem mem_tog {xs ys : List Rat} {y : Rat} (h : y ∈ tog xs ys) : ∃ i, i < xs.length ∧ i < ys.length ∧ y = xs.getD i 0 + ys.getD i 0 := by
  obtain ⟨j, hj, e⟩ := List.mem_map.mp h
  have := List.mem_range.mp hj
  exact ⟨j, by omega, by omega, e.symm⟩
theorem mem_whole {f : List Nat} {y : Rat} (h : y ∈ whole f) : ∃ n ∈ f, y = (n : Rat) := by
  obtain ⟨j, hj, e⟩ := List.mem_map.mp h
  exact ⟨j, hj, e.symm⟩
end Gs
end P_GsM2
section P_GsM3
set_option maxRecDepth 100000
/-! GsM3: the steady state, as the program reckons it. -/
namespace Gs
def isSteady (B : List (List Nat)) (c : Nat) : Bool := ((List.range (B.length - c)).map fun i => decide (cell B (c + i) (c + i) < 100)).all id
def ciPart (B : List (List Nat)) (f : List Nat) (j : Nat) (cs : List Rat) : Nat → Rat
  | 0 => ((f.getD j 0 : Nat) : Rat)
  | k + 1 => ciPart B f j cs k + cs.getD k 0 * ((cell B (j + 1 + k) j : Nat) : Rat) / ((100 : Nat) : Rat)
def cinp (B : List (List Nat)) (f : List Nat) (j : Nat) (cs : List Rat) : Rat := ciPart B f j cs cs.length * ((100 : Nat) : Rat) / ((100 - cell B j j : Nat) : Rat)
def stPart (B : List (List Nat)) (f : List Nat) : Nat → List Rat
  | 0 => []
  | k + 1 => cinp B f (f.length - 1 - k) (stPart B f k) :: stPart B f k
def stIn (B : List (List Nat)) (f : List Nat) (c : Nat) : List Rat := whole (f.take c) ++ stPart B f (f.length - c)
theorem stPart_len (B : List (List Nat)) (f : List Nat) : ∀ k, (stPart B f k).length = k
  | 0 => rfl
  | k + 1 => congrArg (· + 1) (stPart_len B f k)
theorem stIn_len {B : List (List Nat)} {f : List Nat} {c : Nat} (h : c ≤ f.length) : (stIn B f c).length = f.length := by
  unfold stIn
  rw [List.length_append, whole_len, stPart_len, List.length_take]
  omega
theorem steady_at {B : List (List Nat)} {c i : Nat} (h : isSteady B c = true) (h1 : c ≤ i) (h2 : i < B.length) : cell B i i < 100 := by
  unfold isSteady at h
  rw [List.all_map, List.all_eq_true] at h
  have q := h (i - c) (List.mem_range.mpr (by omega))
  have e : c + (i - c) = i := by omega
  simp only [Function.comp_apply, id_eq, e] at q
  exact of_decide_eq_true q
/-! sizes -/
theorem ciTerm_sz {B : List (List Nat)} {n b : Nat} {cs : List Rat} (h : WfB B n) (hx : ∀ x ∈ cs, Sz b x) (h1 : 1 ≤ b) {i : Nat} (hi : i < n) (j k : Nat) : Sz (b + 7) (cs.getD k 0 * ((cell B i j : Nat) : Rat) / ((100 : Nat) : Rat)) :=
  Sz.times (Sz.getD hx h1 k) (Nat.lt_of_le_of_lt (h.cell_le hi j) (by decide)) (by decide) (by decide)
theorem feed_sz {f : List Nat} (hf : ∀ n ∈ f, n ≤ 100) (j : Nat) : Sz 7 ((f.getD j 0 : Nat) : Rat) := by
  refine Sz.nat ?_ (by decide)
  by_cases hj : j < f.length
  · rw [getD_in hj]
    exact Nat.lt_of_le_of_lt (hf _ (List.getElem_mem hj)) (by decide)
  · rw [getD_out (by omega)]
    decide
theorem ciPart_sz {B : List (List Nat)} {n b : Nat} {f : List Nat} {cs : List Rat} (h : WfB B n) (hf : ∀ n ∈ f, n ≤ 100) (hx : ∀ x ∈ cs, Sz b x) (h1 : 1 ≤ b) (j : Nat) : ∀ k, j + k < n → Sz (7 + k * (b + 8)) (ciPart B f j cs k)
  | 0, _ => (feed_sz hf j).mono (by omega)
  | k + 1, hk => by
    have q := Sz.add (ciPart_sz h hf hx h1 j k (by omega)) (ciTerm_sz h hx h1 (i := j + 1 + k) (by omega) j k)
    refine q.mono ?_
    rw [Nat.succ_mul]
    omega
def sb : Nat → Nat
  | 0 => 7
  | k + 1 => 14 + k * (sb k + 8)
theorem stPart_sz {B : List (List Nat)} {f : List Nat} {c : Nat} (h : WfB B f.length) (hf : ∀ n ∈ f, n ≤ 100) (hs : isSteady B c = true) : ∀ k, k ≤ f.length - c → k ≤ 4 → ∀ x ∈ stPart B f k, Sz (sb k) x
  | 0, _, _, x, hx => by cases hx
  | k + 1, h1, h4, x, hx => by
    have h7 : 7 ≤ sb k := by
      cases k with
      | zero => decide
      | succ k =>
        show 7 ≤ 14 + k * (sb k + 8)
        omega
    have hn := h.lo
    rcases List.mem_cons.mp hx with e | hx
    · rw [e]
      have d := steady_at hs (i := f.length - 1 - k) (by omega) (by rw [h.len]; omega)
      have q := ciPart_sz h hf (stPart_sz h hf hs k (by omega) (by omega)) (by omega) (f.length - 1 - k) (stPart B f k).length (by rw [stPart_len]; omega)
      rw [stPart_len] at q
      refine (Sz.times (b := 7) (n := 100) (d := 100 - cell B (f.length - 1 - k) (f.length - 1 - k)) ?_ (by decide) ?_ ?_).mono (?_ : 7 + k * (sb k + 8) + 7 ≤ sb (k + 1))
      · rw [stPart_len]
        exact q
      · exact Nat.lt_of_le_of_lt (Nat.sub_le _ _) (by decide)
      · omega
      · show 7 + k * (sb k + 8) + 7 ≤ 14 + k * (sb k + 8)
        omega
    · refine (stPart_sz h hf hs k (by omega) (by omega) x hx).mono ?_
      have : k = 0 ∨ k = 1 ∨ k = 2 ∨ k = 3 := by omega
      rcases this with rfl | rfl | rfl | rfl <;> decide
theorem sb_le {k : Nat} (h : k ≤ 4) : sb k ≤ 344 := by
  have : k = 0 ∨ k = 1 ∨ k = 2 ∨ k = 3 ∨ k = 4 := by omega
  rcases this with rfl | rfl | rfl | rfl | rfl <;> decide
theorem stPart_sz' {B : List (List Nat)} {f : List Nat} {c : Nat} (h : WfB B f.length) (hf : ∀ n ∈ f, n ≤ 100) (hs : isSteady B c = true) {k : Nat} (h1 : k ≤ f.length - c) (hc : 1 ≤ c) : ∀ x ∈ stPart B f k, Sz 344 x := fun x hx =>
  (stPart_sz h hf hs k h1 (by have := h.hi; omega) x hx).mono (sb_le (by have := h.hi; omega))
theorem stIn_sz {B : List (List Nat)} {f : List Nat} {c : Nat} (h : WfB B f.length) (hf : ∀ n ∈ f, n ≤ 100) (hs : isSteady B c = true) (hc : 1 ≤ c) : ∀ x ∈ stIn B f c, Sz 344 x := fun x hx => by
  rcases List.mem_append.mp hx with hx | hx
  · obtain ⟨n, hn, rfl⟩ := mem_whole hx
    exact (Sz.nat (b := 7) (Nat.lt_of_le_of_lt (hf n (List.mem_of_mem_take hn)) (by decide)) (by decide)).mono (by decide)
  · exact stPart_sz' h hf hs (Nat.le_refl _) hc x hx
/-- whether a cut serves -/
def serves (B : List (List Nat)) (f : List Nat) (m d c : Nat) : Bool := isSteady B c && decide ((stIn B f c).sum.num.toNat * d ≤ m * (stIn B f c).sum.den)
def cuts (n : Nat) : List Nat := (List.range (n - 1)).map fun i => n - 1 - i
def coarse (B : List (List Nat)) (f : List Nat) (m d : Nat) : Nat := ((cuts f.length).find? (serves B f m d)).getD 0
theorem find_range {p : Nat → Bool} : ∀ {n : Nat} {g : Nat → Nat} {i : Nat}, i < n → (∀ j, j < i → p (g j) = false) → p (g i) = true → ((List.range n).map g).find? p = some (g i)
  | 0, _, i, h, _, _ => absurd h (Nat.not_lt_zero _)
  | n + 1, g, 0, _, _, h => by
    rw [List.range_succ_eq_map, List.map_cons, List.find?_cons_of_pos h]
  | n + 1, g, i + 1, hi, hj, h => by
    rw [List.range_succ_eq_map, List.map_cons, List.find?_cons_of_neg (by rw [hj 0 (by omega)]; decide), List.map_map]
    exact find_range (g := g ∘ Nat.succ) (i := i) (by omega) (fun j h => hj (j + 1) (by omega)) h
theorem find_none {p : Nat → Bool} {n : Nat} {g : Nat → Nat} (h : ∀ j, j < n → p (g j) = false) : ((List.range n).map g).find? p = none := by
  rw [List.find?_eq_none]
  intro x hx
  obtain ⟨j, hj, rfl⟩ := List.mem_map.mp hx
  rw [h j (List.mem_range.mp hj)]
  decide
end Gs
end P_GsM3
section P_GsM4
set_option maxRecDepth 100000
/-! GsM4: a state, its sizes, what changes it. -/
namespace Gs
open Kp408 (Circuit)
abbrev dn (k : Nat) : Nat := 100 ^ k
abbrev nm (k : Nat) : Nat := 1000 ^ (k + 1)
theorem dn_pos (k : Nat) : 0 < dn k := Nat.pow_pos (by decide)
theorem dn_succ (k : Nat) : dn (k + 1) = dn k * 100 := Nat.pow_succ ..
theorem nm_succ (k : Nat) : nm (k + 1) = nm k * 1000 := Nat.pow_succ ..
theorem dn_le_nm (k : Nat) : dn k * 1000 ≤ nm k := by
  have h : dn k ≤ 1000 ^ k := Nat.pow_le_pow_left (by decide) k
  have e : nm k = 1000 ^ k * 1000 := Nat.pow_succ ..
  omega
theorem dn_lt {k : Nat} (h : k ≤ 75) : dn k < 2 ^ 780 := Nat.lt_of_le_of_lt (Nat.pow_le_pow_right (by decide) h) (by decide)
theorem nm_lt {k : Nat} (h : k ≤ 75) : nm k < 2 ^ 780 := Nat.lt_of_le_of_lt (Nat.pow_le_pow_right (by decide) (Nat.succ_le_succ h)) (by decide)
/-- carried behind k calls -/
abbrev Bk (k : Nat) (x : Rat) : Prop := Bd (dn k) (nm k) x
theorem Bk.sz {k : Nat} {x : Rat} (h : Bk k x) (hk : k ≤ 75) : Sz 780 x := Bd.sz h (dn_pos k) (dn_lt hk) (nm_lt hk)
theorem Bk.up {k : Nat} {x : Rat} (h : Bk k x) : Bk (k + 1) x := by
  have q := Bd.lift 100 (by decide) h
  show Bd (dn (k + 1)) (nm (k + 1)) x
  rw [dn_succ]
  refine q.mono ?_
  rw [nm_succ]
  omega
theorem Bk.zero (k : Nat) : Bk k 0 := (Bd.zero _).mono (Nat.zero_le _)

structure WfS (s : Circuit) (k : Nat) : Prop where
  wf : WfB s.breakage s.feed.length
  fl : ∀ n ∈ s.feed, n ≤ 100
  al : s.amounts.length = s.feed.length
  am : ∀ x ∈ s.amounts, Bk k x
  lo : Bk k s.loaded
  re : Bk k s.removed
theorem WfS.up {s : Circuit} {k : Nat} (h : WfS s k) : WfS s (k + 1) := ⟨h.wf, h.fl, h.al, fun x hx => (h.am x hx).up, h.lo.up, h.re.up⟩
theorem WfS.sz {s : Circuit} {k : Nat} (h : WfS s k) (hk : k ≤ 60) : ∀ x ∈ s.amounts, Sz 780 x := fun x hx => (h.am x hx).sz (by omega)
theorem WfS.l5 {s : Circuit} {k : Nat} (h : WfS s k) : s.amounts.length ≤ 5 := by rw [h.al]; exact h.wf.hi
theorem WfS.wfa {s : Circuit} {k : Nat} (h : WfS s k) : WfB s.breakage s.amounts.length := by rw [h.al]; exact h.wf

/-! ### what changes a state -/
def fresh (n : Nat) : Circuit := ⟨(List.range n).map fun i => List.replicate i 0 ++ [100], List.replicate n 0, List.replicate n 0, 0, 0, 0⟩
def small (x : Rat) : Bool := decide (x.num.toNat < 10 ^ 30) && decide (x.den < 10 ^ 30)
def mLoad (s : Circuit) : Bool × Circuit := if (tog s.amounts (whole s.feed)).all small then (true, { s with amounts := tog s.amounts (whole s.feed), loaded := s.loaded + ((s.feed.sum : Nat) : Rat) }) else (false, s)
def mGrind (s : Circuit) : Bool × Circuit := if (pass s.breakage s.amounts).all small then (true, { s with amounts := pass s.breakage s.amounts, passes := s.passes + 1 }) else (false, s)
def mRemove (s : Circuit) (c : Nat) : Circuit := { s with amounts := over s.amounts c, removed := s.removed + (under s.amounts c).sum }
def mRow (s : Circuit) (i : Nat) (r : List Nat) : Circuit := { s with breakage := s.breakage.set i r }
def mFeed (s : Circuit) (f : List Nat) : Circuit := { s with feed := f }
theorem getD_set {α : Type} {l : List α} {i j : Nat} {x d : α} (h : i < l.length) : (l.set i x).getD j d = if i = j then x else l.getD j d := by
  rw [List.getD_eq_getElem?_getD, List.getElem?_set, List.getD_eq_getElem?_getD]
  by_cases e : i = j
  · subst e
    rw [if_pos rfl, if_pos rfl, if_pos h]
    rfl
  · rw [if_neg e, if_neg e]
theorem fresh_wf {n : Nat} (h2 : 2 ≤ n) (h5 : n ≤ 5) (k : Nat) : WfS (fresh n) k := by
  have rw0 : ∀ i, i < n → (fresh n).breakage.getD i [] = List.replicate i 0 ++ [100] := fun i hi => by
    show ((List.range n).map fun i => List.replicate i 0 ++ [100]).getD i [] = _
    rw [getD_in (by simpa using hi), List.getElem_map, List.getElem_range]
  have lf : (fresh n).feed.length = n := by
    show (List.replicate n 0).length = n
    rw [List.length_replicate]
  refine ⟨?_, ?_, ?_, ?_, Bk.zero k, Bk.zero k⟩
  · rw [lf]
    refine ⟨by show ((List.range n).map _).length = n; simp, h2, h5, fun i hi => ?_, fun i hi => ?_, fun i hi c hc => ?_⟩
    · rw [rw0 i hi]
      simp
    · rw [rw0 i hi]
      simp
    · rw [rw0 i hi] at hc
      rcases List.mem_append.mp hc with q | q
      · have := (List.mem_replicate.mp q).2
        omega
      · have := List.mem_singleton.mp q
        omega
  · intro m hm
    have := (List.mem_replicate.mp (show m ∈ List.replicate n 0 from hm)).2
    omega
  · show (List.replicate n (0 : Rat)).length = (List.replicate n 0).length
    simp
  · intro x hx
    rw [(List.mem_replicate.mp (show x ∈ List.replicate n (0 : Rat) from hx)).2]
    exact Bk.zero k
theorem mRow_wf {s : Circuit} {k i : Nat} {r : List Nat} (h : WfS s k) (hi : i < s.feed.length) (hl : r.length = i + 1) (hs : r.sum = 100) (hr : ∀ c ∈ r, c ≤ 100) : WfS (mRow s i r) k := by
  have hb : i < s.breakage.length := by rw [h.wf.len]; exact hi
  refine ⟨?_, h.fl, h.al, h.am, h.lo, h.re⟩
  refine ⟨(List.length_set).trans h.wf.len, h.wf.lo, h.wf.hi, fun j hj => ?_, fun j hj => ?_, fun j hj c hc => ?_⟩
  · show ((s.breakage.set i r).getD j []).length = j + 1
    rw [getD_set hb]
    split
    · omega
    · exact h.wf.row j hj
  · show ((s.breakage.set i r).getD j []).sum = 100
    rw [getD_set hb]
    split
    · exact hs
    · exact h.wf.sum j hj
  · have hc : c ∈ (s.breakage.set i r).getD j [] := hc
    rw [getD_set hb] at hc
    split at hc
    · exact hr c hc
    · exact h.wf.le j hj c hc
theorem mFeed_wf {s : Circuit} {k : Nat} {f : List Nat} (h : WfS s k) (hl : f.length = s.feed.length) (hf : ∀ n ∈ f, n ≤ 100) : WfS (mFeed s f) k :=
  ⟨by show WfB s.breakage f.length; rw [hl]; exact h.wf, hf, by show s.amounts.length = f.length; rw [hl]; exact h.al, h.am, h.lo, h.re⟩
theorem feed_bd {f : List Nat} (hf : ∀ n ∈ f, n ≤ 100) (k : Nat) : ∀ x ∈ whole f, Bd (dn k) (100 * dn k) x := fun x hx => by
  obtain ⟨n, hn, rfl⟩ := mem_whole hx
  exact (Bd.nat n (dn k) (dn_pos k)).mono (Nat.mul_le_mul_right _ (hf n hn))
theorem feed_sum {f : List Nat} (hf : ∀ n ∈ f, n ≤ 100) : f.sum ≤ f.length * 100 := by
  induction f with
  | nil => simp
  | cons a r ih =>
    have h1 := hf a List.mem_cons_self
    have h2 := ih fun n hn => hf n (List.mem_cons_of_mem _ hn)
    rw [List.sum_cons, List.length_cons, Nat.succ_mul]
    omega
theorem mLoad_wf {s : Circuit} {k : Nat} (h : WfS s k) : WfS (mLoad s).2 (k + 1) := by
  unfold mLoad
  split
  · have nn := nm_succ k
    have dd := dn_succ k
    have dm := dn_le_nm k
    refine ⟨h.wf, h.fl, ?_, ?_, ?_, h.re.up⟩
    · show (tog s.amounts (whole s.feed)).length = s.feed.length
      rw [tog_len (by rw [whole_len, h.al]), h.al]
    · intro x hx
      obtain ⟨i, _, _, rfl⟩ := mem_tog hx
      have q1 := Bd.lift 100 (by decide) (Bd.getD h.am i)
      rw [← dd] at q1
      refine (Bd.add (dn_pos _) q1 (Bd.getD (feed_bd h.fl (k + 1)) i)).mono ?_
      omega
    · have q1 := Bd.lift 100 (by decide) h.lo
      rw [← dd] at q1
      have h1 := feed_sum h.fl
      have h2 := h.wf.hi
      have h3 : s.feed.sum * dn (k + 1) ≤ 500 * dn (k + 1) := Nat.mul_le_mul_right _ (by omega)
      refine (Bd.add (dn_pos _) q1 (Bd.nat s.feed.sum (dn (k + 1)) (dn_pos _))).mono ?_
      omega
  · exact h.up
theorem mGrind_wf {s : Circuit} {k : Nat} (h : WfS s k) : WfS (mGrind s).2 (k + 1) := by
  unfold mGrind
  split
  · refine ⟨h.wf, h.fl, (pass_len _ _).trans h.al, fun x hx => ?_, h.lo.up, h.re.up⟩
    have q := pass_bd h.wf h.al (dn_pos k) h.am x hx
    rw [← dn_succ] at q
    refine q.mono ?_
    rw [nm_succ]
    omega
  · exact h.up
theorem mRemove_wf {s : Circuit} {k c : Nat} (h : WfS s k) : WfS (mRemove s c) (k + 1) := by
  refine ⟨h.wf, h.fl, (over_len _ _).trans h.al, fun x hx => ?_, h.lo.up, ?_⟩
  · rcases mem_over hx with e | e
    · rw [e]
      exact Bk.zero _
    · exact (h.am x e).up
  · have q0 := Bd.sum (dn_pos k) (N := nm k) (under s.amounts c) fun x hx => by
      rcases mem_under hx with e | e
      · rw [e]
        exact Bk.zero _
      · exact h.am x e
    have h5 : (under s.amounts c).length * nm k ≤ 5 * nm k := Nat.mul_le_mul_right _ (by rw [under_len]; exact h.l5)
    have q1 := Bd.lift 100 (by decide) (Bd.add (dn_pos k) h.re (q0.mono h5))
    show Bd (dn (k + 1)) (nm (k + 1)) _
    rw [dn_succ]
    refine q1.mono ?_
    rw [nm_succ]
    omega
theorem under_sums {s : Circuit} {k c : Nat} (h : WfS s k) (hk : k ≤ 60) : Sums (under s.amounts c) :=
  Sums.of (b := 780) (fun x hx => by
    rcases mem_under hx with e | e
    · rw [e]
      exact Sz.zero.mono (by decide)
    · exact h.sz hk x e) (by rw [under_len]; exact h.l5) (by decide)
theorem am_sums {s : Circuit} {k : Nat} (h : WfS s k) (hk : k ≤ 60) : Sums s.amounts := Sums.of (b := 780) (h.sz hk) h.l5 (by decide)
/-- passes ahead -/
theorem passes_bk {s : Circuit} {k : Nat} (h : WfS s k) : ∀ j, ∀ x ∈ passes s.breakage j s.amounts, Bk (k + j) x
  | 0, x, hx => h.am x hx
  | j + 1, x, hx => by
    have q := pass_bd h.wf ((passes_len _ _ _).trans h.al) (dn_pos (k + j)) (passes_bk h j) x hx
    rw [← dn_succ] at q
    refine q.mono ?_
    rw [show k + (j + 1) = (k + j) + 1 from rfl, nm_succ]
    omega
theorem passes_sz {s : Circuit} {k : Nat} (h : WfS s k) (hk : k ≤ 60) : ∀ j, j ≤ 13 → ∀ x ∈ passes s.breakage j s.amounts, Sz 780 x := fun j hj x hx => (passes_bk h j x hx).sz (by omega)
/-- rounds ahead -/
theorem rds_bd {B : List (List Nat)} {f : List Nat} (h : WfB B f.length) (hf : ∀ n ∈ f, n ≤ 100) (c : Nat) : ∀ k, (∀ x ∈ (rds B f c k).1, Bd (dn k) (nm k) x) ∧ Bd (dn k) (nm k * 10) (rds B f c k).2 ∧ ∀ x ∈ pass B (tog (whole f) (rds B f c k).1), Bd (dn (k + 1)) (nm (k + 1)) x := by
  have key : ∀ k, (∀ x ∈ (rds B f c k).1, Bd (dn k) (nm k) x) → ∀ x ∈ pass B (tog (whole f) (rds B f c k).1), Bd (dn (k + 1)) (nm (k + 1)) x := fun k hk x hx => by
    have lt : (tog (whole f) (rds B f c k).1).length = f.length := by rw [tog_len (by rw [whole_len, rds_len]), whole_len]
    have q := pass_bd h lt (dn_pos k) (N := nm k + 100 * dn k) (fun y hy => by
      obtain ⟨i, _, _, rfl⟩ := mem_tog hy
      exact (Bd.add (dn_pos k) (Bd.getD (feed_bd hf k) i) (Bd.getD hk i)).mono (by omega)) x hx
    rw [← dn_succ] at q
    refine q.mono ?_
    have := dn_le_nm k
    rw [nm_succ]
    omega
  intro k
  induction k with
  | zero =>
    have h0 : ∀ x ∈ (rds B f c 0).1, Bd (dn 0) (nm 0) x := fun x hx => by
      rw [(List.mem_replicate.mp (show x ∈ List.replicate f.length (0 : Rat) from hx)).2]
      exact Bk.zero 0
    exact ⟨h0, (Bd.zero _).mono (Nat.zero_le _), key 0 h0⟩
  | succ k ih =>
    obtain ⟨i1, i2, i3⟩ := ih
    have h0 : ∀ x ∈ (rds B f c (k + 1)).1, Bd (dn (k + 1)) (nm (k + 1)) x := fun x hx => by
      rcases mem_over (show x ∈ over (pass B (tog (whole f) (rds B f c k).1)) c from hx) with e | e
      · rw [e]
        exact Bk.zero _
      · exact i3 x e
    refine ⟨h0, ?_, key (k + 1) h0⟩
    show Bd (dn (k + 1)) (nm (k + 1) * 10) ((rds B f c k).2 + (under (pass B (tog (whole f) (rds B f c k).1)) c).sum)
    have lt : (under (pass B (tog (whole f) (rds B f c k).1)) c).length ≤ 5 := by
      rw [under_len, pass_len, tog_len (by rw [whole_len, rds_len]), whole_len]
      exact h.hi
    have q0 := Bd.sum (dn_pos (k + 1)) (N := nm (k + 1)) (under (pass B (tog (whole f) (rds B f c k).1)) c) fun x hx => by
      rcases mem_under hx with e | e
      · rw [e]
        exact Bk.zero _
      · exact i3 x e
    have h5 := Nat.mul_le_mul_right (nm (k + 1)) lt
    have q1 := Bd.lift 100 (by decide) i2
    rw [← dn_succ] at q1
    refine (Bd.add (dn_pos _) q1 (q0.mono h5)).mono ?_
    have := nm_succ k
    omega
def RdOk (B : List (List Nat)) (f : List Nat) (c : Nat) : Prop := ∀ k, k ≤ 12 → (∀ x ∈ (rds B f c k).1, Sz 780 x) ∧ Sz 780 (rds B f c k).2 ∧ ∀ x ∈ pass B (tog (whole f) (rds B f c k).1), Sz 780 x
theorem rdOk {B : List (List Nat)} {f : List Nat} (h : WfB B f.length) (hf : ∀ n ∈ f, n ≤ 100) (c : Nat) : RdOk B f c := fun k hk => by
  obtain ⟨i1, i2, i3⟩ := rds_bd h hf c k
  refine ⟨fun x hx => Bd.sz (i1 x hx) (dn_pos _) (dn_lt (by omega)) (nm_lt (by omega)), Bd.sz i2 (dn_pos _) (dn_lt (by omega)) ?_, fun x hx => Bd.sz (i3 x hx) (dn_pos _) (dn_lt (by omega)) (nm_lt (by omega))⟩
  have h1 : nm k ≤ 1000 ^ 13 := Nat.pow_le_pow_right (by decide) (Nat.succ_le_succ hk)
  exact Nat.lt_of_le_of_lt (Nat.mul_le_mul_right 10 h1) (by decide)
end Gs
end P_GsM4
section P_GsM5
set_option maxRecDepth 100000
/-! GsM5: how many passes are needed. -/
namespace Gs
open Kp408 (Circuit)
def reach (s : Circuit) (m d j : Nat) : Bool := decide (s.amounts.sum * (m : Rat) / (d : Rat) ≤ (passes s.breakage j s.amounts).getD 0 0)
def needed (s : Circuit) (m d : Nat) : Nat := (((List.range 13).map fun i => i).find? (reach s m d)).getD 13
end Gs
end P_GsM5
section P_GsM6
set_option maxRecDepth 100000
/-! GsM6: each call on a circuit, as the program answers it. -/
namespace Gs
open Kp408 (Circuit)
/-- the numbers of fractions, one behind another -/
def nums (xs : List Rat) : List Int := xs.flatMap fun x => [((x.num.toNat : Nat) : Int), ((x.den : Nat) : Int)]
def cnt (xs : List Rat) : List Int := ((xs.length : Nat) : Int) :: nums xs
def rowOk (r : List Nat) (m : Nat) : Bool := decide (r.length = m) && (decide (r.sum = 100) && r.all fun c => decide (c ≤ 100))
def isCut (s : Circuit) (c : Nat) : Bool := decide (1 ≤ c) && decide (c < s.feed.length)
def refusal (s : Circuit) (c : Nat) : List Int := if isCut s c then (if isSteady s.breakage c then [] else [-33]) else [-22]
def dSetBreakage (s : Circuit) (i : Nat) (r : List Nat) : Circuit × List Int := if i < s.feed.length then (if rowOk r (i + 1) then (mRow s i r, [0]) else (s, [-22])) else (s, [-2])
def dGetBreakage (s : Circuit) (i : Nat) : List Int := if i < s.feed.length then ((i + 1 : Nat) : Int) :: (s.breakage.getD i []).map fun (n : Nat) => (n : Int) else [-2]
def dSetFeed (s : Circuit) (f : List Nat) : Circuit × List Int := if f.length = s.feed.length ∧ f.any (fun c => decide (100 < c)) = false then (mFeed s f, [((s.feed.sum : Nat) : Int)]) else (s, [-22])
def dLoad (s : Circuit) : Circuit × List Int := ((mLoad s).2, if (mLoad s).1 then cnt (mLoad s).2.amounts else [-75])
def dGrind (s : Circuit) : Circuit × List Int := ((mGrind s).2, if (mGrind s).1 then cnt (mGrind s).2.amounts else [-75])
def dRemove (s : Circuit) (c : Nat) : Circuit × List Int := if isCut s c then (mRemove s c, 0 :: nums [(under s.amounts c).sum]) else (s, [-22])
def dUpTo (s : Circuit) (i : Nat) : List Int := if i < s.feed.length then 0 :: nums [(s.amounts.take (i + 1)).sum] else [-2]
def dPreview (s : Circuit) (m : Nat) : List Int := if 12 < m then [-22] else cnt (passes s.breakage m s.amounts)
def dHas (s : Circuit) (c : Nat) : List Int := if isCut s c then [if isSteady s.breakage c then 1 else 0] else [-22]
/-- behind a refusal -/
def told (s : Circuit) (c : Nat) (l : List Int) : List Int := if isCut s c then (if isSteady s.breakage c then l else [-33]) else [-22]
def dInput (s : Circuit) (c : Nat) : List Int := told s c (cnt (stIn s.breakage s.feed c))
def dProduct (s : Circuit) (c : Nat) : List Int := told s c (cnt (under (pass s.breakage (stIn s.breakage s.feed c)) c))
def dSLoad (s : Circuit) (c : Nat) : List Int := told s c (0 :: nums [(stIn s.breakage s.feed c).sum])
def dRatio (s : Circuit) (c : Nat) : List Int := told s c (if s.feed.sum = 0 then [-6] else 0 :: nums [(stIn s.breakage s.feed c).sum * ((1 : Nat) : Rat) / ((s.feed.sum : Nat) : Rat)])
def dRounds (s : Circuit) (c m : Nat) : List Int := if isCut s c = true ∧ m ≤ 12 then 0 :: nums [(rds s.breakage s.feed c m).1.sum, (rds s.breakage s.feed c m).2] else [-22]
def dTotals (s : Circuit) : List Int := ((s.passes : Nat) : Int) :: nums [s.loaded, s.removed, s.amounts.sum]
def dNeeded (s : Circuit) (m d : Nat) : List Int := if (1 ≤ d ∧ d ≤ 100) ∧ m ≤ d then (if s.amounts.sum.num.toNat = 0 then [-6] else if needed s m d ≤ 12 then [((needed s m d : Nat) : Int)] else [-33]) else [-22]
def dCoarse (s : Circuit) (m d : Nat) : List Int := if m ≤ 999 ∧ (1 ≤ d ∧ d ≤ 99) then (if 0 < coarse s.breakage s.feed m d then [((coarse s.breakage s.feed m d : Nat) : Int)] else [-33]) else [-22]
def dFeed (s : Circuit) : List Int := ((s.feed.length : Nat) : Int) :: s.feed.map fun (n : Nat) => (n : Int)
theorem told_eq (s : Circuit) (c : Nat) (l : List Int) : told s c l = if refusal s c = [] then l else refusal s c := by
  unfold told refusal
  split
  · split
    · rfl
    · rfl
  · rfl
end Gs
end P_GsM6
section P_GsM7
set_option maxRecDepth 100000
/-! GsM7: a call as it stands in the list, a step, a run. -/
namespace Gs
open Kp408 (Circuit)
/-- a call: its number, its whole numbers, its row -/
structure Cl where
  num : Nat
  as : List Nat
  rw : List Nat
def arity : List Nat := [1, 1, 1, 0, 0, 0, 1, 0, 1, 1, 1, 1, 1, 1, 1, 2, 0, 2, 2, 0]
def withRow (n : Nat) : Bool := decide (n = 1) || decide (n = 3)
structure Cl.Ok (c : Cl) : Prop where
  num : c.num < 20
  as : c.as.length = arity.getD c.num 0
  rw0 : withRow c.num = false → c.rw = []
  rw8 : c.rw.length ≤ 8
abbrev toI (l : List Nat) : List Int := l.map fun (n : Nat) => (n : Int)
def Cl.tail (c : Cl) : List Int := if withRow c.num then ((c.rw.length : Nat) : Int) :: toI c.rw else []
def Cl.enc (c : Cl) : List Int := ((c.num : Nat) : Int) :: (toI c.as ++ c.tail)
def flat (cs : List Cl) : List Int := cs.flatMap Cl.enc
/-- what is done on a circuit -/
def dCall (s : Circuit) : Nat → List Nat → List Nat → Circuit × List Int
  | 1, [i], r => dSetBreakage s i r
  | 2, [i], _ => (s, dGetBreakage s i)
  | 3, [], f => dSetFeed s f
  | 4, [], _ => dLoad s
  | 5, [], _ => dGrind s
  | 6, [c], _ => dRemove s c
  | 7, [], _ => (s, cnt s.amounts)
  | 8, [i], _ => (s, dUpTo s i)
  | 9, [i], _ => (s, dPreview s i)
  | 10, [i], _ => (s, dHas s i)
  | 11, [i], _ => (s, dInput s i)
  | 12, [i], _ => (s, dProduct s i)
  | 13, [i], _ => (s, dSLoad s i)
  | 14, [i], _ => (s, dRatio s i)
  | 15, [i, j], _ => (s, dRounds s i j)
  | 16, [], _ => (s, dTotals s)
  | 17, [i, j], _ => (s, dNeeded s i j)
  | 18, [i, j], _ => (s, dCoarse s i j)
  | 19, [], _ => (s, dFeed s)
  | _, _, _ => (s, [])
def dStep (st : Option Circuit) (c : Cl) : Option Circuit × List Int := match c.num, c.as, st with
  | 0, [n], _ => if 2 ≤ n ∧ n ≤ 5 then (some (fresh n), [0]) else (st, [-22])
  | _, _, none => (none, [-11])
  | n, as, some s => (some (dCall s n as c.rw).1, (dCall s n as c.rw).2)
def after (st : Option Circuit) (cs : List Cl) : Option Circuit := cs.foldl (fun s c => (dStep s c).1) st
def outs : Option Circuit → List Cl → List Int
  | _, [] => []
  | st, c :: r => (((dStep st c).2.length : Nat) : Int) :: (dStep st c).2 ++ outs (dStep st c).1 r
theorem outs_append : ∀ (cs ds : List Cl) (st : Option Circuit), outs st (cs ++ ds) = outs st cs ++ outs (after st cs) ds
  | [], _, _ => rfl
  | c :: r, ds, st => by
    show (((dStep st c).2.length : Nat) : Int) :: (dStep st c).2 ++ outs (dStep st c).1 (r ++ ds) = (((dStep st c).2.length : Nat) : Int) :: (dStep st c).2 ++ outs (dStep st c).1 r ++ outs (after (dStep st c).1 r) ds
    rw [outs_append r ds, List.append_assoc]
theorem after_append (st : Option Circuit) (cs ds : List Cl) : after st (cs ++ ds) = after (after st cs) ds := List.foldl_append
theorem take_snoc {α : Type} : ∀ {l : List α} {i : Nat} {x : α}, l[i]? = some x → l.take (i + 1) = l.take i ++ [x] := fun {l i x} h => by
  rw [List.take_add_one, h]
  rfl
theorem after_take {cs : List Cl} {i : Nat} {c : Cl} {st : Option Circuit} (h : cs[i]? = some c) : after st (cs.take (i + 1)) = (dStep (after st (cs.take i)) c).1 := by
  rw [take_snoc h, after_append]
  rfl
theorem outs_take {cs : List Cl} {i : Nat} {c : Cl} {st : Option Circuit} (h : cs[i]? = some c) : outs st (cs.take (i + 1)) = outs st (cs.take i) ++ [(((dStep (after st (cs.take i)) c).2.length : Nat) : Int)] ++ (dStep (after st (cs.take i)) c).2 := by
  rw [take_snoc h, outs_append, List.append_assoc]
  congr 1
  show _ :: _ ++ [] = _
  rw [List.append_nil]
  rfl

/-! ### a state stays in form -/
def WfO (st : Option Circuit) (k : Nat) : Prop := ∀ s, st = some s → WfS s k
theorem row_in {s : Circuit} {k i : Nat} {r : List Nat} (h : WfS s k) : WfS (dSetBreakage s i r).1 k := by
  unfold dSetBreakage
  split
  · rename_i hi
    split
    · rename_i ho
      unfold rowOk at ho
      simp only [Bool.and_eq_true, decide_eq_true_eq, List.all_eq_true] at ho
      exact mRow_wf h hi ho.1 ho.2.1 ho.2.2
    · exact h
  · exact h
theorem feed_in {s : Circuit} {k : Nat} {f : List Nat} (h : WfS s k) : WfS (dSetFeed s f).1 k := by
  unfold dSetFeed
  split
  · rename_i ho
    refine mFeed_wf h ho.1 fun n hn => ?_
    have q := ho.2
    rw [List.any_eq_false] at q
    have := q n hn
    simp only [decide_eq_true_eq] at this
    omega
  · exact h
theorem dCall_wf {s : Circuit} {k : Nat} (h : WfS s k) (n : Nat) (as r : List Nat) : WfS (dCall s n as r).1 (k + 1) := by
  unfold dCall
  split <;> first | exact h.up | exact (row_in h).up | exact (feed_in h).up | exact mLoad_wf h | exact mGrind_wf h | skip
  unfold dRemove
  split
  · exact mRemove_wf h
  · exact h.up
theorem dStep_wf {st : Option Circuit} {k : Nat} (h : WfO st k) (c : Cl) : WfO (dStep st c).1 (k + 1) := by
  unfold dStep
  split
  · split
    · rename_i hn
      intro s e
      cases e
      exact fresh_wf hn.1 hn.2 _
    · exact fun s e => (h s e).up
  · intro s e
    cases e
  · intro s e
    cases e
    exact dCall_wf (h _ rfl) _ _ _
theorem after_wf : ∀ (cs : List Cl) (st : Option Circuit) (k : Nat), WfO st k → WfO (after st cs) (k + cs.length)
  | [], _, _, h => h
  | c :: r, st, k, h => by
    have q := after_wf r (dStep st c).1 (k + 1) (dStep_wf h c)
    rw [show k + (c :: r).length = k + 1 + r.length by rw [List.length_cons]; omega]
    exact q
theorem wf_start (cs : List Cl) : WfO (after none cs) cs.length := by
  have q := after_wf cs none 0 (fun s e => by cases e)
  rw [Nat.zero_add] at q
  exact q

/-! ### an answer is short -/
theorem nums_len (xs : List Rat) : (nums xs).length = 2 * xs.length := by
  induction xs with
  | nil => rfl
  | cons x r ih =>
    show ([((x.num.toNat : Nat) : Int), ((x.den : Nat) : Int)] ++ nums r).length = _
    rw [List.length_append, ih]
    show 2 + 2 * r.length = 2 * (r.length + 1)
    omega
theorem cnt_len {xs : List Rat} (h : xs.length ≤ 5) : (cnt xs).length ≤ 11 := by
  show (nums xs).length + 1 ≤ 11
  rw [nums_len]
  omega
theorem told_len {s : Circuit} {c : Nat} {l : List Int} (h : (s.feed.length > c → l.length ≤ 11)) : (told s c l).length ≤ 11 := by
  unfold told
  split
  · rename_i hc
    split
    · refine h ?_
      unfold isCut at hc
      simp only [Bool.and_eq_true, decide_eq_true_eq] at hc
      exact hc.2
    · decide
  · decide
theorem n1_len (n : Int) (x : Rat) : (n :: nums [x]).length ≤ 11 := by
  show (nums [x]).length + 1 ≤ 11
  rw [nums_len]
  show 2 * 1 + 1 ≤ 11
  decide
theorem dCall_len {s : Circuit} {k : Nat} (h : WfS s k) (n : Nat) (as r : List Nat) : (dCall s n as r).2.length ≤ 11 := by
  have h5 := h.wf.hi
  have a5 := h.l5
  unfold dCall
  split
  · unfold dSetBreakage
    split
    · split <;> exact (by decide : 1 ≤ 11)
    · exact (by decide : 1 ≤ 11)
  · unfold dGetBreakage
    split
    · rename_i hi
      rw [List.length_cons, List.length_map, h.wf.row _ hi]
      omega
    · exact (by decide : 1 ≤ 11)
  · unfold dSetFeed
    split <;> exact (by decide : 1 ≤ 11)
  · unfold dLoad
    dsimp only
    split
    · exact cnt_len (mLoad_wf h).l5
    · exact (by decide : 1 ≤ 11)
  · unfold dGrind
    dsimp only
    split
    · exact cnt_len (mGrind_wf h).l5
    · exact (by decide : 1 ≤ 11)
  · unfold dRemove
    split
    · exact n1_len _ _
    · exact (by decide : 1 ≤ 11)
  · exact cnt_len a5
  · unfold dUpTo
    split
    · exact n1_len _ _
    · exact (by decide : 1 ≤ 11)
  · unfold dPreview
    split
    · exact (by decide : 1 ≤ 11)
    · exact cnt_len (by rw [passes_len]; exact a5)
  · unfold dHas
    split <;> exact (by decide : 1 ≤ 11)
  · exact told_len fun q => cnt_len (by rw [stIn_len (by omega)]; exact h5)
  · exact told_len fun q => cnt_len (by rw [under_len, pass_len, stIn_len (by omega)]; exact h5)
  · exact told_len fun q => n1_len _ _
  · refine told_len fun q => ?_
    split
    · exact (by decide : 1 ≤ 11)
    · exact n1_len _ _
  · unfold dRounds
    split
    · rw [List.length_cons, nums_len]
      exact (by decide : 2 * 2 + 1 ≤ 11)
    · exact (by decide : 1 ≤ 11)
  · unfold dTotals
    rw [List.length_cons, nums_len]
    exact (by decide : 2 * 3 + 1 ≤ 11)
  · unfold dNeeded
    split
    · split
      · exact (by decide : 1 ≤ 11)
      · split <;> exact (by decide : 1 ≤ 11)
    · exact (by decide : 1 ≤ 11)
  · unfold dCoarse
    split
    · split <;> exact (by decide : 1 ≤ 11)
    · exact (by decide : 1 ≤ 11)
  · unfold dFeed
    rw [List.length_cons, List.length_map]
    omega
  · exact (by decide : 0 ≤ 11)
theorem dStep_len {st : Option Circuit} {k : Nat} (h : WfO st k) (c : Cl) : (dStep st c).2.length ≤ 11 := by
  unfold dStep
  split
  · split <;> exact (by decide : 1 ≤ 11)
  · exact (by decide : 1 ≤ 11)
  · exact dCall_len (h _ rfl) _ _ _
theorem outs_len : ∀ (cs : List Cl) (st : Option Circuit) (k : Nat), WfO st k → (outs st cs).length ≤ 12 * cs.length
  | [], _, _, _ => Nat.le_refl _
  | c :: r, st, k, h => by
    have q := outs_len r (dStep st c).1 (k + 1) (dStep_wf h c)
    have q2 := dStep_len h c
    show ((((dStep st c).2.length : Nat) : Int) :: (dStep st c).2 ++ outs (dStep st c).1 r).length ≤ 12 * (r.length + 1)
    rw [List.length_append, List.length_cons]
    omega
end Gs
end P_GsM7
section P_GsM8
set_option maxRecDepth 100000
/-! GsM8: what the program reckons is what the specification reckons. -/
namespace Gs
open Kp408 (Circuit)
/-! ### one pass -/
theorem whole_is (s : Circuit) : Kp408.feedAmounts s = whole s.feed := rfl
theorem amountAt_is (l : List Rat) (i : Nat) : Kp408.amountAt l i = l.getD i 0 := rfl
theorem breakageAt_is (s : Circuit) (i j : Nat) : Kp408.breakageAt s i j = ((cell s.breakage i j : Nat) : Rat) / ((100 : Nat) : Rat) := rfl
theorem zero_div (x : Rat) : (0 : Rat) / x = 0 := by rw [Rat.div_def, Rat.zero_mul]
theorem sum_zero : ∀ (l : List Rat), (∀ x ∈ l, x = 0) → l.sum = 0
  | [], _ => rfl
  | x :: r, h => by
    rw [List.sum_cons, h x List.mem_cons_self, sum_zero r fun y hy => h y (List.mem_cons_of_mem _ hy), Rat.zero_add]
theorem sum_append (a b : List Rat) : (a ++ b).sum = a.sum + b.sum := by
  induction a with
  | nil => rw [List.nil_append, List.sum_nil, Rat.zero_add]
  | cons x r ih => rw [List.cons_append, List.sum_cons, List.sum_cons, ih, Rat.add_assoc]
/-- a sum over places, place by place -/
theorem sum_range_succ (g : Nat → Rat) (n : Nat) : ((List.range (n + 1)).map g).sum = ((List.range n).map g).sum + g n := by
  rw [List.range_succ, List.map_append, sum_append]
  congr 1
  show g n + 0 = g n
  exact Rat.add_zero _
theorem range_split (g : Nat → Rat) (j : Nat) : ∀ k, ((List.range (j + k)).map g).sum = ((List.range j).map g).sum + ((List.range k).map fun i => g (j + i)).sum
  | 0 => by
    rw [Nat.add_zero]
    show _ = _ + (0 : Rat)
    rw [Rat.add_zero]
  | k + 1 => by
    rw [← Nat.add_assoc, sum_range_succ, range_split g j k, sum_range_succ, Rat.add_assoc]
theorem icPart_sum (B : List (List Nat)) (xs : List Rat) (j : Nat) : ∀ k, icPart B xs j k = ((List.range k).map fun i => xs.getD (j + i) 0 * (((cell B (j + i) j : Nat) : Rat) / ((100 : Nat) : Rat))).sum
  | 0 => rfl
  | k + 1 => by
    rw [sum_range_succ, ← icPart_sum B xs j k, ← mul_div]
    rfl
theorem cell_out {B : List (List Nat)} {n i j : Nat} (h : WfB B n) (hi : i < n) (hj : i < j) : cell B i j = 0 := by
  unfold cell
  exact getD_out (by rw [h.row i hi]; omega)
theorem ground_is {s : Circuit} {l : List Rat} (h : WfB s.breakage l.length) : Kp408.ground s l = pass s.breakage l := by
  unfold Kp408.ground pass Kp408.classCount
  rw [h.len]
  refine List.map_congr_left fun j hj => ?_
  have hj' : j < l.length := List.mem_range.mp hj
  unfold icls
  rw [icPart_sum]
  have e : l.length = j + (l.length - j) := by omega
  conv => lhs; rw [e]
  rw [range_split]
  have z : ((List.range j).map fun i => Kp408.amountAt l i * Kp408.breakageAt s i j).sum = 0 := by
    refine sum_zero _ fun x hx => ?_
    obtain ⟨i, hi, rfl⟩ := List.mem_map.mp hx
    have hi' := List.mem_range.mp hi
    rw [breakageAt_is, cell_out h (by omega) hi']
    show _ * ((0 : Rat) / _) = 0
    rw [zero_div, Rat.mul_zero]
  rw [z, Rat.zero_add]
  rfl
theorem passes_shift (B : List (List Nat)) : ∀ (k : Nat) (l : List Rat), passes B k (pass B l) = passes B (k + 1) l
  | 0, _ => rfl
  | k + 1, l => by
    show pass B (passes B k (pass B l)) = pass B (passes B (k + 1) l)
    rw [passes_shift B k l]
theorem groundTimes_is {s : Circuit} : ∀ (k : Nat) (l : List Rat), WfB s.breakage l.length → Kp408.groundTimes s k l = passes s.breakage k l
  | 0, _, _ => rfl
  | k + 1, l, h => by
    show Kp408.groundTimes s k (Kp408.ground s l) = _
    rw [ground_is h, groundTimes_is k _ (by rw [pass_len]; exact h), passes_shift]
theorem add_is {xs ys : List Rat} : Kp408.addAmounts xs ys = tog xs ys := by
  unfold Kp408.addAmounts tog
  refine List.ext_getElem (by simp) fun i h1 h2 => ?_
  have hi : i < min xs.length ys.length := by simpa using h2
  rw [List.getElem_zipWith, List.getElem_map, List.getElem_range, getD_in (by omega), getD_in (by omega)]
theorem over_is {l : List Rat} {c : Nat} : Kp408.oversize c l = over l c := by
  unfold Kp408.oversize over
  refine List.ext_getElem (by simp) fun i h1 h2 => ?_
  have hi : i < l.length := by simpa using h2
  rw [List.getElem_map, List.getElem_map, List.getElem_range, List.getElem_zipIdx, getD_in hi]
  dsimp only
  rw [Nat.zero_add]
  by_cases h : i < c
  · rw [if_neg (by omega), if_pos h]
  · rw [if_pos (by omega), if_neg h]
theorem under_is {l : List Rat} {c : Nat} : Kp408.undersize c l = under l c := by
  unfold Kp408.undersize under
  refine List.ext_getElem (by simp) fun i h1 h2 => ?_
  have hi : i < l.length := by simpa using h2
  rw [List.getElem_map, List.getElem_map, List.getElem_range, List.getElem_zipIdx, getD_in hi]
  dsimp only
  rw [Nat.zero_add]
/-! ### the steady state's test -/
theorem steady_is {s : Circuit} {c : Nat} (h : c ≤ s.breakage.length) : Kp408.hasSteadyState s c = isSteady s.breakage c := by
  unfold Kp408.hasSteadyState isSteady Kp408.classCount
  rw [Bool.eq_iff_iff, List.all_eq_true, List.all_map, List.all_eq_true]
  constructor
  · intro q i hi
    have hi' := List.mem_range.mp hi
    have := q (c + i) (List.mem_range.mpr (by omega))
    simp only [Bool.or_eq_true, decide_eq_true_eq] at this
    simp only [Function.comp_apply, id_eq, decide_eq_true_eq]
    rcases this with e | e
    · omega
    · exact e
  · intro q i hi
    have hi' := List.mem_range.mp hi
    simp only [Bool.or_eq_true, decide_eq_true_eq]
    by_cases hc : i < c
    · exact .inl hc
    · right
      have := q (i - c) (List.mem_range.mpr (by omega))
      simp only [Function.comp_apply, id_eq, decide_eq_true_eq] at this
      rw [show c + (i - c) = i by omega] at this
      exact this
/-! ### rounds -/
theorem rds_snoc {s : Circuit} {c : Nat} (h : WfB s.breakage s.feed.length) : ∀ (k j : Nat), Kp408.runRounds s c k (rds s.breakage s.feed c j).1 (rds s.breakage s.feed c j).2 = rds s.breakage s.feed c (j + k)
  | 0, j => rfl
  | k + 1, j => by
    have lt : (tog (whole s.feed) (rds s.breakage s.feed c j).1).length = s.feed.length := by rw [tog_len (by rw [whole_len, rds_len]), whole_len]
    show Kp408.runRounds s c k (Kp408.oversize c (Kp408.ground s (Kp408.addAmounts (Kp408.feedAmounts s) (rds s.breakage s.feed c j).1))) ((rds s.breakage s.feed c j).2 + (Kp408.undersize c (Kp408.ground s (Kp408.addAmounts (Kp408.feedAmounts s) (rds s.breakage s.feed c j).1))).sum) = _
    rw [add_is, whole_is, ground_is (by rw [lt]; exact h), over_is, under_is]
    have q := rds_snoc (c := c) h k (j + 1)
    rw [show j + 1 + k = j + (k + 1) by omega] at q
    exact q
theorem rounds_is {s : Circuit} {c k : Nat} (h : WfB s.breakage s.feed.length) : Kp408.runRounds s c k (Kp408.noMaterial s) 0 = rds s.breakage s.feed c k := by
  have q := rds_snoc (c := c) h k 0
  rw [Nat.zero_add] at q
  have e : Kp408.noMaterial s = (rds s.breakage s.feed c 0).1 := by
    show List.replicate s.breakage.length (0 : Rat) = List.replicate s.feed.length 0
    rw [h.len]
  rw [e]
  exact q
/-! ### results -/
theorem fraction_is {x : Rat} (h : 0 ≤ x) : Kp408.fraction x = [((x.num.toNat : Nat) : Int), ((x.den : Nat) : Int)] := by
  unfold Kp408.fraction
  rw [← num_nat h]
theorem nums_is : ∀ {l : List Rat}, (∀ x ∈ l, 0 ≤ x) → l.flatMap Kp408.fraction = nums l
  | [], _ => rfl
  | x :: r, h => by
    show Kp408.fraction x ++ r.flatMap Kp408.fraction = [((x.num.toNat : Nat) : Int), ((x.den : Nat) : Int)] ++ nums r
    rw [fraction_is (h x List.mem_cons_self), nums_is fun y hy => h y (List.mem_cons_of_mem _ hy)]
theorem limit_is {l : List Rat} (h : ∀ x ∈ l, 0 ≤ x) : Kp408.withinLimit l = l.all small := by
  unfold Kp408.withinLimit
  rw [Bool.eq_iff_iff, List.all_eq_true, List.all_eq_true]
  have key : ∀ x ∈ l, ((decide (x.num < Kp408.numberLimit) && decide ((x.den : Int) < Kp408.numberLimit)) = true ↔ small x = true) := fun x hx => by
    have e := num_nat (h x hx)
    unfold small Kp408.numberLimit
    rw [Bool.and_eq_true, Bool.and_eq_true, decide_eq_true_eq, decide_eq_true_eq, decide_eq_true_eq, decide_eq_true_eq]
    generalize x.num.toNat = n at e ⊢
    rw [e]
    constructor
    · intro q
      exact ⟨by have := q.1; omega, by have := q.2; omega⟩
    · intro q
      exact ⟨by have := q.1; omega, by have := q.2; omega⟩
  exact ⟨fun q x hx => (key x hx).mp (q x hx), fun q x hx => (key x hx).mpr (q x hx)⟩
end Gs
end P_GsM8
section P_GsM9
set_option maxRecDepth 100000
/-! GsM9: the steady state is the specification's. -/
namespace Gs
open Kp408 (Circuit)
theorem div_hundred (a d : Rat) : a / (d / ((100 : Nat) : Rat)) = a * ((100 : Nat) : Rat) / d := by
  rw [Rat.div_def, Rat.div_def, Rat.div_def, Rat.inv_mul_rev, Rat.inv_inv, Rat.mul_assoc]
theorem one_sub {c : Nat} (h : c < 100) : (1 : Rat) - ((c : Nat) : Rat) / ((100 : Nat) : Rat) = ((100 - c : Nat) : Rat) / ((100 : Nat) : Rat) := by
  have e : ((100 - c : Nat) : Rat) + (c : Rat) = ((100 : Nat) : Rat) := by
    rw [← Rat.natCast_add]
    congr 1
    omega
  have h0 : ((100 : Nat) : Rat) ≠ 0 := by decide
  have e2 : ((100 : Nat) : Rat) / ((100 : Nat) : Rat) = 1 := by
    rw [Rat.div_def]
    exact Rat.mul_inv_cancel _ h0
  have e3 : ((100 - c : Nat) : Rat) / ((100 : Nat) : Rat) + (c : Rat) / ((100 : Nat) : Rat) = 1 := by
    rw [Rat.div_def, Rat.div_def, ← Rat.add_mul, e, ← Rat.div_def, e2]
  rw [← e3]
  exact Rat.add_sub_cancel
theorem div_one (a : Rat) : a / 1 = a := by
  rw [Rat.div_def]
  have : (1 : Rat)⁻¹ = 1 := Rat.inv_eq_of_mul_eq_one (Rat.mul_one 1)
  rw [this, Rat.mul_one]
theorem set_rep {α : Type} (z v : α) : ∀ (m : Nat) (ys : List α), (List.replicate (m + 1) z ++ ys).set m v = List.replicate m z ++ v :: ys
  | 0, _ => rfl
  | m + 1, ys => congrArg (z :: ·) (set_rep z v m ys)
theorem rep_getD {m i : Nat} {ys : List Rat} (h : i < m) : (List.replicate m (0 : Rat) ++ ys).getD i 0 = 0 := by
  rw [List.getD_eq_getElem?_getD, List.getElem?_append_left (by rw [List.length_replicate]; exact h), List.getElem?_replicate]
  split <;> rfl
theorem rep_getD2 {m i : Nat} {ys : List Rat} : (List.replicate m (0 : Rat) ++ ys).getD (m + i) 0 = ys.getD i 0 := by
  rw [List.getD_eq_getElem?_getD, List.getElem?_append_right (by rw [List.length_replicate]; omega), List.length_replicate, Nat.add_sub_cancel_left, ← List.getD_eq_getElem?_getD]
/-- one turn of the specification's loop -/
def turn (s : Circuit) (cut : Nat) (x : List Rat) (j : Nat) : List Rat :=
  let returned := if cut ≤ j then ((List.range (Kp408.classCount s)).map fun i => if j < i then Kp408.amountAt x i * Kp408.breakageAt s i j else 0).sum else 0
  let leaving := if cut ≤ j then 1 - Kp408.breakageAt s j j else 1
  x.set j ((Kp408.amountAt (Kp408.feedAmounts s) j + returned) / leaving)
def turns (s : Circuit) (cut : Nat) : Nat → List Rat
  | 0 => List.replicate s.breakage.length 0
  | k + 1 => turn s cut (turns s cut k) (s.breakage.length - 1 - k)
theorem rev_range (n : Nat) : (List.range n).reverse = (List.range n).map fun i => n - 1 - i := by
  refine List.ext_getElem (by simp) fun i h1 h2 => ?_
  have hi : i < n := by simpa using h2
  rw [List.getElem_reverse, List.getElem_map, List.getElem_range, List.getElem_range, List.length_range]
theorem turns_fold (s : Circuit) (cut : Nat) : ∀ k, ((List.range k).map fun i => s.breakage.length - 1 - i).foldl (turn s cut) (List.replicate s.breakage.length 0) = turns s cut k
  | 0 => rfl
  | k + 1 => by
    rw [List.range_succ, List.map_append, List.foldl_append, turns_fold s cut k]
    rfl
theorem steadyInput_turns (s : Circuit) (cut : Nat) : Kp408.steadyInput s cut = turns s cut s.breakage.length := by
  rw [← turns_fold, ← rev_range]
  rfl
theorem ciPart_sum (B : List (List Nat)) (f : List Nat) (j : Nat) (cs : List Rat) : ∀ k, ciPart B f j cs k = ((f.getD j 0 : Nat) : Rat) + ((List.range k).map fun i => cs.getD i 0 * (((cell B (j + 1 + i) j : Nat) : Rat) / ((100 : Nat) : Rat))).sum
  | 0 => (Rat.add_zero _).symm
  | k + 1 => by
    rw [sum_range_succ, ← Rat.add_assoc, ← ciPart_sum B f j cs k, ← mul_div]
    rfl
theorem feedAt_is (s : Circuit) (j : Nat) : Kp408.amountAt (Kp408.feedAmounts s) j = ((s.feed.getD j 0 : Nat) : Rat) := by
  rw [amountAt_is, whole_is, whole]
  by_cases h : j < s.feed.length
  · rw [getD_in (by rw [List.length_map]; exact h), getD_in h, List.getElem_map]
  · rw [getD_out (by rw [List.length_map]; omega), getD_out (by omega)]
    rfl
theorem turns_over {s : Circuit} {c : Nat} (h : WfB s.breakage s.feed.length) (hs : isSteady s.breakage c = true) : ∀ k, k ≤ s.feed.length - c → turns s c k = List.replicate (s.feed.length - k) 0 ++ stPart s.breakage s.feed k
  | 0, _ => by
    show List.replicate s.breakage.length 0 = List.replicate s.feed.length 0 ++ []
    rw [h.len, List.append_nil]
  | k + 1, hk => by
    have ih := turns_over h hs k (by omega)
    have hn := h.lo
    show turn s c (turns s c k) (s.breakage.length - 1 - k) = _
    rw [ih, h.len]
    have hj : c ≤ s.feed.length - 1 - k := by omega
    have hm : s.feed.length - k = (s.feed.length - 1 - k) + 1 := by omega
    have hm2 : s.feed.length - (k + 1) = s.feed.length - 1 - k := by omega
    rw [hm2]
    generalize hjj : s.feed.length - 1 - k = j at hj hm
    have d := steady_at hs hj (by rw [h.len]; omega)
    unfold turn Kp408.classCount
    dsimp only
    rw [if_pos hj, if_pos hj, feedAt_is, breakageAt_is, one_sub d, div_hundred, hm, set_rep]
    congr 1
    show _ :: stPart s.breakage s.feed k = cinp s.breakage s.feed (s.feed.length - 1 - k) (stPart s.breakage s.feed k) :: stPart s.breakage s.feed k
    congr 1
    rw [hjj]
    unfold cinp
    congr 2
    rw [stPart_len, ciPart_sum]
    congr 1
    have e : s.breakage.length = (j + 1) + k := by rw [h.len]; omega
    rw [e, range_split, sum_zero ((List.range (j + 1)).map _) ?_, Rat.zero_add]
    · congr 1
      refine List.map_congr_left fun i hi => ?_
      rw [if_pos (by omega), amountAt_is, rep_getD2, breakageAt_is]
    · intro x hx
      obtain ⟨i, hi, rfl⟩ := List.mem_map.mp hx
      have := List.mem_range.mp hi
      rw [if_neg (by omega)]
theorem turns_under {s : Circuit} {c : Nat} (h : WfB s.breakage s.feed.length) (hs : isSteady s.breakage c = true) (hc : c ≤ s.feed.length) : ∀ k, k ≤ c → turns s c (s.feed.length - c + k) = List.replicate (c - k) 0 ++ (whole ((s.feed.take c).drop (c - k)) ++ stPart s.breakage s.feed (s.feed.length - c))
  | 0, _ => by
    rw [Nat.add_zero, turns_over h hs _ (Nat.le_refl _), Nat.sub_zero, show s.feed.length - (s.feed.length - c) = c by omega]
    have : (s.feed.take c).drop c = [] := List.drop_eq_nil_of_le (by rw [List.length_take]; omega)
    rw [this]
    rfl
  | k + 1, hk => by
    have ih := turns_under h hs hc k (by omega)
    show turn s c (turns s c (s.feed.length - c + k)) (s.breakage.length - 1 - (s.feed.length - c + k)) = _
    rw [ih, h.len, show s.feed.length - 1 - (s.feed.length - c + k) = c - (k + 1) by omega, show c - k = (c - (k + 1)) + 1 by omega]
    generalize hj : c - (k + 1) = j
    have hjc : j < c := by omega
    unfold turn
    dsimp only
    rw [if_neg (by omega), if_neg (by omega), feedAt_is, Rat.add_zero, div_one, set_rep]
    congr 1
    have hl : j < (s.feed.take c).length := by rw [List.length_take]; omega
    rw [List.drop_eq_getElem_cons hl, List.getElem_take, getD_in (by omega : j < s.feed.length)]
    rfl
theorem input_is {s : Circuit} {c : Nat} (h : WfB s.breakage s.feed.length) (hs : isSteady s.breakage c = true) (hc : c ≤ s.feed.length) : Kp408.steadyInput s c = stIn s.breakage s.feed c := by
  rw [steadyInput_turns, h.len]
  have q := turns_under h hs hc c (Nat.le_refl _)
  rw [show s.feed.length - c + c = s.feed.length by omega, Nat.sub_self] at q
  rw [q]
  rfl
end Gs
end P_GsM9
section P_GsM10
set_option maxRecDepth 100000
/-! GsM10: each call, each step. -/
namespace Gs
open Kp408 (Circuit)
theorem nn_of {b : Nat} {l : List Rat} (h : ∀ x ∈ l, Sz b x) : ∀ x ∈ l, 0 ≤ x := fun x hx => (h x hx).1
/-- an answer as a row -/
def rowOf (a : Kp408.Ans) : List Int := a.num :: a.nums
theorem amounts_is {l : List Rat} (h : ∀ x ∈ l, 0 ≤ x) : rowOf (Kp408.amountsResult l) = cnt l := by
  show ((l.length : Nat) : Int) :: l.flatMap Kp408.fraction = ((l.length : Nat) : Int) :: nums l
  rw [nums_is h]
theorem fractionR_is {x : Rat} (h : 0 ≤ x) : rowOf (Kp408.fractionResult x) = 0 :: nums [x] := by
  show (0 : Int) :: Kp408.fraction x = 0 :: ([((x.num.toNat : Nat) : Int), ((x.den : Nat) : Int)] ++ [])
  rw [fraction_is h]
  rfl
theorem validCut_is {s : Circuit} {c : Nat} (h : WfB s.breakage s.feed.length) : Kp408.validCut s c = isCut s c := by
  unfold Kp408.validCut isCut Kp408.classCount
  rw [h.len]
theorem steadyR_is {s : Circuit} {k c : Nat} {r : Unit → Kp408.Ans} {l : List Int} (h : WfS s k) (hr : isCut s c = true → isSteady s.breakage c = true → rowOf (r ()) = l) : rowOf (Kp408.steadyResult s c r) = told s c l := by
  unfold Kp408.steadyResult told
  rw [validCut_is h.wf]
  cases hc : isCut s c with
  | false => rfl
  | true =>
    have hlt : c < s.feed.length := by
      unfold isCut at hc
      simp only [Bool.and_eq_true, decide_eq_true_eq] at hc
      exact hc.2
    rw [if_neg (by decide), steady_is (by rw [h.wf.len]; omega), if_pos rfl]
    cases hs : isSteady s.breakage c with
    | false => rfl
    | true =>
      rw [if_neg (by decide), if_pos rfl]
      exact hr hc hs
theorem cut_lt {s : Circuit} {c : Nat} (h : isCut s c = true) : 1 ≤ c ∧ c < s.feed.length := by
  unfold isCut at h
  simpa using h
/-- a step on a circuit that is there -/
def on (s : Circuit) (c : Kp408.Call) : Option Circuit × List Int := ((Kp408.step (some s) c).1, rowOf (Kp408.step (some s) c).2)
section
variable {s : Circuit} {k : Nat}
theorem st_setBreakage (h : WfS s k) (i : Nat) (r : List Nat) : on s (.setBreakage i r) = (some (dSetBreakage s i r).1, (dSetBreakage s i r).2) := by
  unfold on dSetBreakage
  show ((if Kp408.isClass s i = false then (some s, Kp408.single (-2)) else if Kp408.validBreakage i r = false then (some s, Kp408.single (-22)) else (some { s with breakage := s.breakage.set i r }, Kp408.single 0)).1, rowOf (if Kp408.isClass s i = false then (some s, Kp408.single (-2)) else if Kp408.validBreakage i r = false then (some s, Kp408.single (-22)) else (some { s with breakage := s.breakage.set i r }, Kp408.single 0)).2) = _
  have e1 : Kp408.isClass s i = decide (i < s.feed.length) := by
    unfold Kp408.isClass Kp408.classCount
    rw [h.wf.len]
  have e2 : Kp408.validBreakage i r = rowOk r (i + 1) := by
    unfold Kp408.validBreakage rowOk
    rw [Bool.eq_iff_iff]
    simp only [Bool.and_eq_true, decide_eq_true_eq, beq_iff_eq]
    constructor
    · rintro ⟨⟨a, b⟩, c⟩
      exact ⟨a, c, b⟩
    · rintro ⟨a, c, b⟩
      exact ⟨⟨a, b⟩, c⟩
  rw [e1, e2]
  by_cases hi : i < s.feed.length
  · rw [if_neg (by simp [hi]), if_pos hi]
    cases ho : rowOk r (i + 1) with
    | false => rfl
    | true => rfl
  · rw [if_pos (by simp [hi]), if_neg hi]
    rfl
theorem st_getBreakage (h : WfS s k) (i : Nat) : on s (.getBreakage i) = (some s, dGetBreakage s i) := by
  unfold on dGetBreakage
  show (some s, rowOf (if Kp408.isClass s i = true then ⟨(((s.breakage.getD i []).length : Nat) : Int), (s.breakage.getD i []).map fun (x : Nat) => (x : Int)⟩ else Kp408.single (-2))) = _
  have e1 : Kp408.isClass s i = decide (i < s.feed.length) := by
    unfold Kp408.isClass Kp408.classCount
    rw [h.wf.len]
  rw [e1]
  by_cases hi : i < s.feed.length
  · rw [if_pos (by simp [hi]), if_pos hi, h.wf.row i hi]
    rfl
  · rw [if_neg (by simp [hi]), if_neg hi]
    rfl
theorem st_setFeed (h : WfS s k) (f : List Nat) : on s (.setFeed f) = (some (dSetFeed s f).1, (dSetFeed s f).2) := by
  unfold on dSetFeed
  show ((if f.length ≠ Kp408.classCount s ∨ f.any (fun x => decide (100 < x)) = true then (some s, Kp408.single (-22)) else (some { s with feed := f }, Kp408.single ((s.feed.sum : Nat) : Int))).1, rowOf (if f.length ≠ Kp408.classCount s ∨ f.any (fun x => decide (100 < x)) = true then (some s, Kp408.single (-22)) else (some { s with feed := f }, Kp408.single ((s.feed.sum : Nat) : Int))).2) = _
  have e1 : Kp408.classCount s = s.feed.length := h.wf.len
  rw [e1]
  by_cases hl : f.length = s.feed.length
  · cases ha : f.any (fun x => decide (100 < x)) with
    | true =>
      rw [if_pos (.inr rfl), if_neg (fun q => by cases q.2)]
      rfl
    | false =>
      rw [if_neg (fun q => by rcases q with q | q; exact q hl; cases q), if_pos ⟨hl, rfl⟩]
      rfl
  · rw [if_pos (.inl hl), if_neg (fun q => hl q.1)]
    rfl
theorem feed_sumR (f : List Nat) : (whole f).sum = ((f.sum : Nat) : Rat) := by
  induction f with
  | nil => rfl
  | cons a r ih =>
    show ((a : Nat) : Rat) + (whole r).sum = _
    rw [ih, List.sum_cons, Rat.natCast_add]
theorem st_load (h : WfS s k) : on s .load = (some (dLoad s).1, (dLoad s).2) := by
  unfold on dLoad
  show ((if Kp408.withinLimit (Kp408.addAmounts s.amounts (Kp408.feedAmounts s)) = true then (some { s with amounts := Kp408.addAmounts s.amounts (Kp408.feedAmounts s), loaded := s.loaded + (Kp408.feedAmounts s).sum }, Kp408.amountsResult (Kp408.addAmounts s.amounts (Kp408.feedAmounts s))) else (some s, Kp408.single (-75))).1,
    rowOf (if Kp408.withinLimit (Kp408.addAmounts s.amounts (Kp408.feedAmounts s)) = true then (some { s with amounts := Kp408.addAmounts s.amounts (Kp408.feedAmounts s), loaded := s.loaded + (Kp408.feedAmounts s).sum }, Kp408.amountsResult (Kp408.addAmounts s.amounts (Kp408.feedAmounts s))) else (some s, Kp408.single (-75))).2) = _
  have nn : ∀ x ∈ tog s.amounts (whole s.feed), 0 ≤ x := fun x hx => by
    obtain ⟨i, h1, h2, rfl⟩ := mem_tog hx
    refine Rat.add_nonneg (Bd.getD h.am i).nn ?_
    rcases getD_mem0 (xs := whole s.feed) (i := i) with e | e
    · rw [e]
      exact Rat.le_refl
    · obtain ⟨n, _, e2⟩ := mem_whole e
      rw [e2]
      exact Rat.natCast_nonneg
  rw [add_is, whole_is, feed_sumR, limit_is nn]
  unfold mLoad
  cases hs : (tog s.amounts (whole s.feed)).all small with
  | true =>
    rw [if_pos rfl]
    show (_, rowOf (Kp408.amountsResult (tog s.amounts (whole s.feed)))) = _
    rw [amounts_is nn]
    rfl
  | false => rfl
theorem pass_nn (h : WfS s k) : ∀ x ∈ pass s.breakage s.amounts, 0 ≤ x := fun x hx => (pass_bd h.wf h.al (dn_pos k) h.am x hx).nn
theorem st_grind (h : WfS s k) : on s .grind = (some (dGrind s).1, (dGrind s).2) := by
  unfold on dGrind
  show ((if Kp408.withinLimit (Kp408.ground s s.amounts) = true then (some { s with amounts := Kp408.ground s s.amounts, passes := s.passes + 1 }, Kp408.amountsResult (Kp408.ground s s.amounts)) else (some s, Kp408.single (-75))).1,
    rowOf (if Kp408.withinLimit (Kp408.ground s s.amounts) = true then (some { s with amounts := Kp408.ground s s.amounts, passes := s.passes + 1 }, Kp408.amountsResult (Kp408.ground s s.amounts)) else (some s, Kp408.single (-75))).2) = _
  rw [ground_is h.wfa, limit_is (pass_nn h)]
  unfold mGrind
  cases hs : (pass s.breakage s.amounts).all small with
  | true =>
    rw [if_pos rfl]
    show (_, rowOf (Kp408.amountsResult (pass s.breakage s.amounts))) = _
    rw [amounts_is (pass_nn h)]
    rfl
  | false => rfl
theorem under_nn (h : WfS s k) (c : Nat) : 0 ≤ (under s.amounts c).sum := by
  have q := Bd.sum (dn_pos k) (N := nm k) (under s.amounts c) fun x hx => by
    rcases mem_under hx with e | e
    · rw [e]
      exact Bk.zero _
    · exact h.am x e
  exact q.nn
theorem st_remove (h : WfS s k) (c : Nat) : on s (.removeFiner c) = (some (dRemove s c).1, (dRemove s c).2) := by
  unfold on dRemove
  show ((if Kp408.validCut s c = false then (some s, Kp408.single (-22)) else (some { s with amounts := Kp408.oversize c s.amounts, removed := s.removed + (Kp408.undersize c s.amounts).sum }, Kp408.fractionResult (Kp408.undersize c s.amounts).sum)).1,
    rowOf (if Kp408.validCut s c = false then (some s, Kp408.single (-22)) else (some { s with amounts := Kp408.oversize c s.amounts, removed := s.removed + (Kp408.undersize c s.amounts).sum }, Kp408.fractionResult (Kp408.undersize c s.amounts).sum)).2) = _
  rw [validCut_is h.wf, over_is, under_is]
  cases isCut s c with
  | false => rfl
  | true =>
    rw [if_neg (by decide), if_pos rfl]
    show (_, rowOf (Kp408.fractionResult (under s.amounts c).sum)) = _
    rw [fractionR_is (under_nn h c)]
    rfl
theorem am_nn (h : WfS s k) : ∀ x ∈ s.amounts, 0 ≤ x := fun x hx => (h.am x hx).nn
theorem st_amounts (h : WfS s k) : on s .getAmounts = (some s, cnt s.amounts) := by
  show (some s, rowOf (Kp408.amountsResult s.amounts)) = _
  rw [amounts_is (am_nn h)]
theorem sum_nn {l : List Rat} (h : ∀ x ∈ l, 0 ≤ x) : 0 ≤ l.sum := by
  induction l with
  | nil => exact Rat.le_refl
  | cons x r ih =>
    rw [List.sum_cons]
    exact Rat.add_nonneg (h x List.mem_cons_self) (ih fun y hy => h y (List.mem_cons_of_mem _ hy))
theorem st_upTo (h : WfS s k) (i : Nat) : on s (.amountUpTo i) = (some s, dUpTo s i) := by
  unfold on dUpTo
  show (some s, rowOf (if Kp408.isClass s i = true then Kp408.fractionResult (Kp408.amountUpTo s.amounts i) else Kp408.single (-2))) = _
  have e1 : Kp408.isClass s i = decide (i < s.feed.length) := by
    unfold Kp408.isClass Kp408.classCount
    rw [h.wf.len]
  rw [e1]
  by_cases hi : i < s.feed.length
  · rw [if_pos (by simp [hi]), if_pos hi, fractionR_is (x := Kp408.amountUpTo s.amounts i) (sum_nn fun x hx => am_nn h x (List.mem_of_mem_take hx))]
    rfl
  · rw [if_neg (by simp [hi]), if_neg hi]
    rfl
theorem st_preview (h : WfS s k) (m : Nat) : on s (.previewGrind m) = (some s, dPreview s m) := by
  unfold on dPreview
  show (some s, rowOf (if 12 < m then Kp408.single (-22) else Kp408.amountsResult (Kp408.groundTimes s m s.amounts))) = _
  by_cases hm : 12 < m
  · rw [if_pos hm, if_pos hm]
    rfl
  · rw [if_neg hm, if_neg hm, groundTimes_is m _ h.wfa, amounts_is fun x hx => (passes_bk h m x hx).nn]
theorem st_has (h : WfS s k) (c : Nat) : on s (.hasSteadyState c) = (some s, dHas s c) := by
  unfold on dHas
  show (some s, rowOf (if Kp408.validCut s c = true then Kp408.boolResult (Kp408.hasSteadyState s c) else Kp408.single (-22))) = _
  rw [validCut_is h.wf]
  cases hc : isCut s c with
  | false => rfl
  | true =>
    rw [if_pos rfl, if_pos rfl, steady_is (by rw [h.wf.len]; have := cut_lt hc; omega)]
    rfl
theorem st_input (h : WfS s k) (c : Nat) : on s (.steadyInput c) = (some s, dInput s c) := by
  show (some s, rowOf (Kp408.steadyResult s c fun _ => Kp408.amountsResult (Kp408.steadyInput s c))) = _
  rw [steadyR_is h (l := cnt (stIn s.breakage s.feed c)) fun hc hs => by
    rw [input_is h.wf hs (Nat.le_of_lt (cut_lt hc).2)]
    exact amounts_is (nn_of (stIn_sz h.wf h.fl hs (cut_lt hc).1))]
  rfl
theorem st_product (h : WfS s k) (c : Nat) : on s (.steadyProduct c) = (some s, dProduct s c) := by
  show (some s, rowOf (Kp408.steadyResult s c fun _ => Kp408.amountsResult (Kp408.steadyProduct s c))) = _
  rw [steadyR_is h (l := cnt (under (pass s.breakage (stIn s.breakage s.feed c)) c)) fun hc hs => by
    have ln : (stIn s.breakage s.feed c).length = s.feed.length := stIn_len (Nat.le_of_lt (cut_lt hc).2)
    unfold Kp408.steadyProduct
    rw [input_is h.wf hs (Nat.le_of_lt (cut_lt hc).2), ground_is (by rw [ln]; exact h.wf), under_is]
    refine amounts_is fun x hx => ?_
    rcases mem_under hx with e | e
    · rw [e]
      exact Rat.le_refl
    · obtain ⟨j, hj, rfl⟩ := mem_pass e
      exact (icls_sz h.wf ln (stIn_sz h.wf h.fl hs (cut_lt hc).1) (by decide) (by omega)).1]
  rfl
theorem stIn_nn (h : WfS s k) {c : Nat} (hc : isCut s c = true) (hs : isSteady s.breakage c = true) : 0 ≤ (stIn s.breakage s.feed c).sum := sum_nn (nn_of (stIn_sz h.wf h.fl hs (cut_lt hc).1))
theorem st_sload (h : WfS s k) (c : Nat) : on s (.steadyLoad c) = (some s, dSLoad s c) := by
  show (some s, rowOf (Kp408.steadyResult s c fun _ => Kp408.fractionResult (Kp408.steadyInput s c).sum)) = _
  rw [steadyR_is h (l := 0 :: nums [(stIn s.breakage s.feed c).sum]) fun hc hs => by
    rw [input_is h.wf hs (Nat.le_of_lt (cut_lt hc).2)]
    exact fractionR_is (stIn_nn h hc hs)]
  rfl
theorem st_ratio (h : WfS s k) (c : Nat) : on s (.loadRatio c) = (some s, dRatio s c) := by
  show (some s, rowOf (Kp408.steadyResult s c fun _ => if s.feed.sum = 0 then Kp408.single (-6) else Kp408.fractionResult ((Kp408.steadyInput s c).sum / ((s.feed.sum : Nat) : Rat)))) = _
  rw [steadyR_is h (l := if s.feed.sum = 0 then [-6] else 0 :: nums [(stIn s.breakage s.feed c).sum * ((1 : Nat) : Rat) / ((s.feed.sum : Nat) : Rat)]) fun hc hs => by
    by_cases e : s.feed.sum = 0
    · rw [if_pos e, if_pos e]
      rfl
    · rw [if_neg e, if_neg e, input_is h.wf hs (Nat.le_of_lt (cut_lt hc).2)]
      have e1 : (stIn s.breakage s.feed c).sum * ((1 : Nat) : Rat) / ((s.feed.sum : Nat) : Rat) = (stIn s.breakage s.feed c).sum / ((s.feed.sum : Nat) : Rat) := by
        show (stIn s.breakage s.feed c).sum * (1 : Rat) / ((s.feed.sum : Nat) : Rat) = _
        rw [Rat.mul_one]
      have nn := stIn_nn h hc hs
      have nn2 : 0 ≤ (stIn s.breakage s.feed c).sum * ((1 : Nat) : Rat) / ((s.feed.sum : Nat) : Rat) := by
        rw [times_nat nn]
        exact mk_nn _ _
      rw [e1] at nn2 ⊢
      exact fractionR_is nn2]
  rfl
theorem st_rounds (h : WfS s k) (c m : Nat) : on s (.simulateRounds c m) = (some s, dRounds s c m) := by
  unfold on dRounds
  show (some s, rowOf (if Kp408.validCut s c = false ∨ 12 < m then Kp408.single (-22) else ⟨0, Kp408.fraction (Kp408.runRounds s c m (Kp408.noMaterial s) 0).1.sum ++ Kp408.fraction (Kp408.runRounds s c m (Kp408.noMaterial s) 0).2⟩)) = _
  rw [validCut_is h.wf, rounds_is h.wf]
  by_cases hc : isCut s c = true ∧ m ≤ 12
  · rw [if_neg (by rw [hc.1]; intro q; rcases q with q | q; cases q; omega), if_pos hc]
    obtain ⟨i1, i2, _⟩ := rds_bd h.wf h.fl c m
    show (some s, (0 : Int) :: (Kp408.fraction _ ++ Kp408.fraction _)) = _
    rw [fraction_is (sum_nn fun x hx => (i1 x hx).nn), fraction_is i2.nn]
    rfl
  · rw [if_pos ?_, if_neg hc]
    · rfl
    · cases hb : isCut s c with
      | false => exact .inl rfl
      | true => exact .inr (by
          have : ¬ m ≤ 12 := fun q => hc ⟨hb, q⟩
          omega)
theorem st_totals (h : WfS s k) : on s .totals = (some s, dTotals s) := by
  show (some s, ((s.passes : Nat) : Int) :: (Kp408.fraction s.loaded ++ Kp408.fraction s.removed ++ Kp408.fraction s.amounts.sum)) = _
  rw [fraction_is h.lo.nn, fraction_is h.re.nn, fraction_is (sum_nn (am_nn h))]
  rfl
theorem st_feed (h : WfS s k) : on s .getFeed = (some s, dFeed s) := by
  show (some s, ((Kp408.classCount s : Nat) : Int) :: s.feed.map fun (x : Nat) => (x : Int)) = _
  have e1 : Kp408.classCount s = s.feed.length := h.wf.len
  rw [e1]
  rfl
theorem find_map_id {p : Nat → Bool} (n : Nat) : ((List.range n).map fun i => i).find? p = (List.range n).find? p := by rw [List.map_id']
theorem st_needed (h : WfS s k) (m d : Nat) : on s (.passesNeeded m d) = (some s, dNeeded s m d) := by
  unfold on dNeeded
  show (some s, rowOf (if d < 1 ∨ 100 < d ∨ d < m then Kp408.single (-22) else if s.amounts.sum = 0 then Kp408.single (-6) else match (List.range 13).find? fun passes => decide (((m : Rat) / (d : Rat)) * s.amounts.sum ≤ Kp408.amountUpTo (Kp408.groundTimes s passes s.amounts) 0) with
      | none => Kp408.single (-33)
      | some passes => Kp408.single ((passes : Nat) : Int))) = _
  by_cases hd : (1 ≤ d ∧ d ≤ 100) ∧ m ≤ d
  · rw [if_neg (by omega), if_pos hd]
    have nn := sum_nn (am_nn h)
    by_cases e0 : s.amounts.sum = 0
    · rw [if_pos e0, if_pos (by rw [e0]; rfl)]
      rfl
    · rw [if_neg e0, if_neg (fun q => e0 (Rat.num_eq_zero.mp (by have := num_nat nn; omega)))]
      have ep : (fun passes => decide (((m : Rat) / (d : Rat)) * s.amounts.sum ≤ Kp408.amountUpTo (Kp408.groundTimes s passes s.amounts) 0)) = reach s m d := by
        funext j
        unfold reach
        have e1 : ((m : Rat) / (d : Rat)) * s.amounts.sum = s.amounts.sum * (m : Rat) / (d : Rat) := by rw [mul_div, Rat.mul_comm]
        have e2 : Kp408.amountUpTo (Kp408.groundTimes s j s.amounts) 0 = (passes s.breakage j s.amounts).getD 0 0 := by
          rw [groundTimes_is j _ h.wfa]
          have hl : 0 < (passes s.breakage j s.amounts).length := by
            rw [passes_len, h.al]
            have := h.wf.lo
            omega
          generalize passes s.breakage j s.amounts = l at hl ⊢
          cases l with
          | nil => cases hl
          | cons x r =>
            show ((x :: r).take 1).sum = x
            show x + 0 = x
            exact Rat.add_zero x
        rw [e1, e2]
      rw [ep]
      unfold needed
      rw [find_map_id]
      cases hf : (List.range 13).find? (reach s m d) with
      | none => rfl
      | some j =>
        have hj := List.mem_of_find?_eq_some hf
        have := List.mem_range.mp hj
        show (some s, [((j : Nat) : Int)]) = (some s, if j ≤ 12 then [((j : Nat) : Int)] else [-33])
        rw [if_pos (by omega)]
  · rw [if_pos (by omega), if_neg hd]
    rfl
theorem cuts_is (n : Nat) : ((List.range n).drop 1).reverse = cuts n := by
  unfold cuts
  refine List.ext_getElem (by simp) fun i h1 h2 => ?_
  have hi : i < n - 1 := by simpa using h2
  rw [List.getElem_reverse, List.getElem_drop, List.getElem_range, List.getElem_map, List.getElem_range]
  simp only [List.length_drop, List.length_range]
  omega
theorem mem_cuts {n c : Nat} (h : c ∈ cuts n) : 1 ≤ c ∧ c < n := by
  obtain ⟨i, hi, rfl⟩ := List.mem_map.mp h
  have := List.mem_range.mp hi
  omega
theorem find_congr {p q : Nat → Bool} : ∀ {l : List Nat}, (∀ x ∈ l, p x = q x) → l.find? p = l.find? q
  | [], _ => rfl
  | x :: r, h => by
    rw [List.find?_cons, List.find?_cons, h x List.mem_cons_self, find_congr fun y hy => h y (List.mem_cons_of_mem _ hy)]
theorem st_coarse (h : WfS s k) (m d : Nat) : on s (.coarsestCut m d) = (some s, dCoarse s m d) := by
  unfold on dCoarse
  show (some s, rowOf (if 999 < m ∨ d < 1 ∨ 99 < d then Kp408.single (-22) else match (((List.range (Kp408.classCount s)).drop 1).reverse).find? fun cut => Kp408.hasSteadyState s cut && decide ((Kp408.steadyInput s cut).sum ≤ (m : Rat) / (d : Rat)) with
      | none => Kp408.single (-33)
      | some cut => Kp408.single ((cut : Nat) : Int))) = _
  by_cases hd : m ≤ 999 ∧ (1 ≤ d ∧ d ≤ 99)
  · rw [if_neg (by omega), if_pos hd]
    have e1 : Kp408.classCount s = s.feed.length := h.wf.len
    rw [e1, cuts_is, find_congr (q := serves s.breakage s.feed m d) fun c hc => ?_]
    · unfold coarse
      cases hf : (cuts s.feed.length).find? (serves s.breakage s.feed m d) with
      | none => rfl
      | some c =>
        have hc := mem_cuts (List.mem_of_find?_eq_some hf)
        show (some s, [((c : Nat) : Int)]) = (some s, if 0 < c then [((c : Nat) : Int)] else [-33])
        rw [if_pos (by omega)]
    · have hc' := mem_cuts hc
      unfold serves
      rw [steady_is (by rw [h.wf.len]; omega)]
      cases hs : isSteady s.breakage c with
      | false => rfl
      | true =>
        rw [Bool.true_and, Bool.true_and, input_is h.wf hs (by omega)]
        have nn : 0 ≤ (stIn s.breakage s.feed c).sum := sum_nn (nn_of (stIn_sz h.wf h.fl hs hc'.1))
        have nn2 : 0 ≤ (m : Rat) / (d : Rat) := by
          rw [frac_mk]
          exact mk_nn _ _
        refine decide_eq_decide.mpr ?_
        generalize (stIn s.breakage s.feed c).sum = x at nn ⊢
        have hd0 : (0 : Rat) < (d : Rat) := Rat.natCast_pos.mpr (by omega)
        have hx0 : (0 : Rat) < (x.den : Rat) := Rat.natCast_pos.mpr x.den_pos
        have ex : x * (x.den : Rat) = ((x.num.toNat : Nat) : Rat) := by
          have q := Rat.mkRat_self x
          rw [num_nat nn, Rat.mkRat_eq_div] at q
          have q2 : x * (x.den : Rat) = (((x.num.toNat : Nat) : Int) : Rat) / (x.den : Rat) * (x.den : Rat) := congrArg (· * (x.den : Rat)) q.symm
          rw [q2, Rat.div_mul_cancel (Rat.ne_of_gt hx0)]
          rfl
        have em : (m : Rat) / (d : Rat) * (d : Rat) = (m : Rat) := Rat.div_mul_cancel (Rat.ne_of_gt hd0)
        have hp : (0 : Rat) < (d : Rat) * (x.den : Rat) := Rat.mul_pos hd0 hx0
        have k1 : x * ((d : Rat) * (x.den : Rat)) = ((x.num.toNat * d : Nat) : Rat) := by
          rw [Rat.mul_comm (d : Rat), ← Rat.mul_assoc, ex, Rat.natCast_mul]
        have k2 : (m : Rat) / (d : Rat) * ((d : Rat) * (x.den : Rat)) = ((m * x.den : Nat) : Rat) := by
          rw [← Rat.mul_assoc, em, Rat.natCast_mul]
        constructor
        · intro q
          have := Rat.mul_le_mul_of_nonneg_right q (Rat.le_of_lt hp)
          rw [k1, k2] at this
          exact Rat.natCast_le_natCast.mp this
        · intro q
          refine Rat.le_of_mul_le_mul_right (c := (d : Rat) * (x.den : Rat)) ?_ hp
          rw [k1, k2]
          exact Rat.natCast_le_natCast.mpr q
  · rw [if_pos (by omega), if_neg hd]
    rfl
end
end Gs
end P_GsM10
section P_GsM11
set_option maxRecDepth 100000
/-! GsM11: the list read, the law. -/
namespace Gs
open Kp408 (Circuit)
/-- a call as the specification reads it -/
def rawOf (c : Cl) : List (List Int) := (((c.num : Nat) : Int) :: toI c.as) :: (if withRow c.num then [toI c.rw] else [])
theorem toI_toNat (l : List Nat) : (toI l).map Int.toNat = l := by
  rw [List.map_map]
  have : (Int.toNat ∘ fun (n : Nat) => (n : Int)) = id := by
    funext n
    rfl
  rw [this, List.map_id]
theorem toNat_toI {l : List Int} (h : ∀ x ∈ l, 0 ≤ x) : toI (l.map Int.toNat) = l := by
  show (l.map Int.toNat).map (fun (n : Nat) => (n : Int)) = l
  rw [List.map_map]
  conv => rhs; rw [← List.map_id l]
  refine List.map_congr_left fun x hx => ?_
  have := h x hx
  show ((x.toNat : Nat) : Int) = x
  omega
theorem shape_is {p : Int} {n k : Nat} (h : PyKp408.shape p = some (n, k)) : ∃ m : Nat, m < 20 ∧ p = (m : Int) ∧ n = arity.getD m 0 ∧ k = (if withRow m then 1 else 0) ∧ PyKp408.bound p = (List.replicate n (0, 4294967295), if withRow m then [(0, 4294967295, 0, 8)] else []) := by
  by_cases e0 : p = 0
  · subst e0
    have q : some _ = some (n, k) := h
    injection q with q
    injection q with q1 q2
    subst q1 q2
    exact ⟨0, by decide, rfl, rfl, rfl, rfl⟩
  by_cases e1 : p = 1
  · subst e1
    have q : some _ = some (n, k) := h
    injection q with q
    injection q with q1 q2
    subst q1 q2
    exact ⟨1, by decide, rfl, rfl, rfl, rfl⟩
  by_cases e2 : p = 2
  · subst e2
    have q : some _ = some (n, k) := h
    injection q with q
    injection q with q1 q2
    subst q1 q2
    exact ⟨2, by decide, rfl, rfl, rfl, rfl⟩
  by_cases e3 : p = 3
  · subst e3
    have q : some _ = some (n, k) := h
    injection q with q
    injection q with q1 q2
    subst q1 q2
    exact ⟨3, by decide, rfl, rfl, rfl, rfl⟩
  by_cases e4 : p = 4
  · subst e4
    have q : some _ = some (n, k) := h
    injection q with q
    injection q with q1 q2
    subst q1 q2
    exact ⟨4, by decide, rfl, rfl, rfl, rfl⟩
  by_cases e5 : p = 5
  · subst e5
    have q : some _ = some (n, k) := h
    injection q with q
    injection q with q1 q2
    subst q1 q2
    exact ⟨5, by decide, rfl, rfl, rfl, rfl⟩
  by_cases e6 : p = 6
  · subst e6
    have q : some _ = some (n, k) := h
    injection q with q
    injection q with q1 q2
    subst q1 q2
    exact ⟨6, by decide, rfl, rfl, rfl, rfl⟩
  by_cases e7 : p = 7
  · subst e7
    have q : some _ = some (n, k) := h
    injection q with q
    injection q with q1 q2
    subst q1 q2
    exact ⟨7, by decide, rfl, rfl, rfl, rfl⟩
  by_cases e8 : p = 8
  · subst e8
    have q : some _ = some (n, k) := h
    injection q with q
    injection q with q1 q2
    subst q1 q2
    exact ⟨8, by decide, rfl, rfl, rfl, rfl⟩
  by_cases e9 : p = 9
  · subst e9
    have q : some _ = some (n, k) := h
    injection q with q
    injection q with q1 q2
    subst q1 q2
    exact ⟨9, by decide, rfl, rfl, rfl, rfl⟩
  by_cases e10 : p = 10
  · subst e10
    have q : some _ = some (n, k) := h
    injection q with q
    injection q with q1 q2
    subst q1 q2
    exact ⟨10, by decide, rfl, rfl, rfl, rfl⟩
  by_cases e11 : p = 11
  · subst e11
    have q : some _ = some (n, k) := h
    injection q with q
    injection q with q1 q2
    subst q1 q2
    exact ⟨11, by decide, rfl, rfl, rfl, rfl⟩
  by_cases e12 : p = 12
  · subst e12
    have q : some _ = some (n, k) := h
    injection q with q
    injection q with q1 q2
    subst q1 q2
    exact ⟨12, by decide, rfl, rfl, rfl, rfl⟩
  by_cases e13 : p = 13
  · subst e13
    have q : some _ = some (n, k) := h
    injection q with q
    injection q with q1 q2
    subst q1 q2
    exact ⟨13, by decide, rfl, rfl, rfl, rfl⟩
  by_cases e14 : p = 14
  · subst e14
    have q : some _ = some (n, k) := h
    injection q with q
    injection q with q1 q2
    subst q1 q2
    exact ⟨14, by decide, rfl, rfl, rfl, rfl⟩
  by_cases e15 : p = 15
  · subst e15
    have q : some _ = some (n, k) := h
    injection q with q
    injection q with q1 q2
    subst q1 q2
    exact ⟨15, by decide, rfl, rfl, rfl, rfl⟩
  by_cases e16 : p = 16
  · subst e16
    have q : some _ = some (n, k) := h
    injection q with q
    injection q with q1 q2
    subst q1 q2
    exact ⟨16, by decide, rfl, rfl, rfl, rfl⟩
  by_cases e17 : p = 17
  · subst e17
    have q : some _ = some (n, k) := h
    injection q with q
    injection q with q1 q2
    subst q1 q2
    exact ⟨17, by decide, rfl, rfl, rfl, rfl⟩
  by_cases e18 : p = 18
  · subst e18
    have q : some _ = some (n, k) := h
    injection q with q
    injection q with q1 q2
    subst q1 q2
    exact ⟨18, by decide, rfl, rfl, rfl, rfl⟩
  by_cases e19 : p = 19
  · subst e19
    have q : some _ = some (n, k) := h
    injection q with q
    injection q with q1 q2
    subst q1 q2
    exact ⟨19, by decide, rfl, rfl, rfl, rfl⟩
  unfold PyKp408.shape at h
  rw [if_neg e0, if_neg e1, if_neg e2, if_neg e3, if_neg e4, if_neg e5, if_neg e6, if_neg e7, if_neg e8, if_neg e9, if_neg e10, if_neg e11, if_neg e12, if_neg e13, if_neg e14, if_neg e15, if_neg e16, if_neg e17, if_neg e18, if_neg e19] at h
  cases h
theorem each_nn {hi : Int} : ∀ {n : Nat} {xs : List Int}, xs.length = n → PyInside.each (List.replicate n (0, hi)) xs = true → ∀ x ∈ xs, 0 ≤ x
  | _, [], _, _, x, hx => by cases hx
  | 0, _ :: _, h, _, _, _ => by cases h
  | n + 1, y :: ys, h, e, x, hx => by
    have e' : (PyInside.within 0 hi y && PyInside.each (List.replicate n (0, hi)) ys) = true := e
    rw [Bool.and_eq_true] at e'
    rcases List.mem_cons.mp hx with rfl | hx
    · have q := e'.1
      unfold PyInside.within at q
      rw [Bool.and_eq_true, decide_eq_true_eq] at q
      exact q.1
    · exact each_nn (n := n) (by simpa using h) e'.2 x hx
theorem parse_call {p : Int} {r t : List Int} {c : List (List Int)} (h : PyFlat.call PyKp408.shape (p :: r) = some (c, t)) (hi : PyInside.call PyKp408.bound c = true) : ∃ cl : Cl, cl.Ok ∧ p :: r = cl.enc ++ t ∧ c = rawOf cl := by
  unfold PyFlat.call at h
  dsimp only at h
  split at h
  · cases h
  · rename_i n k hs
    obtain ⟨m, hm, rfl, hn, hk, hb⟩ := shape_is hs
    split at h
    · cases h
    · rename_i hlen
      have hl : (r.take n).length = n := by rw [List.length_take]; omega
      split at h
      · cases h
      · rename_i xs t' hr
        injection h with h
        injection h with h1 h2
        subst h1 h2
        unfold PyInside.call at hi
        dsimp only at hi
        rw [hb, Bool.and_eq_true] at hi
        have nn := each_nn hl hi.1
        have e1 : toI ((r.take n).map Int.toNat) = r.take n := toNat_toI nn
        cases hw : withRow m with
        | false =>
          rw [hw] at hk
          subst hk
          have hr' : some (([] : List (List Int)), r.drop n) = some (xs, t') := hr
          injection hr' with hr'
          injection hr' with h3 h4
          subst h3 h4
          refine ⟨⟨m, (r.take n).map Int.toNat, []⟩, ⟨hm, by rw [List.length_map, hl]; exact hn, fun _ => rfl, Nat.zero_le _⟩, ?_, ?_⟩
          · unfold Cl.enc Cl.tail
            dsimp only
            rw [hw, e1, if_neg (by decide), List.append_nil, List.cons_append, List.take_append_drop]
          · unfold rawOf
            dsimp only
            rw [hw, e1]
            rfl
        | true =>
          rw [hw] at hk hi
          have hk1 : k = 1 := hk
          subst hk1
          cases hrow : PyFlat.row (r.drop n) with
          | none =>
            have hr2 : (match PyFlat.row (r.drop n) with
              | none => none
              | some (x, s) => match PyFlat.rows 0 s with
                | none => none
                | some (xs, t) => some (x :: xs, t)) = some (xs, t') := hr
            rw [hrow] at hr2
            cases hr2
          | some xx =>
            obtain ⟨x, s⟩ := xx
            have hr2 : (match PyFlat.row (r.drop n) with
              | none => none
              | some (x, s) => match PyFlat.rows 0 s with
                | none => none
                | some (xs, t) => some (x :: xs, t)) = some (xs, t') := hr
            rw [hrow] at hr2
            have hr' : some ([x], s) = some (xs, t') := hr2
            injection hr' with hr'
            injection hr' with h3 h4
            subst h3 h4
            have hl2 := hi.2
            rw [if_pos rfl] at hl2
            have hl3 : (decide (0 ≤ x.length) && decide (x.length ≤ 8) && x.all (PyInside.within 0 4294967295) && PyInside.lists [] []) = true := hl2
            rw [Bool.and_eq_true, Bool.and_eq_true, Bool.and_eq_true, decide_eq_true_eq, decide_eq_true_eq, List.all_eq_true] at hl3
            obtain ⟨⟨⟨_, h8⟩, hall⟩, _⟩ := hl3
            have nn2 : ∀ y ∈ x, 0 ≤ y := fun y hy => by
              have q := hall y hy
              unfold PyInside.within at q
              rw [Bool.and_eq_true, decide_eq_true_eq] at q
              exact q.1
            have e2 : toI (x.map Int.toNat) = x := toNat_toI nn2
            unfold PyFlat.row at hrow
            split at hrow
            · cases hrow
            · rename_i z w hd
              split at hrow
              · rename_i hz
                injection hrow with hrow
                injection hrow with h5 h6
                subst h5 h6
                refine ⟨⟨m, (r.take n).map Int.toNat, (w.take z.toNat).map Int.toNat⟩, ⟨hm, by rw [List.length_map, hl]; exact hn, fun q => (by rw [hw] at q; cases q), (by rw [List.length_map]; exact h8)⟩, ?_, ?_⟩
                · unfold Cl.enc Cl.tail
                  dsimp only
                  rw [hw, e1, if_pos rfl, e2, List.length_map]
                  have hlz : (((w.take z.toNat).length : Nat) : Int) = z := by
                    rw [List.length_take, Nat.min_eq_left hz.2]
                    omega
                  rw [hlz, List.cons_append, List.append_assoc, List.cons_append, List.take_append_drop, ← hd, List.take_append_drop]
                · unfold rawOf
                  dsimp only
                  rw [hw, e1, e2]
                  rfl
              · cases hrow
theorem parse_calls : ∀ (fuel : Nat) (l : List Int) (raw : List (List (List Int))), PyFlat.calls PyKp408.shape fuel l = some raw → PyInside.calls PyKp408.bound raw = true → ∃ cs : List Cl, (∀ c ∈ cs, c.Ok) ∧ l = flat cs ∧ raw = cs.map rawOf
  | fuel, [], raw, h, _ => by
    have h' : some ([] : List (List (List Int))) = some raw := by
      cases fuel <;> exact h
    injection h' with h'
    subst h'
    exact ⟨[], fun c hc => (by cases hc), rfl, rfl⟩
  | 0, _ :: _, raw, h, _ => by cases h
  | f + 1, p :: r, raw, h, hi => by
    unfold PyFlat.calls at h
    split at h
    · cases h
    · rename_i c t hc
      split at h
      · cases h
      · rename_i cs hcs
        injection h with h
        subst h
        have hi' : (PyInside.call PyKp408.bound c && cs.all (PyInside.call PyKp408.bound)) = true := hi
        rw [Bool.and_eq_true] at hi'
        obtain ⟨cl, ok, e1, e2⟩ := parse_call hc hi'.1
        obtain ⟨cls, oks, e3, e4⟩ := parse_calls f t cs hcs hi'.2
        refine ⟨cl :: cls, fun x hx => ?_, ?_, ?_⟩
        · rcases List.mem_cons.mp hx with rfl | hx
          · exact ok
          · exact oks x hx
        · rw [e1, e3]
          rfl
        · rw [e2, e4]
          rfl

/-! ### a step -/
theorem al0 {as : List Nat} (h : as.length = 0) : as = [] := List.length_eq_zero_iff.mp h
theorem al1 {as : List Nat} (h : as.length = 1) : ∃ i, as = [i] := match as, h with | [i], _ => ⟨i, rfl⟩
theorem al2 {as : List Nat} (h : as.length = 2) : ∃ i j, as = [i, j] := match as, h with | [i, j], _ => ⟨i, j, rfl⟩
theorem step_is {st : Option Circuit} {k : Nat} (wf : WfO st k) {c : Cl} (ok : c.Ok) : Kp408Neutral.step st (PyKp408.whole (rawOf c)) = dStep st c := by
  obtain ⟨n, as, r⟩ := c
  obtain ⟨hn, ha, _, _⟩ := ok
  dsimp only at hn ha
  have cs : n = 0 ∨ n = 1 ∨ n = 2 ∨ n = 3 ∨ n = 4 ∨ n = 5 ∨ n = 6 ∨ n = 7 ∨ n = 8 ∨ n = 9 ∨ n = 10 ∨ n = 11 ∨ n = 12 ∨ n = 13 ∨ n = 14 ∨ n = 15 ∨ n = 16 ∨ n = 17 ∨ n = 18 ∨ n = 19 := by omega
  rcases cs with rfl | rfl | rfl | rfl | rfl | rfl | rfl | rfl | rfl | rfl | rfl | rfl | rfl | rfl | rfl | rfl | rfl | rfl | rfl | rfl
  · obtain ⟨i, rfl⟩ := al1 ha
    show ((Kp408.step st (.create i)).1, rowOf (Kp408.step st (.create i)).2) = (if 2 ≤ i ∧ i ≤ 5 then (some (fresh i), [0]) else (st, [-22]))
    have e : Kp408.step st (.create i) = if i < 2 ∨ 5 < i then (st, Kp408.single (-22)) else (some (fresh i), Kp408.single 0) := by
      cases st <;> rfl
    rw [e]
    by_cases hi : 2 ≤ i ∧ i ≤ 5
    · rw [if_neg (by omega), if_pos hi]
      rfl
    · rw [if_pos (by omega), if_neg hi]
      rfl
  · obtain ⟨i, rfl⟩ := al1 ha
    cases st with
    | none => rfl
    | some s =>
      have h := wf s rfl
      have e : Kp408Neutral.step (some s) (PyKp408.whole (rawOf ⟨1, [i], r⟩)) = on s (.setBreakage i ((toI r).map Int.toNat)) := rfl
      rw [e, toI_toNat]
      exact st_setBreakage h i r
  · obtain ⟨i, rfl⟩ := al1 ha
    cases st with
    | none => rfl
    | some s =>
      have h := wf s rfl
      exact st_getBreakage h i
  · obtain rfl := al0 ha
    cases st with
    | none => rfl
    | some s =>
      have h := wf s rfl
      have e : Kp408Neutral.step (some s) (PyKp408.whole (rawOf ⟨3, [], r⟩)) = on s (.setFeed ((toI r).map Int.toNat)) := rfl
      rw [e, toI_toNat]
      exact st_setFeed h r
  · obtain rfl := al0 ha
    cases st with
    | none => rfl
    | some s =>
      have h := wf s rfl
      exact st_load h
  · obtain rfl := al0 ha
    cases st with
    | none => rfl
    | some s =>
      have h := wf s rfl
      exact st_grind h
  · obtain ⟨i, rfl⟩ := al1 ha
    cases st with
    | none => rfl
    | some s =>
      have h := wf s rfl
      exact st_remove h i
  · obtain rfl := al0 ha
    cases st with
    | none => rfl
    | some s =>
      have h := wf s rfl
      exact st_amounts h
  · obtain ⟨i, rfl⟩ := al1 ha
    cases st with
    | none => rfl
    | some s =>
      have h := wf s rfl
      exact st_upTo h i
  · obtain ⟨i, rfl⟩ := al1 ha
    cases st with
    | none => rfl
    | some s =>
      have h := wf s rfl
      exact st_preview h i
  · obtain ⟨i, rfl⟩ := al1 ha
    cases st with
    | none => rfl
    | some s =>
      have h := wf s rfl
      exact st_has h i
  · obtain ⟨i, rfl⟩ := al1 ha
    cases st with
    | none => rfl
    | some s =>
      have h := wf s rfl
      exact st_input h i
  · obtain ⟨i, rfl⟩ := al1 ha
    cases st with
    | none => rfl
    | some s =>
      have h := wf s rfl
      exact st_product h i
  · obtain ⟨i, rfl⟩ := al1 ha
    cases st with
    | none => rfl
    | some s =>
      have h := wf s rfl
      exact st_sload h i
  · obtain ⟨i, rfl⟩ := al1 ha
    cases st with
    | none => rfl
    | some s =>
      have h := wf s rfl
      exact st_ratio h i
  · obtain ⟨i, j, rfl⟩ := al2 ha
    cases st with
    | none => rfl
    | some s =>
      have h := wf s rfl
      exact st_rounds h i j
  · obtain rfl := al0 ha
    cases st with
    | none => rfl
    | some s =>
      have h := wf s rfl
      exact st_totals h
  · obtain ⟨i, j, rfl⟩ := al2 ha
    cases st with
    | none => rfl
    | some s =>
      have h := wf s rfl
      exact st_needed h i j
  · obtain ⟨i, j, rfl⟩ := al2 ha
    cases st with
    | none => rfl
    | some s =>
      have h := wf s rfl
      exact st_coarse h i j
  · obtain rfl := al0 ha
    cases st with
    | none => rfl
    | some s =>
      have h := wf s rfl
      exact st_feed h
theorem played_is : ∀ (cs : List Cl) (st : Option Circuit) (k : Nat), WfO st k → (∀ c ∈ cs, c.Ok) → PyFlat.told (PyFlat.played Kp408Neutral.step st ((cs.map rawOf).map PyKp408.whole)) = outs st cs
  | [], _, _, _, _ => rfl
  | c :: r, st, k, wf, ok => by
    have e := step_is wf (ok c List.mem_cons_self)
    have ih := played_is r (dStep st c).1 (k + 1) (dStep_wf wf c) fun x hx => ok x (List.mem_cons_of_mem _ hx)
    show (((Kp408Neutral.step st (PyKp408.whole (rawOf c))).2.length : Nat) : Int) :: (Kp408Neutral.step st (PyKp408.whole (rawOf c))).2 ++ PyFlat.told (PyFlat.played Kp408Neutral.step (Kp408Neutral.step st (PyKp408.whole (rawOf c))).1 ((r.map rawOf).map PyKp408.whole)) = _
    rw [e, ih]
    rfl
theorem law (l : List Int) (h : PyKp408.answers_asked l = true) : ∃ cs : List Cl, (∀ c ∈ cs, c.Ok) ∧ cs.length ≤ 60 ∧ l = flat cs ∧ PyKp408.answers l = outs none cs := by
  unfold PyKp408.answers_asked at h
  split at h
  · cases h
  · rename_i raw hraw
    rw [Bool.and_eq_true, Bool.and_eq_true, Bool.and_eq_true, Bool.and_eq_true] at h
    obtain ⟨⟨⟨⟨_, h60⟩, hin⟩, _⟩, _⟩ := h
    obtain ⟨cs, ok, e1, e2⟩ := parse_calls _ _ _ hraw hin
    refine ⟨cs, ok, ?_, e1, ?_⟩
    · unfold PyFlat.atMost at h60
      rw [decide_eq_true_eq, e2, List.length_map] at h60
      exact h60
    · unfold PyKp408.answers PyKp408.calls
      rw [hraw, e2]
      exact played_is cs none 0 (fun s e => by cases e) ok
end Gs
end P_GsM11
section P_GsA
set_option Elab.async false
set_option linter.all false
set_option maxRecDepth 100000
set_option maxHeartbeats 4000000
/-! GsA: places of the text, a def as it is called (DefOk, MethOk), constants and tables of the top, fractions in the heap. -/
namespace Gs
open PySem PySem.Spec PyProof.Rows L2

/-! ### the text by places -/
def topS (i : Nat) : Stmt := PySem.Challenge.pw_sievemill_s01_answers.main.body.getD i (.Pass ⟨0, 0, 0, 0⟩)

/-! ### a def of the module, a method, as they are called -/
/-- the def that stands at f keeps sp -/
def AtOk (P : Program) (w : World) (K : PySem.W.Frag) (mg : Str → Option Value) (base : Heap) (f : Addr) (k : Nat) (sp : Sp) : Prop :=
  ∃ (fd : FuncData) (ps : List Str), PySem.W.keepIn K (.ref f) = true ∧ Binds K fd ps [] ∧ FnOk P w K mg base CX0 k f fd ps sp
def DefOk (P : Program) (w : World) (K : PySem.W.Frag) (mg : Str → Option Value) (base : Heap) (x : Str) (k : Nat) (sp : Sp) : Prop :=
  ∃ f : Addr, mg x = some (.ref f) ∧ AtOk P w K mg base f k sp
def MethOk (P : Program) (w : World) (K : PySem.W.Frag) (mg : Str → Option Value) (base : Heap) (C : Addr) (m : Str) (k : Nat) (sp : Sp) : Prop :=
  ∃ (f : Addr) (fd : FuncData) (ps : List Str), Meth K C m f ∧ Binds K fd ps [] ∧ FnOk P w K mg base CX0 k f fd ps sp
def MakeOk (P : Program) (w : World) (K : PySem.W.Frag) (mg : Str → Option Value) (base : Heap) (C : Addr) (k : Nat) (sp : Sp) : Prop :=
  ∃ (f : Addr) (fd : FuncData) (ps : List Str), Mk K C f ∧ Binds K fd ps [] ∧ FnOk P w K mg base CX0 k f fd ps sp

def tCallD (sp : Sp) (t : TA) : TE := fun σ H Q => t σ H fun vs H1 => sp vs H1 Q E0
def tMethD (C : Addr) (m : Str) (sp : Sp) (ta : TE) (t : TA) : TE := fun σ H Q => ta σ H fun x H1 => ∃ a dx fs, x = .ref a ∧ H1 a = some (.ins C dx fs) ∧ fs.lookup m = none ∧ t σ H1 fun vs H2 => sp (x :: vs) H2 Q E0
def tMakeD (C : Addr) (sp : Sp) (t : TA) : TE := fun σ H Q => t σ H fun vs H1 => ∀ x dx, H1 x = none → H1 dx = none → dx ≠ x → sp (.ref x :: vs) (upd (upd H1 dx (.own x)) x (.ins C dx [])) (fun v H2 => v = .non ∧ Q (.ref x) H2) E0
/-- a call of what a slot holds -/
def tCallH (S : Addr → Sp → Prop) (i : Nat) (t : TA) : TE := fun σ H Q => ∃ f sp, σ[i]? = some (some (.ref f)) ∧ S f sp ∧ t σ H fun vs H1 => sp vs H1 Q E0

section
variable {X : Cx} {k : Nat} {sp : Sp} {x : Str} {p pos apos : Pos} {e o : Expr} {es : List Expr} {t : TA} {ta : TE} {C : Addr} {m : Str}
theorem app_nil_eq (sp : Sp) (Q : VK) (E : XK) : (fun (vs : List V) (H1 : Hp) => sp (vs ++ []) H1 Q E) = fun vs H1 => sp vs H1 Q E := by
  funext vs H1
  rw [List.append_nil]
theorem pe_callD (D : DefOk X.prog X.w X.K X.mg X.base x k sp) (hr : Room k X.A) (hg : Gl X x) (ha : PA X (e :: es) t)
    (hdb : (x == ("__debug__" : Str)) = false := by decide) (he : starEach (e :: es) X.env = (false, eval e X.env) :: starEach es X.env := by rfl) (hpl : (backTo pos (starEach es X.env)).any (·.1) = false := by rfl) :
    PE X (.Call (.Name x p) (e :: es) [] pos) (tCallD sp t) := by
  obtain ⟨f, hm, fd, ps, hk, hb, F⟩ := D
  refine ⟨fun pins s σ H Q I h => ?_⟩
  refine (pe_call (E := E0) F hr hg hm hk hb .nil pass0 ha hdb he hpl).run pins s σ H Q I ?_
  show t σ H fun vs H1 => sp (vs ++ []) H1 Q E0
  rw [app_nil_eq]
  exact h
theorem pe_callH {i : Nat} {S : Addr → Sp → Prop} (A : ∀ f sp, S f sp → AtOk X.prog X.w X.K X.mg X.base f k sp) (hr : Room k X.A) (hN : X.N[i]? = some x) (hv : Vis X.env.scope x) (ha : PA X (e :: es) t)
    (hdb : (x == ("__debug__" : Str)) = false := by decide) (hcd : (x == ("__classdict__" : Str)) = false := by decide)
    (he : starEach (e :: es) X.env = (false, eval e X.env) :: starEach es X.env := by rfl) (hpl : (backTo pos (starEach es X.env)).any (·.1) = false := by rfl) :
    PE X (.Call (.Name x p) (e :: es) [] pos) (tCallH S i t) := by
  refine ⟨fun pins s σ H Q I h => ?_⟩
  obtain ⟨f, sp, hs, hS, ht⟩ := h
  obtain ⟨fd, ps, hk, hb, F⟩ := A f sp hS
  refine (pe_callL (i := i) (f := f) (sp := sp) (dvs := []) (E := E0) F hr hN hv hk hb .nil pass0 ha hdb hcd he hpl).run pins s σ H Q I ⟨hs, ?_⟩
  show t σ H (fun vs H1 => sp (vs ++ []) H1 Q E0)
  rw [app_nil_eq]
  exact ht
theorem pe_methD {pl : Sem Bool} (M : MethOk X.prog X.w X.K X.mg X.base C m k sp) (he : PE X o ta) (c : Cls X.K C) (hr : Room k X.A) (ha : PA X (e :: es) t)
    (hst : starEach (e :: es) X.env = (false, eval e X.env) :: starEach es X.env := by rfl) (hpl : (backTo pos (starEach es X.env)).any (·.1) = false := by rfl)
    (ht : eval (.Call (.Attribute o m apos) (e :: es) [] pos) X.env = (do
      let ov ← eval o X.env
      standAt apos.atName
      let (f, first) ← holding [ov] (getMethod ov m pl)
      callWith pos f first (backTo pos (starEach (e :: es) X.env)) (backToKw pos (keywordEach [] X.env))) := by rfl) :
    PE X (.Call (.Attribute o m apos) (e :: es) [] pos) (tMethD C m sp ta t) := by
  obtain ⟨f, fd, ps, hm, hb, F⟩ := M
  refine ⟨fun pins s σ H Q I h => ?_⟩
  refine (pe_meth (E := E0) (pl := pl) he c hm F hr hb .nil pass0 ha hst hpl ht).run pins s σ H Q I ?_
  show ta σ H fun x H1 => ∃ a dx fs, x = .ref a ∧ H1 a = some (.ins C dx fs) ∧ fs.lookup m = none ∧ t σ H1 fun vs H2 => sp (x :: (vs ++ [])) H2 Q E0
  have e0 : ∀ x : V, (fun (vs : List V) (H2 : Hp) => sp (x :: (vs ++ [])) H2 Q E0) = fun vs H2 => sp (x :: vs) H2 Q E0 := fun x => by
    funext vs H2
    rw [List.append_nil]
  simp only [e0]
  exact h
theorem pe_methD0 {pl : Sem Bool} (M : MethOk X.prog X.w X.K X.mg X.base C m k sp) (he : PE X o ta) (c : Cls X.K C) (hr : Room k X.A)
    (ht : eval (.Call (.Attribute o m apos) [] [] pos) X.env = (do
      let ov ← eval o X.env
      standAt apos.atName
      let (f, first) ← holding [ov] (getMethod ov m pl)
      callWith pos f first (backTo pos (starEach [] X.env)) (backToKw pos (keywordEach [] X.env))) := by rfl) :
    PE X (.Call (.Attribute o m apos) [] [] pos) (tMethD C m sp ta tNil) := by
  obtain ⟨f, fd, ps, hm, hb, F⟩ := M
  refine ⟨fun pins s σ H Q I h => ?_⟩
  exact (pe_meth0 (E := E0) (pl := pl) he c hm F hr hb .nil pass0 ht).run pins s σ H Q I h
theorem pe_makeD (M : MakeOk X.prog X.w X.K X.mg X.base C k sp) (hr : Room (k + 1) X.A) (hg : Gl X x) (hm : X.mg x = some (.ref C)) (ha : PA X (e :: es) t)
    (hdb : (x == ("__debug__" : Str)) = false := by decide) (he : starEach (e :: es) X.env = (false, eval e X.env) :: starEach es X.env := by rfl) (hpl : (backTo pos (starEach es X.env)).any (·.1) = false := by rfl) :
    PE X (.Call (.Name x p) (e :: es) [] pos) (tMakeD C sp t) := by
  obtain ⟨f, fd, ps, M, hb, F⟩ := M
  refine ⟨fun pins s σ H Q I h => ?_⟩
  refine (pe_make (E := E0) M F hr hg hm hb .nil pass0 ha hdb he hpl).run pins s σ H Q I ?_
  show t σ H fun vs H1 => ∀ x dx, H1 x = none → H1 dx = none → dx ≠ x → sp (.ref x :: (vs ++ [])) (upd (upd H1 dx (.own x)) x (.ins C dx [])) (fun v H2 => v = .non ∧ Q (.ref x) H2) E0
  have e0 : (fun (vs : List V) (H1 : Hp) => ∀ x dx, H1 x = none → H1 dx = none → dx ≠ x → sp (.ref x :: (vs ++ [])) (upd (upd H1 dx (.own x)) x (.ins C dx [])) (fun v H2 => v = .non ∧ Q (.ref x) H2) E0) =
      fun vs H1 => ∀ x dx, H1 x = none → H1 dx = none → dx ≠ x → sp (.ref x :: vs) (upd (upd H1 dx (.own x)) x (.ins C dx [])) (fun v H2 => v = .non ∧ Q (.ref x) H2) E0 := by
    funext vs H1
    rw [List.append_nil]
  rw [e0]
  exact h
/-- a constant of the module, a whole number -/
theorem pe_gint {i : Int} (hm : ∃ t, X.mg x = some (.int i t)) (hg : Gl X x) (hd : (x == ("__debug__" : Str)) = false := by decide) : PE X (.Name x pos) (tC (.int i)) := by
  obtain ⟨t, hm⟩ := hm
  exact pe_glob hg hm ⟨t, rfl⟩ hd
theorem pe_gref {a : Addr} (hm : X.mg x = some (.ref a)) (hg : Gl X x) (hd : (x == ("__debug__" : Str)) = false := by decide) : PE X (.Name x pos) (tC (.ref a)) := pe_glob hg hm rfl hd
end

/-! ### where a def stands -/
/-- the def x of the module stands as its text is -/
def Here (K : PySem.W.Frag) (mg : Str → Option Value) (x : Str) (st : Stmt) (f : Addr) : Prop := mg x = some (.ref f) ∧ ∃ fd, Fun K x x st f fd
def HereM (K : PySem.W.Frag) (C : Addr) (x q : Str) (st : Stmt) : Prop := ∃ f fd, Meth K C x f ∧ Fun K x q st f fd
def HereI (K : PySem.W.Frag) (C : Addr) (q : Str) (st : Stmt) : Prop := ∃ f fd, Mk K C f ∧ Fun K "__init__" q st f fd

section
variable {P : Program} {w : World} {K : PySem.W.Frag} {mg : Str → Option Value} {base : Heap}
/-- how the parameters bind -/
def Bnd (x q : Str) (st : Stmt) (ps : List Str) : Prop := ∀ (kV doc pm : Value) (an : Option Addr) (cdv ct : Value) (us : List Value), us.length = ps.length → bindArgs (PySem.W.fnOf x q (defArgs st) (defBody st) (defScope st) .none kV doc pm an cdv ct) ⟨us, []⟩ = pure (ps.zip us)
/-- what a body must show -/
def Body (P : Program) (w : World) (K : PySem.W.Frag) (mg : Str → Option Value) (base : Heap) (q : Str) (st : Stmt) (N : List Str) (k : Nat) (sp : Sp) : Prop :=
  ∀ (f : Addr) (cdv : Value) (A : Around) (outer : List Env) (s : Shared) (H : Hp) (vs : List V) (Q : VK) (E : XK), Room k (A.deeper (envOfC q (defScope st) s.heap.objs.size f cdv)) → sp vs H Q E →
      ∃ t, PSs (cxOf CX0 P w K mg base N q (defScope st) f cdv A outer s H E).nox (defBody st) t ∧ t { nx := fun _ H' => Q .non H', rt := Q } (start N vs) H
theorem mkAt {x : Str} {st : Stmt} {f : Addr} {N ps : List Str} {k : Nat} {sp : Sp} (h : Here K mg x st f) (S : FnScope N ps (defScope st)) (b : Bnd x x st ps) (len : ∀ vs H Q E, sp vs H Q E → vs.length = ps.length)
    (hb : Body P w K mg base x st N k sp) : AtOk P w K mg base f (k + 1) sp := by
  obtain ⟨_, fd, F⟩ := h
  exact ⟨fd, ps, F.kp, F.binds b, F.ok S len fun cdv A outer s H vs Q E hr h => hb f cdv A outer s H vs Q E hr h⟩
theorem mkDef {x : Str} {st : Stmt} {f : Addr} {N ps : List Str} {k : Nat} {sp : Sp} (h : Here K mg x st f) (S : FnScope N ps (defScope st)) (b : Bnd x x st ps) (len : ∀ vs H Q E, sp vs H Q E → vs.length = ps.length)
    (hb : Body P w K mg base x st N k sp) : DefOk P w K mg base x (k + 1) sp := ⟨f, h.1, mkAt h S b len hb⟩
theorem mkMeth {C : Addr} {x q : Str} {st : Stmt} {N ps : List Str} {k : Nat} {sp : Sp} (h : HereM K C x q st) (S : FnScope N ps (defScope st)) (b : Bnd x q st ps) (len : ∀ vs H Q E, sp vs H Q E → vs.length = ps.length)
    (hb : Body P w K mg base q st N k sp) : MethOk P w K mg base C x (k + 1) sp := by
  obtain ⟨f, fd, M, F⟩ := h
  exact ⟨f, fd, ps, M, F.binds b, F.ok S len fun cdv A outer s H vs Q E hr h => hb f cdv A outer s H vs Q E hr h⟩
theorem mkMake {C : Addr} {q : Str} {st : Stmt} {N ps : List Str} {k : Nat} {sp : Sp} (h : HereI K C q st) (S : FnScope N ps (defScope st)) (b : Bnd "__init__" q st ps) (len : ∀ vs H Q E, sp vs H Q E → vs.length = ps.length)
    (hb : Body P w K mg base q st N k sp) : MakeOk P w K mg base C (k + 1) sp := by
  obtain ⟨f, fd, M, F⟩ := h
  exact ⟨f, fd, ps, M, F.binds b, F.ok S len fun cdv A outer s H vs Q E hr h => hb f cdv A outer s H vs Q E hr h⟩
end

/-! ### tables of the top: dicts with whole numbers for keys -/
/-- what a table of the top holds at k -/
def tabAt (K : PySem.W.Frag) (a : Addr) (k : Int) : Option Value := match K.lookup a with
  | some ⟨_, _, .dict es _, _⟩ => findBy Value.isInt es k
  | _ => none
def KTab (K : PySem.W.Frag) (a : Addr) : Prop := ∃ es n, K.lookup a = some ⟨.type "dict", none, .dict es n, #[]⟩ ∧ (a == sysModules) = false ∧ ∀ e ∈ es.toList, ∃ k t, e.key = .int k t ∧ e.hash = hashInt k
theorem KTab.map {K : PySem.W.Frag} {a : Addr} {P : Program} {w : World} {h : Heap} (X : K.In h) (T : KTab K a) : h.MapOf (intKind P w) a (tabAt K a) := by
  obtain ⟨es, n, hl, _, hk⟩ := T
  refine ⟨_, es, n, X _ _ hl, ⟨rfl, rfl, rfl⟩, rfl, fun e he => ?_, fun k => ?_⟩
  · obtain ⟨k, t, e1, e2⟩ := hk e (Array.mem_toList_iff.mpr he)
    exact ⟨k, by rw [e1]; exact intKind_is P w k t, e2⟩
  · unfold tabAt
    rw [hl]
    rfl
def rInTab (K : PySem.W.Frag) : R2 := fun x y H Q => ∃ a i, x = .int i ∧ y = .ref a ∧ KTab K a ∧ Q (.bl (tabAt K a i).isSome) H
def rIxTab (K : PySem.W.Frag) : R2 := fun x y H Q => ∃ a i v u, x = .ref a ∧ y = .int i ∧ KTab K a ∧ tabAt K a i = some u ∧ RelV v u ∧ Q v H
section
variable {X : Cx}
theorem op_inTab : OpR X (compareOp .In) (rInTab X.K) := by
  intro pins s σ H x y v u Q I rx ry h
  obtain ⟨a, i, rfl, rfl, T, q⟩ := h
  obtain ⟨t, rfl⟩ := rx
  cases ry
  refine wpAny_in_of (intKind_is X.prog X.w i t) T.choose_spec.choose_spec.2.1 (T.map I.kIn) ⟨.bl _, H, I.tok _, rfl, q⟩
theorem ix_tab : IxR X (rIxTab X.K) := by
  intro value slice pins s σ H x y v u Q I rx ry h hs
  obtain ⟨a, i, r, u0, rfl, rfl, T, e, ru, q⟩ := h
  obtain rfl : v = Value.ref a := rx
  obtain ⟨t, rfl⟩ := ry
  have hm := T.map (P := X.prog) (w := X.w) I.kIn
  exact tail_any hm.typeIs slot_dict_getitem.lookup (wpAny_getItem_of (intKind_is X.prog X.w i t) hm e ⟨r, H, I.tok _, ru, q⟩) hs
end
end Gs
end P_GsA
section P_GsB1
set_option Elab.async false
set_option linter.all false
set_option maxRecDepth 100000
set_option maxHeartbeats 4000000
/-! GsB1: fractions. -/
namespace Gs
open PySem PySem.Spec PyProof.Rows L2

/-! ### fractions in the heap -/
def Fr (K : PySem.W.Frag) (H : Hp) (p : Addr) (x : Rat) : Prop := SqT K H p [.int (x.num.toNat : Nat), .int (x.den : Nat)]
theorem same_t {K : PySem.W.Frag} {H H' : Hp} {a : Addr} {xs : List V} (e : Same H H') (h : SqT K H a xs) : SqT K H' a xs := by
  rcases h with (h | ⟨o, h⟩) | h
  · exact .inl (.inl (e _ _ h))
  · exact .inl (.inr ⟨o, e _ _ h⟩)
  · exact .inr h
theorem Fr.mono {K : PySem.W.Frag} {H H' : Hp} {p : Addr} {x : Rat} (e : Same H H') (h : Fr K H p x) : Fr K H' p x := same_t e h
theorem same_new {H : Hp} {p : Addr} {o : HO} (h : H p = none) : Same H (upd H p o) := fun b u e => by
  rw [upd_ne (ne_of_none e h)]
  exact e
/-- a fraction is handed back -/
def RetF (K : PySem.W.Frag) (x : Rat) (H : Hp) (Q : VK) : Prop := ∀ p H', Same H H' → Fr K H' p x → Q (.ref p) H'
def RetV (v : V) (H : Hp) (Q : VK) : Prop := ∀ H', Same H H' → Q v H'
/-- fractions at addresses -/
def FrAll (K : PySem.W.Frag) (H : Hp) : List Addr → List Rat → Prop
  | [], [] => True
  | p :: ps, x :: xs => Fr K H p x ∧ FrAll K H ps xs
  | _, _ => False
theorem FrAll.mono {K : PySem.W.Frag} {H H' : Hp} (e : Same H H') : ∀ {ps : List Addr} {xs : List Rat}, FrAll K H ps xs → FrAll K H' ps xs
  | [], [], _ => trivial
  | _ :: _, _ :: _, ⟨h, r⟩ => ⟨h.mono e, FrAll.mono e r⟩
theorem FrAll.len {K : PySem.W.Frag} {H : Hp} : ∀ {ps : List Addr} {xs : List Rat}, FrAll K H ps xs → ps.length = xs.length
  | [], [], _ => rfl
  | _ :: _, _ :: _, ⟨_, r⟩ => congrArg (· + 1) (FrAll.len r)
theorem FrAll.get {K : PySem.W.Frag} {H : Hp} : ∀ {ps : List Addr} {xs : List Rat} {i : Nat}, FrAll K H ps xs → i < xs.length → ∃ p x, ps[i]? = some p ∧ xs[i]? = some x ∧ Fr K H p x
  | [], [], i, _, hi => absurd hi (Nat.not_lt_zero _)
  | p :: _, x :: _, 0, ⟨h, _⟩, _ => ⟨p, x, rfl, rfl, h⟩
  | _ :: ps, _ :: xs, i + 1, ⟨_, r⟩, hi => by
    obtain ⟨p, x, h1, h2, h3⟩ := FrAll.get (i := i) r (by simpa using hi)
    exact ⟨p, x, by simpa using h1, by simpa using h2, h3⟩
theorem FrAll.at {K : PySem.W.Frag} {H : Hp} {ps : List Addr} {xs : List Rat} {i : Nat} {v : V} (h : FrAll K H ps xs) (hv : (ps.map V.ref)[i]? = some v) : ∃ p x, v = .ref p ∧ ps[i]? = some p ∧ xs[i]? = some x ∧ Fr K H p x := by
  have hi : i < xs.length := by
    have q := (List.getElem?_eq_some_iff.mp hv).1
    rw [List.length_map, h.len] at q
    exact q
  obtain ⟨p, x, h1, h2, h3⟩ := h.get hi
  rw [List.getElem?_map, h1] at hv
  exact ⟨p, x, (Option.some.inj hv).symm, h1, h2, h3⟩
theorem FrAll.append {K : PySem.W.Frag} {H : Hp} : ∀ {ps qs : List Addr} {xs ys : List Rat}, FrAll K H ps xs → FrAll K H qs ys → FrAll K H (ps ++ qs) (xs ++ ys)
  | [], _, [], _, _, h => h
  | _ :: _, _, _ :: _, _, ⟨h, r⟩, q => ⟨h, FrAll.append r q⟩
theorem FrAll.take {K : PySem.W.Frag} {H : Hp} : ∀ {ps : List Addr} {xs : List Rat} (n : Nat), FrAll K H ps xs → FrAll K H (ps.take n) (xs.take n)
  | _, _, 0, _ => by
    rw [List.take_zero, List.take_zero]
    trivial
  | [], [], _ + 1, _ => trivial
  | _ :: _, _ :: _, n + 1, ⟨h, r⟩ => ⟨h, FrAll.take n r⟩
/-- a list of fractions -/
def FrL (K : PySem.W.Frag) (H : Hp) (a : Addr) (xs : List Rat) : Prop := ∃ ps : List Addr, H a = some (.lst (ps.map V.ref)) ∧ FrAll K H ps xs
theorem FrL.mono {K : PySem.W.Frag} {H H' : Hp} {a : Addr} {xs : List Rat} (e : Same H H') (h : FrL K H a xs) : FrL K H' a xs := by
  obtain ⟨ps, h1, h2⟩ := h
  exact ⟨ps, e _ _ h1, h2.mono e⟩
/-- a new list of fractions is handed back -/
def RetFs (K : PySem.W.Frag) (xs : List Rat) (H : Hp) (Q : VK) : Prop := ∀ p H', Same H H' → H p = none → FrL K H' p xs → Q (.ref p) H'
/-- a new list of plain values -/
def RetL (xs : List V) (H : Hp) (Q : VK) : Prop := ∀ p H', Same H H' → H p = none → H' p = some (.lst xs) → Q (.ref p) H'

/-! ### sizes of Python's numbers -/
theorem cm {n m : Nat} (h1 : n < 2 ^ 9000) (h2 : m < 2 ^ 9000) : CMulW (n : Int) (m : Int) :=
  wide_mul (a := 9000) (b := 9000) (by rw [Int.natAbs_natCast]; exact h1) (by rw [Int.natAbs_natCast]; exact h2) (by decide) (by decide) (by decide)
theorem cd {m : Nat} (h0 : 0 < m) (h2 : m < 2 ^ 9000) : CDivW i (m : Int) := wide_div (b := 9000) (by omega) (by rw [Int.natAbs_natCast]; exact h2) (by decide) (by decide)
theorem up {n a : Nat} (h : n < 2 ^ a) (ha : a ≤ 9000) : n < 2 ^ 9000 := Nat.lt_of_lt_of_le h (Nat.pow_le_pow_right (by decide) ha)

/-! ### promises -/
def sp_common : Sp := fun vs H Q _ => ∃ a b : Nat, vs = [.int (a : Int), .int (b : Int)] ∧ Q (.int ((a.gcd b : Nat) : Int)) H
def sp_ratio (K : PySem.W.Frag) : Sp := fun vs H Q _ => ∃ n d : Nat, vs = [.int (n : Int), .int (d : Int)] ∧ 0 < d ∧ d < 2 ^ 8500 ∧ RetF K (mkRat (n : Int) d) H Q
def sp_plus (K : PySem.W.Frag) : Sp := fun vs H Q _ => ∃ (a b : Addr) (x y : Rat), vs = [.ref a, .ref b] ∧ Fr K H a x ∧ Fr K H b y ∧ Sm x ∧ Sm y ∧ RetF K (x + y) H Q
def sp_times (K : PySem.W.Frag) : Sp := fun vs H Q _ => ∃ (a : Addr) (x : Rat) (n d : Nat), vs = [.ref a, .int (n : Int), .int (d : Int)] ∧ Fr K H a x ∧ Sm x ∧ n < 2 ^ 100 ∧ 0 < d ∧ d < 2 ^ 100 ∧ RetF K (x * (n : Rat) / (d : Rat)) H Q
def sp_total (K : PySem.W.Frag) : Sp := fun vs H Q _ => ∃ (a : Addr) (xs : List Rat), vs = [.ref a] ∧ FrL K H a xs ∧ Sums xs ∧ RetF K xs.sum H Q
def sp_is_no_less (K : PySem.W.Frag) : Sp := fun vs H Q _ => ∃ (a b : Addr) (n1 d1 n2 d2 : Nat), vs = [.ref a, .ref b] ∧ SqT K H a [.int (n1 : Int), .int (d1 : Int)] ∧ SqT K H b [.int (n2 : Int), .int (d2 : Int)] ∧
  (n1 < 2 ^ 9000 ∧ d1 < 2 ^ 9000 ∧ n2 < 2 ^ 9000 ∧ d2 < 2 ^ 9000) ∧ Q (.bl (decide (n2 * d1 ≤ n1 * d2))) H
def sp_shown (K : PySem.W.Frag) : Sp := fun vs H Q _ => ∃ (a : Addr) (ps : List Addr) (xs : List Rat), vs = [.ref a] ∧ (H a = some (.lst (ps.map V.ref)) ∨ H a = some (.tup (ps.map V.ref))) ∧ FrAll K H ps xs ∧ xs.length ≤ 5 ∧ RetL ((nums xs).map V.int) H Q

/-- the bound of the numbers that are kept -/
@[irreducible] def bnd : Int := 10 ^ 30
theorem bnd_lt (n : Nat) : decide ((n : Int) < bnd) = decide (n < 10 ^ 30) := decide_eq_decide.mpr (by unfold bnd; omega)
/-- what the top has written -/
structure Txt (K : PySem.W.Frag) (mg : Str → Option Value) (C z aA aR tA tO tT : Addr) : Prop where
  c_NO_CIRCUIT : ∃ t, mg "NO_CIRCUIT" = some (.int (-11) t)
  c_NO_CLASS : ∃ t, mg "NO_CLASS" = some (.int (-2) t)
  c_BAD_ARGUMENT : ∃ t, mg "BAD_ARGUMENT" = some (.int (-22) t)
  c_NO_SUCH : ∃ t, mg "NO_SUCH" = some (.int (-33) t)
  c_NOTHING_THERE : ∃ t, mg "NOTHING_THERE" = some (.int (-6) t)
  c_TOO_LARGE : ∃ t, mg "TOO_LARGE" = some (.int (-75) t)
  c_LEAST_CLASSES : ∃ t, mg "LEAST_CLASSES" = some (.int 2 t)
  c_MOST_CLASSES : ∃ t, mg "MOST_CLASSES" = some (.int 5 t)
  c_MOST_PERCENT : ∃ t, mg "MOST_PERCENT" = some (.int 100 t)
  c_MOST_TURNS : ∃ t, mg "MOST_TURNS" = some (.int 12 t)
  c_MOST_SHARE : ∃ t, mg "MOST_SHARE" = some (.int 100 t)
  c_MOST_LOAD : ∃ t, mg "MOST_LOAD" = some (.int 999 t)
  c_MOST_LOAD_PART : ∃ t, mg "MOST_LOAD_PART" = some (.int 99 t)
  c_BOUND : ∃ t, mg "BOUND" = some (.int bnd t)
  c_CREATE : ∃ t, mg "CREATE" = some (.int 0 t)
  g_ZERO : mg "ZERO" = some (.ref z)
  g_ARGUMENTS : mg "ARGUMENTS" = some (.ref aA)
  g_WITH_ROW : mg "WITH_ROW" = some (.ref aR)
  g_ALONE : mg "ALONE" = some (.ref tA)
  g_WITH_ONE : mg "WITH_ONE" = some (.ref tO)
  g_WITH_TWO : mg "WITH_TWO" = some (.ref tT)
  g_C : mg "Circuit" = some (.ref C)
  zero : ∀ H, SqT K H z [.int 0, .int 1]
  argus : ∀ H, SqT K H aA (([1, 1, 1, 0, 0, 0, 1, 0, 1, 1, 1, 1, 1, 1, 1, 2, 0, 2, 2, 0] : List Int).map V.int)
  rows : ∀ H, SqT K H aR [.int 1, .int 3]
  n_len : mg "len" = none
  n_sum : mg "sum" = none
  n_all : mg "all" = none
  n_any : mg "any" = none
  n_list : mg "list" = none
  n_int : mg "int" = none
  n_range : mg "range" = none
  n_enumerate : mg "enumerate" = none
  n_zip : mg "zip" = none
  cl : Cls K C
  a_breakage : NoAttr K C "breakage"
  a_feed : NoAttr K C "feed"
  a_amounts : NoAttr K C "amounts"
  a_loaded : NoAttr K C "loaded"
  a_removed : NoAttr K C "removed"
  a_pass_count : NoAttr K C "pass_count"

section
variable {P : Program} {w : World} {K : PySem.W.Frag} {mg : Str → Option Value} {base : Heap} {C z aA aR tA tO tT : Addr}

abbrev s_common : Stmt := topS 16
theorem sc_common : FnScope ["one", "other"] ["one", "other"] (defScope s_common) := ⟨rfl, rfl, rfl, by decide +kernel, rfl, by decide +kernel, by decide +kernel⟩
theorem b_common : Bnd "common" "common" s_common ["one", "other"] := fun _ _ _ _ _ _ us hl => match us, hl with | [_, _], _ => rfl
theorem body_common : Body P w K mg base "common" s_common ["one", "other"] 0 sp_common := by
  intro f cdv A outer s H vs Q E hr h
  obtain ⟨a, b, rfl, k⟩ := h
  refine ⟨_, (pss_cons (ps_while PassesOwn.never (pt_cmpR op_gt (pv 1) pe_int (nomark _)) (pss_one (ps_par (i := 0) (j := 1) (by rfl) sc_common.nd rfl rfl (by decide) rfl rfl (pa_cons (pv 1) (pa_cons (pe_op op_modN (pv 0) (pv 1)) pa_nil)) (by rfl))))
        (pss_one (ps_ret (pv 0)))), ?_⟩
  refine while_by (fun σ H' => ∃ a' b' : Nat, σ = [some (.int (a' : Int)), some (.int (b' : Int))] ∧ H' = H ∧ a'.gcd b' = a.gcd b) (fun σ _ => match σ with | [_, some (.int b')] => b'.toNat | _ => 0) ⟨a, b, rfl, rfl, rfl⟩ ?_ ?_
  · rintro σ H' ⟨a', b', rfl, rfl, e⟩
    refine ⟨_, rfl, _, _, rfl, rfl, _, rfl, ?_⟩
    refine ite2 (fun c => ?_) (fun c => ?_)
    · have c' : (0 : Int) < (b' : Int) := of_decide_eq_true c
      have hb : 0 < b' := by omega
      refine ⟨_, rfl, _, rfl, _, rfl, _, _, rfl, rfl, (by omega), _, _, rfl, ⟨b', a' % b', ?_, rfl, ?_⟩, ?_⟩
      · show [some (V.int (b' : Int)), some (V.int ((a' : Int).fmod (b' : Int)))] = _
        rw [Int.fmod_eq_emod_of_nonneg _ (by omega), ← Int.natCast_emod]
      · rw [Nat.gcd_comm, ← Nat.gcd_rec, Nat.gcd_comm]
        exact e
      · show ((a' : Int).fmod (b' : Int)).toNat < ((b' : Nat) : Int).toNat
        rw [Int.fmod_eq_emod_of_nonneg _ (by omega), ← Int.natCast_emod, Int.toNat_natCast, Int.toNat_natCast]
        exact Nat.mod_lt _ hb
    · have c' : ¬ (0 : Int) < (b' : Int) := fun q => c (decide_eq_true q)
      have hb : b' = 0 := by omega
      subst hb
      refine ⟨_, rfl, ?_⟩
      rw [Nat.gcd_zero_right] at e
      rw [e]
      exact k
  · rintro σ H' Q1 Q2 hm ⟨v, e1, i, j, e2, e3, c, e4, q⟩
    exact ⟨v, e1, i, j, e2, e3, c, e4, hm _ _ q⟩
theorem def_common {f : Addr} (h : Here K mg "common" s_common f) : DefOk P w K mg base "common" 1 sp_common :=
  mkDef h sc_common b_common (fun vs H Q E h => by obtain ⟨a, b, rfl, _⟩ := h; rfl) body_common

abbrev s_ratio : Stmt := topS 17
theorem sc_ratio : FnScope ["num", "den", "by"] ["num", "den"] (defScope s_ratio) := ⟨rfl, rfl, rfl, by decide +kernel, rfl, by decide +kernel, by decide +kernel⟩
theorem b_ratio : Bnd "ratio" "ratio" s_ratio ["num", "den"] := fun _ _ _ _ _ _ us hl => match us, hl with | [_, _], _ => rfl
theorem body_ratio (D_common : DefOk P w K mg base "common" 1 sp_common) : Body P w K mg base "ratio" s_ratio ["num", "den", "by"] 1 (sp_ratio K) := by
  intro f cdv A outer s H vs Q E hr h
  obtain ⟨n, d, rfl, hd, hz, k⟩ := h
  refine ⟨_, (pss_cons (ps_set (i := 2) sc_ratio.nd rfl (Or.inl rfl) (pe_callD D_common (hr.mono (by decide)) (by rfl) (pa_cons (pv 1) (pa_cons (pv 0) pa_nil))))
        (pss_one (ps_ret (pe_tup (pa_cons (pe_op op_fdivW (pv 0) (pv 2)) (pa_cons (pe_op op_fdivW (pv 1) (pv 2)) pa_nil)))))), ?_⟩
  have g0 : 0 < d.gcd n := Nat.gcd_pos_of_pos_left _ hd
  have g1 : d.gcd n < 2 ^ 9000 := up (Nat.lt_of_le_of_lt (Nat.gcd_le_left _ hd) hz) (by decide)
  refine ⟨_, rfl, _, rfl, d, n, rfl, ?_⟩
  refine ⟨_, rfl, _, rfl, _, _, rfl, rfl, cd g0 g1, _, rfl, _, rfl, _, _, rfl, rfl, cd g0 g1, (by show 2 ≤ sizeLine; decide), fun p hp => ?_⟩
  refine k p _ (same_new hp) (SqT.of ?_)
  rw [upd_same, mk_num n hd, mk_den n hd, Int.toNat_natCast]
  rfl
theorem def_ratio {f : Addr} (h : Here K mg "ratio" s_ratio f) (D_common : DefOk P w K mg base "common" 1 sp_common) : DefOk P w K mg base "ratio" 2 (sp_ratio K) :=
  mkDef h sc_ratio b_ratio (fun vs H Q E h => by obtain ⟨a, b, rfl, _⟩ := h; rfl) (body_ratio D_common)

abbrev s_plus : Stmt := topS 18
theorem sc_plus : FnScope ["one", "other"] ["one", "other"] (defScope s_plus) := ⟨rfl, rfl, rfl, by decide +kernel, rfl, by decide +kernel, by decide +kernel⟩
theorem b_plus : Bnd "plus" "plus" s_plus ["one", "other"] := fun _ _ _ _ _ _ us hl => match us, hl with | [_, _], _ => rfl
theorem body_plus (D_ratio : DefOk P w K mg base "ratio" 2 (sp_ratio K)) : Body P w K mg base "plus" s_plus ["one", "other"] 2 (sp_plus K) := by
  intro f cdv A outer s H vs Q E hr h
  obtain ⟨a, b, x, y, rfl, ha, hb, sx, sy, k⟩ := h
  refine ⟨_, (pss_one (ps_ret (pe_callD D_ratio (hr.mono (by decide)) (by rfl) (pa_cons (pe_op op_add (pe_op op_mulW (pe_ix ix_tup (pv 0) pe_int (fun _ _ => rfl)) (pe_ix ix_tup (pv 1) pe_int (fun _ _ => rfl))) (pe_op op_mulW (pe_ix ix_tup (pv 1) pe_int (fun _ _ => rfl)) (pe_ix ix_tup (pv 0) pe_int (fun _ _ => rfl)))) (pa_cons (pe_op op_mulW (pe_ix ix_tup (pv 0) pe_int (fun _ _ => rfl)) (pe_ix ix_tup (pv 1) pe_int (fun _ _ => rfl))) pa_nil))))), ?_⟩
  have x1 := up sx.2.1 (by decide)
  have x2 := up sx.2.2 (by decide)
  have y1 := up sy.2.1 (by decide)
  have y2 := up sy.2.2 (by decide)
  refine ⟨_, rfl, a, _, _, _, rfl, rfl, ha, at_of (j := 0) rfl rfl, _, rfl, b, _, _, _, rfl, rfl, hb, at_of (j := 1) rfl rfl, _, _, rfl, rfl, cm x1 y2, ?_⟩
  refine ⟨_, rfl, b, _, _, _, rfl, rfl, hb, at_of (j := 0) rfl rfl, _, rfl, a, _, _, _, rfl, rfl, ha, at_of (j := 1) rfl rfl, _, _, rfl, rfl, cm y1 x2, _, _, rfl, rfl, ?_⟩
  refine ⟨_, rfl, a, _, _, _, rfl, rfl, ha, at_of (j := 1) rfl rfl, _, rfl, b, _, _, _, rfl, rfl, hb, at_of (j := 1) rfl rfl, _, _, rfl, rfl, cm x2 y2, ?_⟩
  refine ⟨x.num.toNat * y.den + y.num.toNat * x.den, x.den * y.den, rfl, Nat.mul_pos x.den_pos y.den_pos, ?_, ?_⟩
  · have q := Nat.mul_lt_mul'' sx.2.2 sy.2.2
    rw [← Nat.pow_add] at q
    exact Nat.lt_of_lt_of_le q (Nat.pow_le_pow_right (by decide) (by decide))
  · rw [← plus_nat sx.1 sy.1]
    exact k
theorem def_plus {f : Addr} (h : Here K mg "plus" s_plus f) (D_ratio : DefOk P w K mg base "ratio" 2 (sp_ratio K)) : DefOk P w K mg base "plus" 3 (sp_plus K) :=
  mkDef h sc_plus b_plus (fun vs H Q E h => by obtain ⟨a, b, _, _, rfl, _⟩ := h; rfl) (body_plus D_ratio)

abbrev s_times : Stmt := topS 19
theorem sc_times : FnScope ["one", "num", "den"] ["one", "num", "den"] (defScope s_times) := ⟨rfl, rfl, rfl, by decide +kernel, rfl, by decide +kernel, by decide +kernel⟩
theorem b_times : Bnd "times" "times" s_times ["one", "num", "den"] := fun _ _ _ _ _ _ us hl => match us, hl with | [_, _, _], _ => rfl
theorem body_times (D_ratio : DefOk P w K mg base "ratio" 2 (sp_ratio K)) : Body P w K mg base "times" s_times ["one", "num", "den"] 2 (sp_times K) := by
  intro f cdv A outer s H vs Q E hr h
  obtain ⟨a, x, n, d, rfl, ha, sx, hn, hd, hd2, k⟩ := h
  refine ⟨_, (pss_one (ps_ret (pe_callD D_ratio (hr.mono (by decide)) (by rfl) (pa_cons (pe_op op_mulW (pe_ix ix_tup (pv 0) pe_int (fun _ _ => rfl)) (pv 1)) (pa_cons (pe_op op_mulW (pe_ix ix_tup (pv 0) pe_int (fun _ _ => rfl)) (pv 2)) pa_nil))))), ?_⟩
  refine ⟨_, rfl, a, _, _, _, rfl, rfl, ha, at_of (j := 0) rfl rfl, _, rfl, _, _, rfl, rfl, cm (up sx.2.1 (by decide)) (up hn (by decide)), ?_⟩
  refine ⟨_, rfl, a, _, _, _, rfl, rfl, ha, at_of (j := 1) rfl rfl, _, rfl, _, _, rfl, rfl, cm (up sx.2.2 (by decide)) (up hd2 (by decide)), ?_⟩
  refine ⟨x.num.toNat * n, x.den * d, rfl, Nat.mul_pos x.den_pos hd, ?_, ?_⟩
  · have q := Nat.mul_lt_mul'' sx.2.2 hd2
    rw [← Nat.pow_add] at q
    exact Nat.lt_of_lt_of_le q (Nat.pow_le_pow_right (by decide) (by decide))
  · rw [← times_nat sx.1]
    exact k
theorem def_times {f : Addr} (h : Here K mg "times" s_times f) (D_ratio : DefOk P w K mg base "ratio" 2 (sp_ratio K)) : DefOk P w K mg base "times" 3 (sp_times K) :=
  mkDef h sc_times b_times (fun vs H Q E h => by obtain ⟨a, _, _, _, rfl, _⟩ := h; rfl) (body_times D_ratio)

theorem Txt.fr0 (T : Txt K mg C z aA aR tA tO tT) (H : Hp) : Fr K H z 0 := T.zero H
abbrev s_total : Stmt := topS 20
theorem sc_total : FnScope ["some", "found", "one"] ["some"] (defScope s_total) := ⟨rfl, rfl, rfl, by decide +kernel, rfl, by decide +kernel, by decide +kernel⟩
theorem b_total : Bnd "total" "total" s_total ["some"] := fun _ _ _ _ _ _ us hl => match us, hl with | [_], _ => rfl
theorem body_total (T : Txt K mg C z aA aR tA tO tT) (D_plus : DefOk P w K mg base "plus" 3 (sp_plus K)) : Body P w K mg base "total" s_total ["some", "found", "one"] 3 (sp_total K) := by
  intro f cdv A outer s H vs Q E hr h
  obtain ⟨a, xs, rfl, ⟨ps, hL, hF⟩, hs, k⟩ := h
  refine ⟨_, (pss_cons (ps_set (i := 1) sc_total.nd rfl (Or.inl rfl) (pe_gref T.g_ZERO (by rfl)))
        (pss_cons (ps_for PassesOwn.never rfl (pi_list (pv 0)) (pg_name (i := 2) sc_total.nd rfl (Or.inl rfl)) (pss_one (ps_set (i := 1) sc_total.nd rfl (Or.inl rfl) (pe_callD D_plus (hr.mono (by decide)) (by rfl) (pa_cons (pv 1) (pa_cons (pv 2) pa_nil))))))
        (pss_one (ps_ret (pv 1))))), ?_⟩
  refine ⟨_, rfl, a, rfl, ⟨_, SqL.of hL⟩, for_list (K := K) (a := a) (xs := ps.map V.ref) (fun i σ H' => ∃ (p : Addr) (v : Option V), σ = [some (.ref a), some (.ref p), v] ∧ Same H H' ∧ Fr K H' p (xs.take i).sum)
    ⟨z, none, rfl, Same.refl H, T.fr0 H⟩ (fun i σ H' _ ⟨_, _, _, e, _⟩ => e.seq (SqL.of hL)) ?_ ?_⟩
  · rintro i y σ H' hi ⟨p, v, rfl, e, hp⟩
    obtain ⟨q, x, rfl, hq, hx, hqx⟩ := hF.at hi
    refine ⟨_, rfl, _, rfl, p, q, (xs.take i).sum, x, rfl, hp, hqx.mono e, hs.2 i, hs.1 x (List.mem_of_getElem? hx), fun p2 H2 e2 h2 => ?_⟩
    refine ⟨p2, _, rfl, e.trans e2, ?_⟩
    rw [sumR_take hx]
    exact h2
  · rintro σ H' ⟨p, v, rfl, e, hp⟩
    refine ⟨_, rfl, k p H' e ?_⟩
    rw [List.length_map, hF.len, List.take_length] at hp
    exact hp
theorem def_total {f : Addr} (h : Here K mg "total" s_total f) (T : Txt K mg C z aA aR tA tO tT) (D_plus : DefOk P w K mg base "plus" 3 (sp_plus K)) : DefOk P w K mg base "total" 4 (sp_total K) :=
  mkDef h sc_total b_total (fun vs H Q E h => by obtain ⟨a, _, rfl, _⟩ := h; rfl) (body_total T D_plus)

abbrev s_is_no_less : Stmt := topS 21
theorem sc_is_no_less : FnScope ["one", "other"] ["one", "other"] (defScope s_is_no_less) := ⟨rfl, rfl, rfl, by decide +kernel, rfl, by decide +kernel, by decide +kernel⟩
theorem b_is_no_less : Bnd "is_no_less" "is_no_less" s_is_no_less ["one", "other"] := fun _ _ _ _ _ _ us hl => match us, hl with | [_, _], _ => rfl
theorem body_is_no_less : Body P w K mg base "is_no_less" s_is_no_less ["one", "other"] 0 (sp_is_no_less K) := by
  intro f cdv A outer s H vs Q E hr h
  obtain ⟨a, b, n1, d1, n2, d2, rfl, ha, hb, ⟨z1, z2, z3, z4⟩, k⟩ := h
  refine ⟨_, (pss_one (ps_ret (pe_cmpR op_ge (pe_op op_mulW (pe_ix ix_tup (pv 0) pe_int (fun _ _ => rfl)) (pe_ix ix_tup (pv 1) pe_int (fun _ _ => rfl))) (pe_op op_mulW (pe_ix ix_tup (pv 1) pe_int (fun _ _ => rfl)) (pe_ix ix_tup (pv 0) pe_int (fun _ _ => rfl))) (nomark _)))), ?_⟩
  refine ⟨_, rfl, a, _, _, _, rfl, rfl, ha, at_of (j := 0) rfl rfl, _, rfl, b, _, _, _, rfl, rfl, hb, at_of (j := 1) rfl rfl, _, _, rfl, rfl, cm z1 z4, ?_⟩
  refine ⟨_, rfl, b, _, _, _, rfl, rfl, hb, at_of (j := 0) rfl rfl, _, rfl, a, _, _, _, rfl, rfl, ha, at_of (j := 1) rfl rfl, _, _, rfl, rfl, cm z3 z2, _, _, rfl, rfl, ?_⟩
  have e : decide ((n2 : Int) * (d1 : Int) ≤ (n1 : Int) * (d2 : Int)) = decide (n2 * d1 ≤ n1 * d2) := by
    rw [← Int.natCast_mul, ← Int.natCast_mul]
    exact decide_eq_decide.mpr Int.ofNat_le
  show Q (.bl (decide ((n2 : Int) * (d1 : Int) ≤ (n1 : Int) * (d2 : Int)))) H
  rw [e]
  exact k
theorem def_is_no_less {f : Addr} (h : Here K mg "is_no_less" s_is_no_less f) : DefOk P w K mg base "is_no_less" 1 (sp_is_no_less K) :=
  mkDef h sc_is_no_less b_is_no_less (fun vs H Q E h => by obtain ⟨a, b, _, _, _, _, rfl, _⟩ := h; rfl) body_is_no_less

theorem same_mut {H H' : Hp} {p : Addr} {o : HO} (e : Same H H') (h : H p = none) : Same H (upd H' p o) := fun b u q => by
  rw [upd_ne (ne_of_none q h)]
  exact e b u q
theorem nums_take {xs : List Rat} {i : Nat} {x : Rat} (h : xs[i]? = some x) : nums (xs.take (i + 1)) = nums (xs.take i) ++ [((x.num.toNat : Nat) : Int)] ++ [((x.den : Nat) : Int)] := by
  have e : xs.take (i + 1) = xs.take i ++ [x] := by
    rw [List.take_add_one, h]
    rfl
  unfold nums
  rw [e, List.flatMap_append, List.append_assoc]
  rfl
abbrev s_shown : Stmt := topS 22
theorem sc_shown : FnScope ["some", "found", "num", "den"] ["some"] (defScope s_shown) := ⟨rfl, rfl, rfl, by decide +kernel, rfl, by decide +kernel, by decide +kernel⟩
theorem b_shown : Bnd "shown" "shown" s_shown ["some"] := fun _ _ _ _ _ _ us hl => match us, hl with | [_], _ => rfl
theorem body_shown : Body P w K mg base "shown" s_shown ["some", "found", "num", "den"] 0 (sp_shown K) := by
  intro f cdv A outer s H vs Q E hr h
  obtain ⟨a, ps, xs, rfl, hL, hF, hlen, k⟩ := h
  have turn : ∀ (D : Addr) (i : Nat) (p : Addr) (x : Rat) (v1 v2 : Option V) (H' : Hp) (Dn : Ends), H D = none → Same H H' → i < xs.length → xs[i]? = some x → Fr K H p x → H' D = some (.lst ((nums (xs.take i)).map V.int)) →
      (∀ H2, Same H H2 → H2 D = some (.lst ((nums (xs.take (i + 1))).map V.int)) → Dn.nx [some (.ref a), some (.ref D), some (.int (x.num.toNat : Nat)), some (.int (x.den : Nat))] H2) →
      (tSeq (tDrop (tBM K "list" rAppend (tVar 1) (tCons (tVar 2) tNil))) (tDrop (tBM K "list" rAppend (tVar 1) (tCons (tVar 3) tNil)))) Dn [some (.ref a), some (.ref D), some (.int (x.num.toNat : Nat)), some (.int (x.den : Nat))] H' := by
    intro D i p x v1 v2 H' Dn hD e hi hx hp hD' kn
    have l1 : (nums (xs.take i)).length ≤ 10 := by
      rw [nums_len, List.length_take]
      omega
    refine ⟨_, rfl, .inl ⟨rfl, _, SqL.of hD'⟩, _, rfl, D, _, _, rfl, rfl, hD', (by rw [List.length_map]; exact Nat.lt_of_le_of_lt l1 (by decide)), ?_⟩
    refine ⟨_, rfl, .inl ⟨rfl, _, SqL.of upd_same⟩, _, rfl, D, _, _, rfl, rfl, upd_same, (by rw [List.length_append, List.length_map]; exact Nat.lt_of_le_of_lt (Nat.add_le_add_right l1 1) (by decide)), ?_⟩
    refine kn _ (same_mut (same_mut e hD) hD) ?_
    rw [upd_same, nums_take hx, List.map_append, List.map_append]
    rfl
  rcases hL with hL | hL
  · refine ⟨_, (pss_cons (ps_set (i := 1) sc_shown.nd rfl (Or.inl rfl) (pe_lst pa_nil))
        (pss_cons (ps_for PassesOwn.never rfl (pi_list (pv 0)) (pg_tup rfl (pgs_cons (pg_name (i := 2) sc_shown.nd rfl (Or.inl rfl)) (pgs_cons (pg_name (i := 3) sc_shown.nd rfl (Or.inl rfl)) pgs_nil))) (pss_cons (ps_expr (pe_bm PySem.F.plainAttrs_list PySem.F.slot_list_append PySem.F.type_list_append mt_append (pv 1) (pa_cons (pv 2) pa_nil)))
        (pss_one (ps_expr (pe_bm PySem.F.plainAttrs_list PySem.F.slot_list_append PySem.F.type_list_append mt_append (pv 1) (pa_cons (pv 3) pa_nil))))))
        (pss_one (ps_ret (pv 1))))), ?_⟩
    refine ⟨Nat.zero_le _, fun D hD => ?_⟩
    refine ⟨_, rfl, a, rfl, ⟨_, (same_new hD).seq (SqL.of hL)⟩, for_list (K := K) (a := a) (xs := ps.map V.ref) (fun i σ H' => ∃ (v1 v2 : Option V), σ = [some (.ref a), some (.ref D), v1, v2] ∧ Same H H' ∧ H' D = some (.lst ((nums (xs.take i)).map V.int)))
      ⟨none, none, rfl, same_new hD, upd_same⟩ (fun i σ H' _ ⟨_, _, _, e, _⟩ => e.seq (SqL.of hL)) ?_ ?_⟩
    · rintro i y σ H' hi ⟨v1, v2, rfl, e, hD'⟩
      obtain ⟨q, x, rfl, hq, hx, hqx⟩ := hF.at hi
      refine ⟨q, _, rfl, hqx.mono e, rfl, _, _, rfl, _, _, rfl, rfl, ?_⟩
      exact turn D i q x v1 v2 H' _ hD e (List.getElem?_eq_some_iff.mp hx).1 hx hqx hD' fun H2 e2 h2 => ⟨_, _, rfl, e2, h2⟩
    · rintro σ H' ⟨v1, v2, rfl, e, hD'⟩
      refine ⟨_, rfl, k D H' e hD ?_⟩
      rw [List.length_map, hF.len, List.take_length] at hD'
      exact hD'
  · refine ⟨_, (pss_cons (ps_set (i := 1) sc_shown.nd rfl (Or.inl rfl) (pe_lst pa_nil))
        (pss_cons (ps_for PassesOwn.never rfl (pi_tup (pv 0)) (pg_tup rfl (pgs_cons (pg_name (i := 2) sc_shown.nd rfl (Or.inl rfl)) (pgs_cons (pg_name (i := 3) sc_shown.nd rfl (Or.inl rfl)) pgs_nil))) (pss_cons (ps_expr (pe_bm PySem.F.plainAttrs_list PySem.F.slot_list_append PySem.F.type_list_append mt_append (pv 1) (pa_cons (pv 2) pa_nil)))
        (pss_one (ps_expr (pe_bm PySem.F.plainAttrs_list PySem.F.slot_list_append PySem.F.type_list_append mt_append (pv 1) (pa_cons (pv 3) pa_nil))))))
        (pss_one (ps_ret (pv 1))))), ?_⟩
    refine ⟨Nat.zero_le _, fun D hD => ?_⟩
    refine ⟨_, rfl, a, rfl, ⟨_, same_t (same_new hD) (SqT.of hL)⟩, for_tup (K := K) (a := a) (xs := ps.map V.ref) (fun i σ H' => ∃ (v1 v2 : Option V), σ = [some (.ref a), some (.ref D), v1, v2] ∧ Same H H' ∧ H' D = some (.lst ((nums (xs.take i)).map V.int)))
      ⟨none, none, rfl, same_new hD, upd_same⟩ (fun i σ H' _ ⟨_, _, _, e, _⟩ => same_t e (SqT.of hL)) ?_ ?_⟩
    · rintro i y σ H' hi ⟨v1, v2, rfl, e, hD'⟩
      obtain ⟨q, x, rfl, hq, hx, hqx⟩ := hF.at hi
      refine ⟨q, _, rfl, hqx.mono e, rfl, _, _, rfl, _, _, rfl, rfl, ?_⟩
      exact turn D i q x v1 v2 H' _ hD e (List.getElem?_eq_some_iff.mp hx).1 hx hqx hD' fun H2 e2 h2 => ⟨_, _, rfl, e2, h2⟩
    · rintro σ H' ⟨v1, v2, rfl, e, hD'⟩
      refine ⟨_, rfl, k D H' e hD ?_⟩
      rw [List.length_map, hF.len, List.take_length] at hD'
      exact hD'
theorem def_shown {f : Addr} (h : Here K mg "shown" s_shown f) : DefOk P w K mg base "shown" 1 (sp_shown K) :=
  mkDef h sc_shown b_shown (fun vs H Q E h => by obtain ⟨a, _, _, rfl, _⟩ := h; rfl) body_shown
end
end Gs
end P_GsB1
section P_GsB2
set_option Elab.async false
set_option linter.all false
set_option maxRecDepth 100000
set_option maxHeartbeats 4000000
/-! GsB2: the mill. -/
namespace Gs
open PySem PySem.Spec PyProof.Rows L2

/-! ### rows in the heap -/
def natL (r : List Nat) : List V := (r.map fun (n : Nat) => (n : Int)).map V.int
theorem natL_at {r : List Nat} {j c : Nat} (h : r[j]? = some c) : (natL r)[j]? = some (.int (c : Int)) := by
  unfold natL
  rw [List.getElem?_map, List.getElem?_map, h]
  rfl
theorem natL_len (r : List Nat) : (natL r).length = r.length := by simp [natL]
theorem isum (r : List Nat) : (r.map fun (n : Nat) => (n : Int)).sum = ((r.sum : Nat) : Int) := by
  induction r with
  | nil => rfl
  | cons a r ih => rw [List.map_cons, List.sum_cons, List.sum_cons, ih, Int.natCast_add]
def RowAll (H : Hp) : List Addr → List (List Nat) → Prop
  | [], [] => True
  | p :: ps, r :: rs => H p = some (.lst (natL r)) ∧ RowAll H ps rs
  | _, _ => False
theorem RowAll.mono {H H' : Hp} (e : Same H H') : ∀ {ps : List Addr} {rs : List (List Nat)}, RowAll H ps rs → RowAll H' ps rs
  | [], [], _ => trivial
  | _ :: _, _ :: _, ⟨h, r⟩ => ⟨e _ _ h, RowAll.mono e r⟩
theorem RowAll.len {H : Hp} : ∀ {ps : List Addr} {rs : List (List Nat)}, RowAll H ps rs → ps.length = rs.length
  | [], [], _ => rfl
  | _ :: _, _ :: _, ⟨_, r⟩ => congrArg (· + 1) (RowAll.len r)
theorem RowAll.get {H : Hp} : ∀ {ps : List Addr} {rs : List (List Nat)} {i : Nat}, RowAll H ps rs → i < rs.length → ∃ p, ps[i]? = some p ∧ H p = some (.lst (natL (rs.getD i [])))
  | [], [], i, _, hi => absurd hi (Nat.not_lt_zero _)
  | p :: _, _ :: _, 0, ⟨h, _⟩, _ => ⟨p, rfl, h⟩
  | _ :: ps, _ :: rs, i + 1, ⟨_, r⟩, hi => by
    obtain ⟨p, h1, h2⟩ := RowAll.get (i := i) r (by simpa using hi)
    exact ⟨p, by simpa using h1, h2⟩
/-- a breakage matrix: a list of rows -/
def Rows (H : Hp) (b : Addr) (B : List (List Nat)) : Prop := ∃ bs : List Addr, H b = some (.lst (bs.map V.ref)) ∧ RowAll H bs B
theorem Rows.mono {H H' : Hp} {b : Addr} {B : List (List Nat)} (e : Same H H') (h : Rows H b B) : Rows H' b B := by
  obtain ⟨bs, h1, h2⟩ := h
  exact ⟨bs, e _ _ h1, h2.mono e⟩
theorem Rows.get {H : Hp} {b : Addr} {B : List (List Nat)} {i : Nat} (h : Rows H b B) (hi : i < B.length) : ∃ (xs : List V) (p : Addr), H b = some (.lst xs) ∧ xs[i]? = some (.ref p) ∧ H p = some (.lst (natL (B.getD i []))) := by
  obtain ⟨bs, h1, h2⟩ := h
  obtain ⟨p, q1, q2⟩ := h2.get hi
  exact ⟨_, p, h1, by rw [List.getElem?_map, q1]; rfl, q2⟩
theorem FrL.get {K : PySem.W.Frag} {H : Hp} {a : Addr} {xs : List Rat} {i : Nat} (h : FrL K H a xs) (hi : i < xs.length) : ∃ (vs : List V) (p : Addr), H a = some (.lst vs) ∧ vs[i]? = some (.ref p) ∧ Fr K H p (xs.getD i 0) := by
  obtain ⟨ps, h1, h2⟩ := h
  obtain ⟨p, x, q1, q2, q3⟩ := h2.get hi
  rw [getD_of q2]
  exact ⟨_, p, h1, by rw [List.getElem?_map, q1]; rfl, q3⟩
theorem FrL.lenL {K : PySem.W.Frag} {H : Hp} {a : Addr} {xs : List Rat} (h : FrL K H a xs) : ∃ vs : List V, H a = some (.lst vs) ∧ vs.length = xs.length := by
  obtain ⟨ps, h1, h2⟩ := h
  exact ⟨_, h1, by rw [List.length_map, h2.len]⟩
theorem fr_upd {K : PySem.W.Frag} {H : Hp} {D p : Addr} {us : List V} {o : HO} {x : Rat} (hD : H D = some (.lst us)) (h : Fr K H p x) : Fr K (upd H D o) p x := by
  rcases h with (h | ⟨ob, h⟩) | h
  · exact .inl (.inl (by rw [upd_ne (ne_of h hD (by intro z; cases z))]; exact h))
  · exact .inl (.inr ⟨ob, by rw [upd_ne (ne_of h hD (by intro z; cases z))]; exact h⟩)
  · exact .inr h
theorem FrAll.upd {K : PySem.W.Frag} {H : Hp} {D : Addr} {us : List V} {o : HO} (hD : H D = some (.lst us)) : ∀ {ps : List Addr} {xs : List Rat}, FrAll K H ps xs → FrAll K (upd H D o) ps xs
  | [], [], _ => trivial
  | _ :: _, _ :: _, ⟨h, r⟩ => ⟨fr_upd hD h, FrAll.upd hD r⟩
theorem map_snoc {α : Type} (g : Nat → α) (i : Nat) : (List.range (i + 1)).map g = (List.range i).map g ++ [g i] := by
  rw [List.range_succ, List.map_append]
  rfl

/-! ### comprehensions -/
section
variable {K : PySem.W.Frag} {J : It} {n : Nat} {G : Hp → Prop} {Y : Nat → Hp → V → Hp → Prop}
/-- a comprehension that makes fractions -/
theorem lc_frs (w : Walk J n G Y) {g : TG} {te : TE} {vs : List Nat} {σ : L2.St} {H1 : Hp} {D : Addr} {Qd : Hp → Prop} (x : Nat → Rat) (hn : n ≤ 100) (hD : H1 D = none) (hG : ∀ H, Same H1 H → G H)
    (hs : ∀ i v H H', i < n → Same H1 H → Y i H v H' → ∀ R : VK, (∀ p H4, Same H H4 → Fr K H4 p (x i) → R (.ref p) H4) → g v (wipe σ vs) H' fun σ2 H2 => wipe σ2 vs = wipe σ vs ∧ te σ2 H2 R)
    (hd : ∀ H, Same H1 H → FrL K H D ((List.range n).map x) → Qd H) :
    ∃ W : Nat → Nat → Hp → Prop, (∃ m, W 0 m (upd H1 D (.lst []))) ∧ ∀ i m H, W i m H →
      (J.stop i H ∧ Qd H) ∨ (J.go i H ∧ ∃ Nx : Hp → Prop, (∀ H', Nx H' → ∃ m', m' < m ∧ W (i + 1) m' H') ∧ ∀ x H', J.yld i H x H' → g x (wipe σ vs) H' fun σ2 H2 => wipe σ2 vs = wipe σ vs ∧ tYes σ2 H2 fun b H3 =>
        if b = true then te σ2 H3 fun y H4 => ∃ acc, H4 D = some (.lst acc) ∧ acc.length < sizeLine ∧ Nx (upd H4 D (.lst (acc ++ [y]))) else Nx H3) := by
  refine lc_it w (fun i H => Same H1 H ∧ FrL K H D ((List.range i).map x)) ⟨same_new hD, [], upd_same, trivial⟩ (fun i H _ p => hG H p.1) ?_ (fun H p => hd H p.1 p.2)
  rintro i v H H' hi ⟨e, qs, hq, hF⟩ y
  refine hs i v H H' hi e y _ fun p H4 e4 hp => ?_
  have hl : qs.length = i := by rw [hF.len, List.length_map, List.length_range]
  refine ⟨_, e4 _ _ hq, (by rw [List.length_map, hl]; exact Nat.lt_of_lt_of_le hi (Nat.le_trans hn (by decide))), same_mut (e.trans e4) hD, qs ++ [p], ?_, ?_⟩
  · rw [upd_same, List.map_append]
    rfl
  · rw [map_snoc]
    exact FrAll.append ((hF.mono e4).upd (e4 _ _ hq)) ⟨fr_upd (e4 _ _ hq) hp, trivial⟩
/-- a comprehension that makes plain values -/
theorem lc_vals (w : Walk J n G Y) {g : TG} {te : TE} {vs : List Nat} {σ : L2.St} {H1 : Hp} {D : Addr} {Qd : Hp → Prop} (x : Nat → V) (hn : n ≤ 100) (hD : H1 D = none) (hG : ∀ H, Same H1 H → G H)
    (hs : ∀ i v H H', i < n → Same H1 H → Y i H v H' → ∀ R : VK, (∀ H4, Same H H4 → R (x i) H4) → g v (wipe σ vs) H' fun σ2 H2 => wipe σ2 vs = wipe σ vs ∧ te σ2 H2 R)
    (hd : ∀ H, Same H1 H → H D = some (.lst ((List.range n).map x)) → Qd H) :
    ∃ W : Nat → Nat → Hp → Prop, (∃ m, W 0 m (upd H1 D (.lst []))) ∧ ∀ i m H, W i m H →
      (J.stop i H ∧ Qd H) ∨ (J.go i H ∧ ∃ Nx : Hp → Prop, (∀ H', Nx H' → ∃ m', m' < m ∧ W (i + 1) m' H') ∧ ∀ x H', J.yld i H x H' → g x (wipe σ vs) H' fun σ2 H2 => wipe σ2 vs = wipe σ vs ∧ tYes σ2 H2 fun b H3 =>
        if b = true then te σ2 H3 fun y H4 => ∃ acc, H4 D = some (.lst acc) ∧ acc.length < sizeLine ∧ Nx (upd H4 D (.lst (acc ++ [y]))) else Nx H3) := by
  refine lc_it w (fun i H => Same H1 H ∧ H D = some (.lst ((List.range i).map x))) ⟨same_new hD, upd_same⟩ (fun i H _ p => hG H p.1) ?_ (fun H p => hd H p.1 p.2)
  rintro i v H H' hi ⟨e, hq⟩ y
  refine hs i v H H' hi e y _ fun H4 e4 => ?_
  refine ⟨_, e4 _ _ hq, (by rw [List.length_map, List.length_range]; exact Nat.lt_of_lt_of_le hi (Nat.le_trans hn (by decide))), same_mut (e.trans e4) hD, ?_⟩
  rw [upd_same, map_snoc]
end

/-! ### promises -/
def sp_unbroken : Sp := fun vs H Q _ => ∃ n : Nat, vs = [.int (n : Int)] ∧ n ≤ 5 ∧ ∀ p H', Same H H' → H p = none → Rows H' p ((List.range n).map fun i => List.replicate i 0 ++ [100]) → (∀ bs : List Addr, H' p = some (.lst (bs.map V.ref)) → ∀ q ∈ bs, H q = none) → Q (.ref p) H'
def sp_is_row : Sp := fun vs H Q _ => ∃ (a : Addr) (r : List Nat) (m : Nat), vs = [.ref a, .int (m : Int)] ∧ H a = some (.lst (natL r)) ∧ r.length ≤ 8 ∧ RetV (.bl (rowOk r m)) H Q
def sp_into_class (K : PySem.W.Frag) : Sp := fun vs H Q _ => ∃ (b a : Addr) (B : List (List Nat)) (xs : List Rat) (j : Nat), vs = [.ref b, .ref a, .int (j : Int)] ∧ Rows H b B ∧ FrL K H a xs ∧ WfB B xs.length ∧ (∀ x ∈ xs, Sz 790 x) ∧ j < xs.length ∧ RetF K (icls B xs j) H Q
def sp_one_pass (K : PySem.W.Frag) : Sp := fun vs H Q _ => ∃ (b a : Addr) (B : List (List Nat)) (xs : List Rat), vs = [.ref b, .ref a] ∧ Rows H b B ∧ FrL K H a xs ∧ WfB B xs.length ∧ (∀ x ∈ xs, Sz 790 x) ∧ RetFs K (pass B xs) H Q
def sp_passes_done (K : PySem.W.Frag) : Sp := fun vs H Q _ => ∃ (b a : Addr) (B : List (List Nat)) (xs : List Rat) (m : Nat), vs = [.ref b, .ref a, .int (m : Int)] ∧ Rows H b B ∧ FrL K H a xs ∧ WfB B xs.length ∧ m ≤ 12 ∧ (∀ k, k ≤ 12 → ∀ x ∈ passes B k xs, Sz 790 x) ∧ RetFs K (passes B m xs) H Q
def sp_whole_amounts (K : PySem.W.Frag) : Sp := fun vs H Q _ => ∃ (a : Addr) (f : List Nat), vs = [.ref a] ∧ H a = some (.lst (natL f)) ∧ f.length ≤ 5 ∧ RetFs K (whole f) H Q
def sp_undersize (K : PySem.W.Frag) : Sp := fun vs H Q _ => ∃ (a : Addr) (xs : List Rat) (c : Nat), vs = [.ref a, .int (c : Int)] ∧ FrL K H a xs ∧ xs.length ≤ 5 ∧ RetFs K (under xs c) H Q
def sp_oversize (K : PySem.W.Frag) : Sp := fun vs H Q _ => ∃ (a : Addr) (xs : List Rat) (c : Nat), vs = [.ref a, .int (c : Int)] ∧ FrL K H a xs ∧ xs.length ≤ 5 ∧ RetFs K (over xs c) H Q
def sp_together (K : PySem.W.Frag) : Sp := fun vs H Q _ => ∃ (a b : Addr) (xs ys : List Rat), vs = [.ref a, .ref b] ∧ FrL K H a xs ∧ FrL K H b ys ∧ xs.length ≤ 5 ∧ (∀ x ∈ xs, Sm x) ∧ (∀ y ∈ ys, Sm y) ∧ RetFs K (tog xs ys) H Q

section
variable {P : Program} {w : World} {K : PySem.W.Frag} {mg : Str → Option Value} {base : Heap} {C z aA aR tA tO tT : Addr}

abbrev s_into_class : Stmt := topS 26
theorem sc_into_class : FnScope ["breakage", "amounts", "size_class", "found", "source"] ["breakage", "amounts", "size_class"] (defScope s_into_class) := ⟨rfl, rfl, rfl, by decide +kernel, rfl, by decide +kernel, by decide +kernel⟩
theorem b_into_class : Bnd "into_class" "into_class" s_into_class ["breakage", "amounts", "size_class"] := fun _ _ _ _ _ _ us hl => match us, hl with | [_, _, _], _ => rfl
theorem body_into_class (T : Txt K mg C z aA aR tA tO tT) (D_plus : DefOk P w K mg base "plus" 3 (sp_plus K)) (D_times : DefOk P w K mg base "times" 3 (sp_times K)) : Body P w K mg base "into_class" s_into_class ["breakage", "amounts", "size_class", "found", "source"] 3 (sp_into_class K) := by
  intro f cdv A outer s H vs Q E hr h
  obtain ⟨b, a, B, xs, j, rfl, hB, hX, wf, hz, hj, k⟩ := h
  refine ⟨_, (pss_cons (ps_set (i := 3) sc_into_class.nd rfl (Or.inl rfl) (pe_gref T.g_ZERO (by rfl)))
        (pss_cons (ps_for PassesOwn.never rfl (pi_range2 rfl T.n_range (pa_cons (pv 2) (pa_cons (pe_callB call_len_seq (by rfl) T.n_len PySem.boot_len (pa_cons (pv 1) pa_nil)) pa_nil))) (pg_name (i := 4) sc_into_class.nd rfl (Or.inl rfl)) (pss_one (ps_set (i := 3) sc_into_class.nd rfl (Or.inl rfl) (pe_callD D_plus (hr.mono (by decide)) (by rfl) (pa_cons (pv 3) (pa_cons (pe_callD D_times (hr.mono (by decide)) (by rfl) (pa_cons (pe_ix (r := rIxL K) ix_list (pv 1) (pv 4) (fun _ _ => rfl)) (pa_cons (pe_ix (r := rIxL K) ix_list (pe_ix (r := rIxL K) ix_list (pv 0) (pv 4) (fun _ _ => rfl)) (pv 2) (fun _ _ => rfl)) (pa_cons (pe_gint T.c_MOST_PERCENT (by rfl)) pa_nil)))) pa_nil))))))
        (pss_one (ps_ret (pv 3))))), ?_⟩
  obtain ⟨vx, hvx, lvx⟩ := hX.lenL
  refine ⟨_, rfl, _, rfl, a, vx, rfl, .inl (SqL.of hvx), (j : Int), (xs.length : Int), by rw [lvx], ?_, ?_⟩
  · have := wf.hi
    omega
  have e0 : ((xs.length : Int) - (j : Int)).toNat = xs.length - j := by omega
  rw [e0]
  refine for_range (fun i σ H' => ∃ (p : Addr) (v : Option V), σ = [some (.ref b), some (.ref a), some (.int (j : Int)), some (.ref p), v] ∧ Same H H' ∧ Fr K H' p (icPart B xs j i)) ⟨z, none, rfl, Same.refl H, T.fr0 H⟩ ?_ ?_
  · rintro i σ H' hi ⟨p, v, rfl, e, hp⟩
    have hji : j + i < xs.length := by omega
    obtain ⟨ux, q, h1, h2, h3⟩ := hX.get hji
    obtain ⟨ub, r, g1, g2, g3⟩ := hB.get (i := j + i) (by rw [wf.len]; exact hji)
    have c0 := natL_at (wf.cell_at hji (Nat.le_add_right j i))
    refine ⟨_, rfl, _, rfl, _, rfl, a, ux, _, _, rfl, rfl, SqL.of (e _ _ h1), at_of (j := j + i) rfl h2, ?_⟩
    refine ⟨_, rfl, _, rfl, b, ub, _, _, rfl, rfl, SqL.of (e _ _ g1), at_of (j := j + i) rfl g2, _, rfl, r, _, _, _, rfl, rfl, SqL.of (e _ _ g3), atI_nat c0, ?_⟩
    refine ⟨q, xs.getD (j + i) 0, cell B (j + i) j, 100, rfl, h3.mono e, (Sz.getD hz (by decide) _).mono (by decide), Nat.lt_of_le_of_lt (wf.cell_le hji j) (by decide), by decide, by decide, fun p2 H2 e2 f2 => ?_⟩
    refine ⟨p, p2, _, _, rfl, hp.mono e2, f2, (icPart_sz wf hz (by decide) j i (by omega)).mono ?_, (icTerm_sz wf hz (by decide) hji j).mono (by decide), fun p3 H3 e3 f3 => ?_⟩
    · have h5 : i ≤ 5 := by have := wf.hi; omega
      have := Nat.mul_le_mul_right (790 + 8) h5
      omega
    · exact ⟨p3, _, rfl, (e.trans e2).trans e3, f3⟩
  · rintro σ H' ⟨p, v, rfl, e, hp⟩
    exact ⟨_, rfl, k p H' e hp⟩
theorem def_into_class {f : Addr} (h : Here K mg "into_class" s_into_class f) (T : Txt K mg C z aA aR tA tO tT) (D_plus : DefOk P w K mg base "plus" 3 (sp_plus K)) (D_times : DefOk P w K mg base "times" 3 (sp_times K)) : DefOk P w K mg base "into_class" 4 (sp_into_class K) :=
  mkDef h sc_into_class b_into_class (fun vs H Q E h => by obtain ⟨_, _, _, _, _, rfl, _⟩ := h; rfl) (body_into_class T D_plus D_times)

abbrev s_one_pass : Stmt := topS 27
theorem sc_one_pass : FnScope ["breakage", "amounts", "size_class"] ["breakage", "amounts"] (defScope s_one_pass) := ⟨rfl, rfl, rfl, by decide +kernel, rfl, by decide +kernel, by decide +kernel⟩
theorem b_one_pass : Bnd "one_pass" "one_pass" s_one_pass ["breakage", "amounts"] := fun _ _ _ _ _ _ us hl => match us, hl with | [_, _], _ => rfl
theorem body_one_pass (T : Txt K mg C z aA aR tA tO tT) (D_into_class : DefOk P w K mg base "into_class" 4 (sp_into_class K)) : Body P w K mg base "one_pass" s_one_pass ["breakage", "amounts", "size_class"] 4 (sp_one_pass K) := by
  intro f cdv A outer s H vs Q E hr h
  obtain ⟨b, a, B, xs, rfl, hB, hX, wf, hz, k⟩ := h
  refine ⟨_, (pss_one (ps_ret (pe_lc (own := [("size_class", 2)]) (g := (gName 2)) (tt := tYes) rfl sc_one_pass.nd (pi_range1 rfl T.n_range (pa_cons (pe_callB call_len_seq (by rfl) T.n_len PySem.boot_len (pa_cons (pv 1) pa_nil)) pa_nil)) (blkOk_by (own := [("size_class", 2)]) (N := ["breakage", "amounts", "size_class"]) (sc := defScope (topS 27)) (by decide +kernel)) (fun _ _ _ _ _ => (pg_name (i := 2) sc_one_pass.nd rfl (Or.inl rfl))) (fun _ _ _ _ _ => pts_nil) (fun _ _ _ _ _ => (pe_callD D_into_class (hr.mono (by decide)) (by rfl) (pa_cons (pv 0) (pa_cons (pv 1) (pa_cons (pv 2) pa_nil)))))))), ?_⟩
  obtain ⟨vx, hvx, lvx⟩ := hX.lenL
  refine ⟨_, rfl, a, vx, rfl, .inl (SqL.of hvx), (xs.length : Int), by rw [lvx], ?_, ?_, ?_⟩
  · omega
  · have := wf.hi
    omega
  intro D hD
  have e0 : ((xs.length : Int)).toNat = xs.length := by omega
  rw [e0]
  refine lc_frs (K := K) walk_range (icls B xs) (Nat.le_trans wf.hi (by decide)) hD (fun _ _ => trivial) ?_ (fun H' e q => k D H' e hD q)
  rintro i v H1 H2 hi e ⟨rfl, rfl⟩ R hR
  refine ⟨rfl, ?_⟩
  refine ⟨_, rfl, _, rfl, _, rfl, b, a, B, xs, i, ?_, hB.mono e, hX.mono e, wf, hz, hi, hR⟩
  show [V.ref b, V.ref a, V.int (0 + (i : Int))] = _
  rw [Int.zero_add]
theorem def_one_pass {f : Addr} (h : Here K mg "one_pass" s_one_pass f) (T : Txt K mg C z aA aR tA tO tT) (D_into_class : DefOk P w K mg base "into_class" 4 (sp_into_class K)) : DefOk P w K mg base "one_pass" 5 (sp_one_pass K) :=
  mkDef h sc_one_pass b_one_pass (fun vs H Q E h => by obtain ⟨_, _, _, _, rfl, _⟩ := h; rfl) (body_one_pass T D_into_class)
end
end Gs
end P_GsB2
section P_GsB3
set_option Elab.async false
set_option linter.all false
set_option maxRecDepth 100000
set_option maxHeartbeats 4000000
/-! GsB3: the mill, second half. -/
namespace Gs
open PySem PySem.Spec PyProof.Rows L2
theorem fr_nat {K : PySem.W.Frag} {H : Hp} {p : Addr} {n : Nat} (h : H p = some (.tup [.int (n : Int), .int 1])) : Fr K H p (n : Rat) := SqT.of h
theorem whole_range (f : List Nat) : whole f = (List.range f.length).map fun i => ((f.getD i 0 : Nat) : Rat) := by
  unfold whole
  refine List.ext_getElem (by simp) fun i h1 h2 => ?_
  have hi : i < f.length := by simpa using h1
  rw [List.getElem_map, List.getElem_map, List.getElem_range, getD_in hi]
theorem natL_get {f : List Nat} {i : Nat} {v : V} (h : (natL f)[i]? = some v) : v = .int ((f.getD i 0 : Nat) : Int) ∧ i < f.length := by
  have hi : i < f.length := by
    have q := (List.getElem?_eq_some_iff.mp h).1
    rw [natL_len] at q
    exact q
  have e : f[i]? = some (f.getD i 0) := by rw [getD_in hi, List.getElem?_eq_getElem hi]
  rw [natL_at e] at h
  exact ⟨(Option.some.inj h).symm, hi⟩
/-- a new pair of fractions is handed back -/
def RetP (K : PySem.W.Frag) (x y : Rat) (H : Hp) (Q : VK) : Prop := ∀ p q r H', Same H H' → H' p = some (.tup [.ref q, .ref r]) → Fr K H' q x → Fr K H' r y → Q (.ref p) H'
def sp_rounds_done (K : PySem.W.Frag) : Sp := fun vs H Q _ => ∃ (b a : Addr) (B : List (List Nat)) (f : List Nat) (c m : Nat), vs = [.ref b, .ref a, .int (c : Int), .int (m : Int)] ∧ Rows H b B ∧ H a = some (.lst (natL f)) ∧ WfB B f.length ∧ (∀ n ∈ f, n ≤ 100) ∧ m ≤ 12 ∧ RdOk B f c ∧
  RetP K (rds B f c m).1.sum (rds B f c m).2 H Q
def sp_are_small (K : PySem.W.Frag) : Sp := fun vs H Q _ => ∃ (a : Addr) (xs : List Rat), vs = [.ref a] ∧ FrL K H a xs ∧ xs.length ≤ 5 ∧ RetV (.bl (xs.all small)) H Q
theorem all_range {xs : List Rat} (g : Rat → Bool) : ((List.range xs.length).map fun i => g (xs.getD i 0)).all id = xs.all g := by
  have e : (List.range xs.length).map (fun i => g (xs.getD i 0)) = xs.map g := by
    refine List.ext_getElem (by simp) fun i h1 h2 => ?_
    have hi : i < xs.length := by simpa using h1
    rw [List.getElem_map, List.getElem_map, List.getElem_range, getD_in hi]
  rw [e, List.all_map]
  rfl
theorem allN_range {xs : List Nat} (g : Nat → Bool) : ((List.range xs.length).map fun i => g (xs.getD i 0)).all id = xs.all g := by
  have e : (List.range xs.length).map (fun i => g (xs.getD i 0)) = xs.map g := by
    refine List.ext_getElem (by simp) fun i h1 h2 => ?_
    have hi : i < xs.length := by simpa using h1
    rw [List.getElem_map, List.getElem_map, List.getElem_range, getD_in hi]
  rw [e, List.all_map]
  rfl
theorem anyN_range {xs : List Nat} (g : Nat → Bool) : ((List.range xs.length).map fun i => g (xs.getD i 0)).any id = xs.any g := by
  have e : (List.range xs.length).map (fun i => g (xs.getD i 0)) = xs.map g := by
    refine List.ext_getElem (by simp) fun i h1 h2 => ?_
    have hi : i < xs.length := by simpa using h1
    rw [List.getElem_map, List.getElem_map, List.getElem_range, getD_in hi]
  rw [e, List.any_map]
  rfl
theorem decV (m n : Nat) : decide (V.int (m : Int) = V.int (n : Int)) = decide (m = n) := by
  refine decide_eq_decide.mpr ⟨fun h => ?_, fun h => by rw [h]⟩
  injection h with h
  omega
theorem fr_rep {K : PySem.W.Frag} {H : Hp} {z : Addr} (h : Fr K H z 0) : ∀ n : Nat, FrAll K H (List.replicate n z) (List.replicate n 0)
  | 0 => trivial
  | n + 1 => ⟨h, fr_rep h n⟩
theorem RowAll.upd {H : Hp} {D : Addr} {o : HO} : ∀ {ps : List Addr} {rs : List (List Nat)}, (∀ p ∈ ps, p ≠ D) → RowAll H ps rs → RowAll (upd H D o) ps rs
  | [], [], _, _ => trivial
  | p :: _, _ :: _, hn, ⟨h, r⟩ => ⟨by rw [upd_ne (hn p List.mem_cons_self)]; exact h, RowAll.upd (fun q hq => hn q (List.mem_cons_of_mem _ hq)) r⟩
theorem RowAll.snoc {H : Hp} : ∀ {ps : List Addr} {rs : List (List Nat)} {p : Addr} {r : List Nat}, RowAll H ps rs → H p = some (.lst (natL r)) → RowAll H (ps ++ [p]) (rs ++ [r])
  | [], [], _, _, _, h => ⟨h, trivial⟩
  | _ :: _, _ :: _, _, _, ⟨h, q⟩, hp => ⟨h, RowAll.snoc q hp⟩

section
variable {P : Program} {w : World} {K : PySem.W.Frag} {mg : Str → Option Value} {base : Heap} {C z aA aR tA tO tT : Addr}

abbrev s_whole_amounts : Stmt := topS 29
theorem sc_whole_amounts : FnScope ["feed", "one"] ["feed"] (defScope s_whole_amounts) := ⟨rfl, rfl, rfl, by decide +kernel, rfl, by decide +kernel, by decide +kernel⟩
theorem b_whole_amounts : Bnd "whole_amounts" "whole_amounts" s_whole_amounts ["feed"] := fun _ _ _ _ _ _ us hl => match us, hl with | [_], _ => rfl
theorem body_whole_amounts : Body P w K mg base "whole_amounts" s_whole_amounts ["feed", "one"] 0 (sp_whole_amounts K) := by
  intro f cdv A outer s H vs Q E hr h
  obtain ⟨a, fd, rfl, hL, hl, k⟩ := h
  refine ⟨_, (pss_one (ps_ret (pe_lc (own := [("one", 1)]) (g := (gName 1)) (tt := tYes) rfl sc_whole_amounts.nd (pi_list (pv 0)) (blkOk_by (own := [("one", 1)]) (N := ["feed", "one"]) (sc := defScope (topS 29)) (by decide +kernel)) (fun _ _ _ _ _ => (pg_name (i := 1) sc_whole_amounts.nd rfl (Or.inl rfl))) (fun _ _ _ _ _ => pts_nil) (fun _ _ _ _ _ => (pe_tup (pa_cons (pv 1) (pa_cons pe_int pa_nil))))))), ?_⟩
  refine ⟨_, rfl, a, rfl, ⟨_, SqL.of hL⟩, fun D hD => ?_⟩
  refine lc_frs (K := K) (walk_list (K := K) (a := a) (xs := natL fd)) (fun i => ((fd.getD i 0 : Nat) : Rat)) (by rw [natL_len]; omega) hD (fun H' e => e.seq (SqL.of hL)) ?_ (fun H' e q => k D H' e hD ?_)
  · rintro i v H1 H2 hi e ⟨rfl, hv⟩ R hR
    obtain ⟨rfl, _⟩ := natL_get hv
    exact ⟨rfl, _, rfl, (by show 2 ≤ sizeLine; decide), fun p hp => hR p _ (same_new hp) (fr_nat upd_same)⟩
  · rw [whole_range]
    rw [natL_len] at q
    exact q
theorem def_whole_amounts {f : Addr} (h : Here K mg "whole_amounts" s_whole_amounts f) : DefOk P w K mg base "whole_amounts" 1 (sp_whole_amounts K) :=
  mkDef h sc_whole_amounts b_whole_amounts (fun vs H Q E h => by obtain ⟨_, _, rfl, _⟩ := h; rfl) body_whole_amounts

abbrev s_undersize : Stmt := topS 30
theorem sc_undersize : FnScope ["amounts", "cut", "size_class", "one"] ["amounts", "cut"] (defScope s_undersize) := ⟨rfl, rfl, rfl, by decide +kernel, rfl, by decide +kernel, by decide +kernel⟩
theorem b_undersize : Bnd "undersize" "undersize" s_undersize ["amounts", "cut"] := fun _ _ _ _ _ _ us hl => match us, hl with | [_, _], _ => rfl
theorem body_undersize (T : Txt K mg C z aA aR tA tO tT) : Body P w K mg base "undersize" s_undersize ["amounts", "cut", "size_class", "one"] 0 (sp_undersize K) := by
  intro f cdv A outer s H vs Q E hr h
  obtain ⟨a, xs, c, rfl, hX, hl, k⟩ := h
  obtain ⟨ps, hL, hF⟩ := hX
  refine ⟨_, (pss_one (ps_ret (pe_lc (own := [("size_class", 2), ("one", 3)]) (g := (gTup K 2 (gCons (gName 2) (gCons (gName 3) gNil)))) (tt := tYes) rfl sc_undersize.nd (pi_enum (by rfl) T.n_enumerate (pa_cons (pv 0) pa_nil)) (blkOk_by (own := [("size_class", 2), ("one", 3)]) (N := ["amounts", "cut", "size_class", "one"]) (sc := defScope (topS 30)) (by decide +kernel)) (fun _ _ _ _ _ => (pg_tup rfl (pgs_cons (pg_name (i := 2) sc_undersize.nd rfl (Or.inl rfl)) (pgs_cons (pg_name (i := 3) sc_undersize.nd rfl (Or.inl rfl)) pgs_nil)))) (fun _ _ _ _ _ => pts_nil) (fun _ _ _ _ _ => (pe_ifExp (pt_cmpR op_lt (pv 2) (pv 1) (nomark _)) (pv 3) (pe_gref T.g_ZERO (by rfl))))))), ?_⟩
  refine ⟨_, rfl, a, _, rfl, SqL.of hL, fun D hD => ?_⟩
  have el : (ps.map V.ref).length = xs.length := by rw [List.length_map, hF.len]
  refine lc_frs (K := K) (walk_enum (K := K) (a := a) (xs := ps.map V.ref)) (fun i => if i < c then xs.getD i 0 else 0) (by rw [el]; omega) hD (fun H' e => e.seq (SqL.of hL)) ?_ (fun H' e q => k D H' e hD ?_)
  · rintro i v H1 H2 hi e ⟨t, x, y, rfl, ht, rfl, hx, hy⟩ R hR
    cases hx
    obtain ⟨p, q, rfl, hp, hq, hpq⟩ := hF.at hy
    refine ⟨t, _, rfl, SqT.of upd_same, rfl, _, _, rfl, _, _, rfl, rfl, rfl, ?_⟩
    refine ⟨_, rfl, _, rfl, _, _, rfl, rfl, _, rfl, ?_⟩
    refine ite2 (fun d => ?_) (fun d => ?_)
    · have d' : (i : Int) < (c : Int) := of_decide_eq_true d
      refine ⟨_, rfl, hR p _ (same_new ht) ?_⟩
      rw [if_pos (by omega), getD_of hq]
      exact hpq.mono (e.trans (same_new ht))
    · have d' : ¬ (i : Int) < (c : Int) := fun u => d (decide_eq_true u)
      refine hR z _ (same_new ht) ?_
      rw [if_neg (by omega)]
      exact T.fr0 _
  · rw [el] at q
    exact q
theorem def_undersize {f : Addr} (h : Here K mg "undersize" s_undersize f) (T : Txt K mg C z aA aR tA tO tT) : DefOk P w K mg base "undersize" 1 (sp_undersize K) :=
  mkDef h sc_undersize b_undersize (fun vs H Q E h => by obtain ⟨_, _, _, rfl, _⟩ := h; rfl) (body_undersize T)

abbrev s_oversize : Stmt := topS 31
theorem sc_oversize : FnScope ["amounts", "cut", "size_class", "one"] ["amounts", "cut"] (defScope s_oversize) := ⟨rfl, rfl, rfl, by decide +kernel, rfl, by decide +kernel, by decide +kernel⟩
theorem b_oversize : Bnd "oversize" "oversize" s_oversize ["amounts", "cut"] := fun _ _ _ _ _ _ us hl => match us, hl with | [_, _], _ => rfl
theorem body_oversize (T : Txt K mg C z aA aR tA tO tT) : Body P w K mg base "oversize" s_oversize ["amounts", "cut", "size_class", "one"] 0 (sp_oversize K) := by
  intro f cdv A outer s H vs Q E hr h
  obtain ⟨a, xs, c, rfl, hX, hl, k⟩ := h
  obtain ⟨ps, hL, hF⟩ := hX
  refine ⟨_, (pss_one (ps_ret (pe_lc (own := [("size_class", 2), ("one", 3)]) (g := (gTup K 2 (gCons (gName 2) (gCons (gName 3) gNil)))) (tt := tYes) rfl sc_oversize.nd (pi_enum (by rfl) T.n_enumerate (pa_cons (pv 0) pa_nil)) (blkOk_by (own := [("size_class", 2), ("one", 3)]) (N := ["amounts", "cut", "size_class", "one"]) (sc := defScope (topS 31)) (by decide +kernel)) (fun _ _ _ _ _ => (pg_tup rfl (pgs_cons (pg_name (i := 2) sc_oversize.nd rfl (Or.inl rfl)) (pgs_cons (pg_name (i := 3) sc_oversize.nd rfl (Or.inl rfl)) pgs_nil)))) (fun _ _ _ _ _ => pts_nil) (fun _ _ _ _ _ => (pe_ifExp (pt_cmpR op_lt (pv 2) (pv 1) (nomark _)) (pe_gref T.g_ZERO (by rfl)) (pv 3)))))), ?_⟩
  refine ⟨_, rfl, a, _, rfl, SqL.of hL, fun D hD => ?_⟩
  have el : (ps.map V.ref).length = xs.length := by rw [List.length_map, hF.len]
  refine lc_frs (K := K) (walk_enum (K := K) (a := a) (xs := ps.map V.ref)) (fun i => if i < c then 0 else xs.getD i 0) (by rw [el]; omega) hD (fun H' e => e.seq (SqL.of hL)) ?_ (fun H' e q => k D H' e hD ?_)
  · rintro i v H1 H2 hi e ⟨t, x, y, rfl, ht, rfl, hx, hy⟩ R hR
    cases hx
    obtain ⟨p, q, rfl, hp, hq, hpq⟩ := hF.at hy
    refine ⟨t, _, rfl, SqT.of upd_same, rfl, _, _, rfl, _, _, rfl, rfl, rfl, ?_⟩
    refine ⟨_, rfl, _, rfl, _, _, rfl, rfl, _, rfl, ?_⟩
    refine ite2 (fun d => ?_) (fun d => ?_)
    · have d' : (i : Int) < (c : Int) := of_decide_eq_true d
      refine hR z _ (same_new ht) ?_
      rw [if_pos (by omega)]
      exact T.fr0 _
    · have d' : ¬ (i : Int) < (c : Int) := fun u => d (decide_eq_true u)
      refine ⟨_, rfl, hR p _ (same_new ht) ?_⟩
      rw [if_neg (by omega), getD_of hq]
      exact hpq.mono (e.trans (same_new ht))
  · rw [el] at q
    exact q
theorem def_oversize {f : Addr} (h : Here K mg "oversize" s_oversize f) (T : Txt K mg C z aA aR tA tO tT) : DefOk P w K mg base "oversize" 1 (sp_oversize K) :=
  mkDef h sc_oversize b_oversize (fun vs H Q E h => by obtain ⟨_, _, _, rfl, _⟩ := h; rfl) (body_oversize T)

abbrev s_together : Stmt := topS 32
theorem sc_together : FnScope ["one", "other", "first", "second"] ["one", "other"] (defScope s_together) := ⟨rfl, rfl, rfl, by decide +kernel, rfl, by decide +kernel, by decide +kernel⟩
theorem b_together : Bnd "together" "together" s_together ["one", "other"] := fun _ _ _ _ _ _ us hl => match us, hl with | [_, _], _ => rfl
theorem body_together (T : Txt K mg C z aA aR tA tO tT) (D_plus : DefOk P w K mg base "plus" 3 (sp_plus K)) : Body P w K mg base "together" s_together ["one", "other", "first", "second"] 3 (sp_together K) := by
  intro f cdv A outer s H vs Q E hr h
  obtain ⟨a, b, xs, ys, rfl, hX, hY, hl, hx, hy, k⟩ := h
  obtain ⟨ps, hL, hF⟩ := hX
  obtain ⟨qs, hM, hG⟩ := hY
  refine ⟨_, (pss_one (ps_ret (pe_lc (own := [("first", 2), ("second", 3)]) (g := (gTup K 2 (gCons (gName 2) (gCons (gName 3) gNil)))) (tt := tYes) rfl sc_together.nd (pi_zip (by rfl) T.n_zip (pa_cons (pv 0) (pa_cons (pv 1) pa_nil))) (blkOk_by (own := [("first", 2), ("second", 3)]) (N := ["one", "other", "first", "second"]) (sc := defScope (topS 32)) (by decide +kernel)) (fun _ _ _ _ _ => (pg_tup rfl (pgs_cons (pg_name (i := 2) sc_together.nd rfl (Or.inl rfl)) (pgs_cons (pg_name (i := 3) sc_together.nd rfl (Or.inl rfl)) pgs_nil)))) (fun _ _ _ _ _ => pts_nil) (fun _ _ _ _ _ => (pe_callD D_plus (hr.mono (by decide)) (by rfl) (pa_cons (pv 2) (pa_cons (pv 3) pa_nil))))))), ?_⟩
  refine ⟨_, rfl, _, rfl, a, b, _, _, rfl, SqL.of hL, SqL.of hM, fun D hD => ?_⟩
  have el : min (ps.map V.ref).length (qs.map V.ref).length = min xs.length ys.length := by rw [List.length_map, List.length_map, hF.len, hG.len]
  refine lc_frs (K := K) (walk_zip (K := K) (a := a) (b := b) (xs := ps.map V.ref) (ys := qs.map V.ref) el.symm) (fun i => xs.getD i 0 + ys.getD i 0) (by omega) hD (fun H' e => ⟨e.seq (SqL.of hL), e.seq (SqL.of hM)⟩) ?_ (fun H' e q => k D H' e hD q)
  rintro i v H1 H2 hi e ⟨t, x, y, rfl, ht, rfl, h1, h2⟩ R hR
  obtain ⟨p, u, rfl, hp, hu, hpu⟩ := hF.at h1
  obtain ⟨q, r, rfl, hq, hr', hqr⟩ := hG.at h2
  have e2 := e.trans (same_new (o := .tup [.ref p, .ref q]) ht)
  refine ⟨t, _, rfl, SqT.of upd_same, rfl, _, _, rfl, _, _, rfl, rfl, rfl, ?_⟩
  refine ⟨_, rfl, _, rfl, p, q, u, r, rfl, hpu.mono e2, hqr.mono e2, hx u (List.mem_of_getElem? hu), hy r (List.mem_of_getElem? hr'), fun p3 H3 e3 f3 => ?_⟩
  refine hR p3 H3 ((same_new ht).trans e3) ?_
  rw [getD_of hu, getD_of hr']
  exact f3
theorem def_together {f : Addr} (h : Here K mg "together" s_together f) (T : Txt K mg C z aA aR tA tO tT) (D_plus : DefOk P w K mg base "plus" 3 (sp_plus K)) : DefOk P w K mg base "together" 4 (sp_together K) :=
  mkDef h sc_together b_together (fun vs H Q E h => by obtain ⟨_, _, _, _, rfl, _⟩ := h; rfl) (body_together T D_plus)

abbrev s_are_small : Stmt := topS 35
theorem sc_are_small : FnScope ["amounts", "num", "den"] ["amounts"] (defScope s_are_small) := ⟨rfl, rfl, rfl, by decide +kernel, rfl, by decide +kernel, by decide +kernel⟩
theorem b_are_small : Bnd "are_small" "are_small" s_are_small ["amounts"] := fun _ _ _ _ _ _ us hl => match us, hl with | [_], _ => rfl
theorem body_are_small (T : Txt K mg C z aA aR tA tO tT) : Body P w K mg base "are_small" s_are_small ["amounts", "num", "den"] 0 (sp_are_small K) := by
  intro f cdv A outer s H vs Q E hr h
  obtain ⟨a, xs, rfl, hX, hl, k⟩ := h
  obtain ⟨ps, hL, hF⟩ := hX
  refine ⟨_, (pss_one (ps_ret (pe_callB (cr_all rfl) (by rfl) T.n_all (by decide +kernel) (pa_cons (pe_lc (own := [("num", 1), ("den", 2)]) (g := (gTup K 2 (gCons (gName 1) (gCons (gName 2) gNil)))) (tt := tYes) rfl sc_are_small.nd (pi_list (pv 0)) (blkOk_by (own := [("num", 1), ("den", 2)]) (N := ["amounts", "num", "den"]) (sc := defScope (topS 35)) (by decide +kernel)) (fun _ _ _ _ _ => (pg_tup rfl (pgs_cons (pg_name (i := 1) sc_are_small.nd rfl (Or.inl rfl)) (pgs_cons (pg_name (i := 2) sc_are_small.nd rfl (Or.inl rfl)) pgs_nil)))) (fun _ _ _ _ _ => pts_nil) (fun _ _ _ _ _ => (pe_and (pe_cmpR op_lt (pv 1) (pe_gint T.c_BOUND (by rfl)) (nomark _)) (pe_one (pe_cmpR op_lt (pv 2) (pe_gint T.c_BOUND (by rfl)) (nomark _)))))) pa_nil)))), ?_⟩
  refine ⟨_, rfl, a, rfl, ⟨_, SqL.of hL⟩, fun D hD => ?_⟩
  have el : (ps.map V.ref).length = xs.length := by rw [List.length_map, hF.len]
  refine lc_vals (walk_list (K := K) (a := a) (xs := ps.map V.ref)) (fun i => V.bl (small (xs.getD i 0))) (by rw [el]; omega) hD (fun H' e => e.seq (SqL.of hL)) ?_ (fun H' e q => ?_)
  · rintro i v H1 H2 hi e ⟨rfl, hv⟩ R hR
    obtain ⟨p, x, rfl, hp, hx, hpx⟩ := hF.at hv
    refine ⟨p, _, rfl, hpx.mono e, rfl, _, _, rfl, _, _, rfl, rfl, rfl, ?_⟩
    refine ⟨_, rfl, _, _, rfl, rfl, _, rfl, ?_⟩
    have hv2 : V.bl (small (xs.getD i 0)) = V.bl (decide (((x.num.toNat : Nat) : Int) < bnd) && decide (((x.den : Nat) : Int) < bnd)) := by
      rw [getD_of hx, bnd_lt, bnd_lt, small]
    have hR2 := hR H2 (Same.refl _)
    rw [hv2] at hR2
    refine ite2 (fun c => ?_) (fun c => ?_)
    · refine ⟨_, rfl, _, _, rfl, rfl, ?_⟩
      rw [c, Bool.true_and] at hR2
      exact hR2
    · rw [Bool.eq_false_iff.mpr c, Bool.false_and] at hR2
      exact hR2
  · refine ⟨D, (List.range xs.length).map fun i => small (xs.getD i 0), rfl, SqL.of ?_, ?_⟩
    · rw [el] at q
      rw [q, List.map_map]
      rfl
    · rw [all_range]
      exact k H' e
theorem def_are_small {f : Addr} (h : Here K mg "are_small" s_are_small f) (T : Txt K mg C z aA aR tA tO tT) : DefOk P w K mg base "are_small" 1 (sp_are_small K) :=
  mkDef h sc_are_small b_are_small (fun vs H Q E h => by obtain ⟨_, _, rfl, _⟩ := h; rfl) (body_are_small T)
end
end Gs
end P_GsB3
section P_GsB4
set_option Elab.async false
set_option linter.all false
set_option maxRecDepth 100000
set_option maxHeartbeats 4000000
/-! GsB4: the mill, third part. -/
namespace Gs
open PySem PySem.Spec PyProof.Rows L2
theorem vne {m n : Nat} (c : (!decide (V.int (m : Int) = V.int (n : Int))) = true) : ¬ m = n := by
  rw [decV] at c
  simpa using c
theorem veq {m n : Nat} (c : ¬ (!decide (V.int (m : Int) = V.int (n : Int))) = true) : m = n := by
  rw [decV] at c
  simpa using c
section
variable {P : Program} {w : World} {K : PySem.W.Frag} {mg : Str → Option Value} {base : Heap} {C z aA aR tA tO tT : Addr}

abbrev s_is_row : Stmt := topS 25
theorem sc_is_row : FnScope ["percentages", "many", "one"] ["percentages", "many"] (defScope s_is_row) := ⟨rfl, rfl, rfl, by decide +kernel, rfl, by decide +kernel, by decide +kernel⟩
theorem b_is_row : Bnd "is_row" "is_row" s_is_row ["percentages", "many"] := fun _ _ _ _ _ _ us hl => match us, hl with | [_, _], _ => rfl
theorem body_is_row (T : Txt K mg C z aA aR tA tO tT) : Body P w K mg base "is_row" s_is_row ["percentages", "many", "one"] 0 sp_is_row := by
  intro f cdv A outer s H vs Q E hr h
  obtain ⟨a, r, m, rfl, hL, hl, k⟩ := h
  refine ⟨_, (pss_cons (ps_if (PW.pt (pw_or (pt_cmpR op_ne (pe_callB call_len_seq (by rfl) T.n_len PySem.boot_len (pa_cons (pv 0) pa_nil)) (pv 1) (nomark _)) (pw_or1 (pt_cmpR op_ne (pe_callB (cr_sum rfl) (by rfl) T.n_sum (by decide +kernel) (pa_cons (pv 0) pa_nil)) (pe_gint T.c_MOST_PERCENT (by rfl)) (nomark _))))) (pss_one (ps_ret pe_bl)) pss_nil)
        (pss_one (ps_ret (pe_callB (cr_all rfl) (by rfl) T.n_all (by decide +kernel) (pa_cons (pe_lc (own := [("one", 2)]) (g := (gName 2)) (tt := tYes) rfl sc_is_row.nd (pi_list (pv 0)) (blkOk_by (own := [("one", 2)]) (N := ["percentages", "many", "one"]) (sc := defScope (topS 25)) (by decide +kernel)) (fun _ _ _ _ _ => (pg_name (i := 2) sc_is_row.nd rfl (Or.inl rfl))) (fun _ _ _ _ _ => pts_nil) (fun _ _ _ _ _ => (pe_cmpR op_le (pv 2) (pe_gint T.c_MOST_PERCENT (by rfl)) (nomark _)))) pa_nil))))), ?_⟩
  have l8 : (natL r).length = r.length := natL_len r
  refine ⟨_, rfl, a, _, rfl, .inl (SqL.of hL), _, rfl, rfl, _, rfl, ite2 (fun c => iteT ?_) (fun c => ?_)⟩
  · rw [l8] at c
    have q := k H (Same.refl H)
    unfold rowOk at q
    rw [decide_eq_false (vne c), Bool.false_and] at q
    exact q
  rw [l8] at c
  have e1 := veq c
  refine ⟨_, rfl, a, _, rfl, SqL.of hL, rfl, _, rfl, ite2 (fun c => ?_) (fun c => ?_)⟩
  · rw [isum] at c
    have q := k H (Same.refl H)
    unfold rowOk at q
    rw [decide_eq_false (vne (n := 100) c), Bool.false_and, Bool.and_false] at q
    exact q
  rw [isum] at c
  have e2 := veq (n := 100) c
  refine ⟨_, rfl, a, rfl, ⟨_, SqL.of hL⟩, fun D hD => ?_⟩
  refine lc_vals (walk_list (K := K) (a := a) (xs := natL r)) (fun i => V.bl (decide (r.getD i 0 ≤ 100))) (by rw [l8]; omega) hD (fun H' e => e.seq (SqL.of hL)) ?_ (fun H' e q => ?_)
  · rintro i v H1 H2 hi e ⟨rfl, hv⟩ R hR
    obtain ⟨rfl, _⟩ := natL_get hv
    refine ⟨rfl, _, rfl, _, _, rfl, rfl, ?_⟩
    have e3 : decide (((r.getD i 0 : Nat) : Int) ≤ 100) = decide (r.getD i 0 ≤ 100) := decide_eq_decide.mpr (by omega)
    show R (.bl (decide (((r.getD i 0 : Nat) : Int) ≤ 100))) H2
    rw [e3]
    exact hR H2 (Same.refl _)
  · refine ⟨D, (List.range r.length).map fun i => decide (r.getD i 0 ≤ 100), rfl, SqL.of ?_, ?_⟩
    · rw [l8] at q
      rw [q, List.map_map]
      rfl
    · rw [allN_range fun c => decide (c ≤ 100)]
      have q := k H' e
      unfold rowOk at q
      rw [decide_eq_true e1, decide_eq_true e2, Bool.true_and, Bool.true_and] at q
      exact q
theorem def_is_row {f : Addr} (h : Here K mg "is_row" s_is_row f) (T : Txt K mg C z aA aR tA tO tT) : DefOk P w K mg base "is_row" 1 sp_is_row :=
  mkDef h sc_is_row b_is_row (fun vs H Q E h => by obtain ⟨_, _, _, rfl, _⟩ := h; rfl) (body_is_row T)

abbrev s_unbroken : Stmt := topS 24
theorem sc_unbroken : FnScope ["class_count", "found", "size_class"] ["class_count"] (defScope s_unbroken) := ⟨rfl, rfl, rfl, by decide +kernel, rfl, by decide +kernel, by decide +kernel⟩
theorem b_unbroken : Bnd "unbroken" "unbroken" s_unbroken ["class_count"] := fun _ _ _ _ _ _ us hl => match us, hl with | [_], _ => rfl
theorem body_unbroken (T : Txt K mg C z aA aR tA tO tT) : Body P w K mg base "unbroken" s_unbroken ["class_count", "found", "size_class"] 0 sp_unbroken := by
  intro f cdv A outer s H vs Q E hr h
  obtain ⟨n, rfl, hn, k⟩ := h
  refine ⟨_, (pss_cons (ps_set (i := 1) sc_unbroken.nd rfl (Or.inl rfl) (pe_lst pa_nil))
        (pss_cons (ps_for PassesOwn.never rfl (pi_range1 rfl T.n_range (pa_cons (pv 0) pa_nil)) (pg_name (i := 2) sc_unbroken.nd rfl (Or.inl rfl)) (pss_one (ps_expr (pe_bm PySem.F.plainAttrs_list PySem.F.slot_list_append PySem.F.type_list_append mt_append (pv 1) (pa_cons (pe_op op_cat (pe_op op_rep (pe_lst (pa_cons pe_int pa_nil)) (pv 2)) (pe_lst (pa_cons (pe_gint T.c_MOST_PERCENT (by rfl)) pa_nil))) pa_nil)))))
        (pss_one (ps_ret (pv 1))))), ?_⟩
  refine ⟨Nat.zero_le _, fun D hD => ?_⟩
  refine ⟨_, rfl, (n : Int), rfl, by omega, by omega, ?_⟩
  have e0 : ((n : Nat) : Int).toNat = n := by omega
  rw [e0]
  refine for_range (fun i σ H' => ∃ (v : Option V) (bs : List Addr), σ = [some (.int (n : Int)), some (.ref D), v] ∧ Same H H' ∧ H' D = some (.lst (bs.map V.ref)) ∧ bs.length = i ∧ RowAll H' bs ((List.range i).map fun i => List.replicate i 0 ++ [100]) ∧ ∀ q ∈ bs, H q = none ∧ q ≠ D)
    ⟨none, [], rfl, same_new hD, upd_same, rfl, trivial, fun q hq => by cases hq⟩ ?_ ?_
  · rintro i σ H' hi ⟨v, bs, rfl, e, hD', lb, hR, hq⟩
    refine ⟨_, rfl, .inl ⟨rfl, _, SqL.of hD'⟩, ?_⟩
    refine ⟨(by show 1 ≤ sizeLine; decide), fun p hp => ?_⟩
    have hp0 := e.free hp
    refine ⟨_, rfl, p, _, _, rfl, rfl, upd_same, by omega, by omega, ?_, fun p2 hp2 => ?_⟩
    · show 1 * (0 + (i : Int)).toNat ≤ sizeLine
      exact Nat.le_trans (by omega : 1 * (0 + (i : Int)).toNat ≤ 5) (by decide)
    have hp20 : H' p2 = none := by
      by_cases x : p2 = p
      · rw [x]
        exact hp
      · rw [upd_ne x] at hp2
        exact hp2
    have np2 : p2 ≠ p := fun x => by
      rw [x, upd_same] at hp2
      cases hp2
    have e1 : (0 + (i : Int)).toNat = i := by omega
    refine ⟨(by show 1 ≤ sizeLine; decide), fun p3 hp3 => ?_⟩
    have np3 : p3 ≠ p2 := fun x => by
      rw [x, upd_same] at hp3
      cases hp3
    refine ⟨p2, p3, _, _, rfl, rfl, by rw [upd_ne np3.symm]; exact upd_same, upd_same, ?_, fun p4 hp4 => ?_⟩
    · rw [e1, List.flatten_replicate_singleton, List.length_replicate]
      exact Nat.le_trans (by show i + 1 ≤ 6; omega : _ ≤ 6) (by decide)
    have sm : Same H' (upd (upd (upd (upd H' p (.lst [V.int 0])) p2 (.lst (List.replicate (0 + (i : Int)).toNat [V.int 0]).flatten)) p3 (.lst [V.int 100])) p4 (.lst ((List.replicate (0 + (i : Int)).toNat [V.int 0]).flatten ++ [V.int 100]))) :=
      (((same_new hp).trans (same_new hp2)).trans (same_new hp3)).trans (same_new hp4)
    have hp4' : H' p4 = none := (((same_new hp).trans (same_new hp2)).trans (same_new hp3)).free hp4
    have nd : p4 ≠ D := (ne_of_none hD' hp4').symm
    have row : (List.replicate (0 + (i : Int)).toNat [V.int 0]).flatten ++ [V.int 100] = natL (List.replicate i 0 ++ [100]) := by
      rw [e1, List.flatten_replicate_singleton, natL, List.map_append, List.map_append, List.map_replicate, List.map_replicate]
      rfl
    refine ⟨D, _, _, rfl, rfl, sm _ _ hD', ?_, ?_⟩
    · rw [List.length_map, lb]
      exact Nat.lt_of_lt_of_le (by omega : i < 6) (by decide)
    refine ⟨some (.int (0 + (i : Int))), bs ++ [p4], rfl, same_mut (e.trans sm) hD, by rw [upd_same, List.map_append]; rfl, by rw [List.length_append, lb]; rfl, ?_, ?_⟩
    · rw [map_snoc]
      refine RowAll.upd (fun q h => ?_) (RowAll.snoc (hR.mono sm) (by rw [upd_same, row]))
      rcases List.mem_append.mp h with h | h
      · exact (hq q h).2
      · rw [List.mem_singleton.mp h]
        exact nd
    · intro q h
      rcases List.mem_append.mp h with h | h
      · exact hq q h
      · rw [List.mem_singleton.mp h]
        exact ⟨e.free hp4', nd⟩
  · rintro σ H' ⟨v, bs, rfl, e, hD', lb, hR, hq⟩
    refine ⟨_, rfl, k D H' e hD ⟨bs, hD', hR⟩ fun cs hc q h => ?_⟩
    rw [hD'] at hc
    have hm : bs.map V.ref = cs.map V.ref := by
      injection hc with hc
      injection hc
    have : (V.ref q) ∈ bs.map V.ref := by
      rw [hm]
      exact List.mem_map_of_mem h
    obtain ⟨q', h1, h2⟩ := List.mem_map.mp this
    cases h2
    exact (hq q h1).1
theorem def_unbroken {f : Addr} (h : Here K mg "unbroken" s_unbroken f) (T : Txt K mg C z aA aR tA tO tT) : DefOk P w K mg base "unbroken" 1 sp_unbroken :=
  mkDef h sc_unbroken b_unbroken (fun vs H Q E h => by obtain ⟨_, rfl, _⟩ := h; rfl) (body_unbroken T)

abbrev s_passes_done : Stmt := topS 28
theorem sc_passes_done : FnScope ["breakage", "amounts", "passes", "found", "turn"] ["breakage", "amounts", "passes"] (defScope s_passes_done) := ⟨rfl, rfl, rfl, by decide +kernel, rfl, by decide +kernel, by decide +kernel⟩
theorem b_passes_done : Bnd "passes_done" "passes_done" s_passes_done ["breakage", "amounts", "passes"] := fun _ _ _ _ _ _ us hl => match us, hl with | [_, _, _], _ => rfl
theorem body_passes_done (T : Txt K mg C z aA aR tA tO tT) (D_one_pass : DefOk P w K mg base "one_pass" 5 (sp_one_pass K)) : Body P w K mg base "passes_done" s_passes_done ["breakage", "amounts", "passes", "found", "turn"] 5 (sp_passes_done K) := by
  intro f cdv A outer s H vs Q E hr h
  obtain ⟨b, a, B, xs, m, rfl, hB, hX, wf, hm, hz, k⟩ := h
  obtain ⟨ps, hL, hF⟩ := hX
  refine ⟨_, (pss_cons (ps_set (i := 3) sc_passes_done.nd rfl (Or.inl rfl) (pe_callTy call_list_of (by rfl) T.n_list (by decide +kernel) (pa_cons (pv 1) pa_nil)))
        (pss_cons (ps_for PassesOwn.never rfl (pi_range1 rfl T.n_range (pa_cons (pv 2) pa_nil)) (pg_name (i := 4) sc_passes_done.nd rfl (Or.inl rfl)) (pss_one (ps_set (i := 3) sc_passes_done.nd rfl (Or.inl rfl) (pe_callD D_one_pass (hr.mono (by decide)) (by rfl) (pa_cons (pv 0) (pa_cons (pv 3) pa_nil))))))
        (pss_one (ps_ret (pv 3))))), ?_⟩
  refine ⟨_, rfl, a, _, rfl, .inl (SqL.of hL), fun l hl => ?_⟩
  refine ⟨_, rfl, (m : Int), rfl, by omega, by omega, ?_⟩
  have e0 : ((m : Nat) : Int).toNat = m := by omega
  rw [e0]
  refine for_range (fun i σ H' => ∃ (q : Addr) (v : Option V), σ = [some (.ref b), some (.ref a), some (.int (m : Int)), some (.ref q), v] ∧ Same H H' ∧ H q = none ∧ FrL K H' q (passes B i xs))
    ⟨l, none, rfl, same_new hl, hl, ps, upd_same, hF.mono (same_new hl)⟩ ?_ ?_
  · rintro i σ H' hi ⟨q, v, rfl, e, hq, hX'⟩
    refine ⟨_, rfl, _, rfl, b, q, B, passes B i xs, rfl, hB.mono e, hX', by rw [passes_len]; exact wf, hz i (by omega), fun p2 H2 e2 n2 f2 => ?_⟩
    exact ⟨p2, _, rfl, e.trans e2, e.free n2, f2⟩
  · rintro σ H' ⟨q, v, rfl, e, hq, hX'⟩
    exact ⟨_, rfl, k q H' e hq hX'⟩
theorem def_passes_done {f : Addr} (h : Here K mg "passes_done" s_passes_done f) (T : Txt K mg C z aA aR tA tO tT) (D_one_pass : DefOk P w K mg base "one_pass" 5 (sp_one_pass K)) : DefOk P w K mg base "passes_done" 6 (sp_passes_done K) :=
  mkDef h sc_passes_done b_passes_done (fun vs H Q E h => by obtain ⟨_, _, _, _, _, rfl, _⟩ := h; rfl) (body_passes_done T D_one_pass)

abbrev s_rounds_done : Stmt := topS 33
theorem sc_rounds_done : FnScope ["breakage", "feed", "cut", "rounds", "back", "product", "turn", "ground"] ["breakage", "feed", "cut", "rounds"] (defScope s_rounds_done) := ⟨rfl, rfl, rfl, by decide +kernel, rfl, by decide +kernel, by decide +kernel⟩
theorem b_rounds_done : Bnd "rounds_done" "rounds_done" s_rounds_done ["breakage", "feed", "cut", "rounds"] := fun _ _ _ _ _ _ us hl => match us, hl with | [_, _, _, _], _ => rfl
theorem body_rounds_done (T : Txt K mg C z aA aR tA tO tT) (D_plus : DefOk P w K mg base "plus" 3 (sp_plus K)) (D_total : DefOk P w K mg base "total" 4 (sp_total K)) (D_one_pass : DefOk P w K mg base "one_pass" 5 (sp_one_pass K)) (D_together : DefOk P w K mg base "together" 4 (sp_together K))
    (D_whole_amounts : DefOk P w K mg base "whole_amounts" 1 (sp_whole_amounts K)) (D_undersize : DefOk P w K mg base "undersize" 1 (sp_undersize K)) (D_oversize : DefOk P w K mg base "oversize" 1 (sp_oversize K)) : Body P w K mg base "rounds_done" s_rounds_done ["breakage", "feed", "cut", "rounds", "back", "product", "turn", "ground"] 5 (sp_rounds_done K) := by
  intro f cdv A outer s H vs Q E hr h
  obtain ⟨b, a, B, fd, c, m, rfl, hB, hL, wf, hf, hm, ok, k⟩ := h
  refine ⟨_, (pss_cons (ps_par (i := 4) (j := 5) (by rfl) sc_rounds_done.nd rfl rfl (by decide) rfl rfl (pa_cons (pe_op op_rep (pe_lst (pa_cons (pe_gref T.g_ZERO (by rfl)) pa_nil)) (pe_callB call_len_seq (by rfl) T.n_len PySem.boot_len (pa_cons (pv 1) pa_nil))) (pa_cons (pe_gref T.g_ZERO (by rfl)) pa_nil)) (by rfl))
        (pss_cons (ps_for PassesOwn.never rfl (pi_range1 rfl T.n_range (pa_cons (pv 3) pa_nil)) (pg_name (i := 6) sc_rounds_done.nd rfl (Or.inl rfl)) (pss_cons (ps_set (i := 7) sc_rounds_done.nd rfl (Or.inl rfl) (pe_callD D_one_pass (hr.mono (by decide)) (by rfl) (pa_cons (pv 0) (pa_cons (pe_callD D_together (hr.mono (by decide)) (by rfl) (pa_cons (pe_callD D_whole_amounts (hr.mono (by decide)) (by rfl) (pa_cons (pv 1) pa_nil)) (pa_cons (pv 4) pa_nil))) pa_nil))))
        (pss_cons (ps_set (i := 5) sc_rounds_done.nd rfl (Or.inl rfl) (pe_callD D_plus (hr.mono (by decide)) (by rfl) (pa_cons (pv 5) (pa_cons (pe_callD D_total (hr.mono (by decide)) (by rfl) (pa_cons (pe_callD D_undersize (hr.mono (by decide)) (by rfl) (pa_cons (pv 7) (pa_cons (pv 2) pa_nil))) pa_nil)) pa_nil))))
        (pss_one (ps_set (i := 4) sc_rounds_done.nd rfl (Or.inl rfl) (pe_callD D_oversize (hr.mono (by decide)) (by rfl) (pa_cons (pv 7) (pa_cons (pv 2) pa_nil))))))))
        (pss_one (ps_ret (pe_tup (pa_cons (pe_callD D_total (hr.mono (by decide)) (by rfl) (pa_cons (pv 4) pa_nil)) (pa_cons (pv 5) pa_nil))))))), ?_⟩
  have l8 : (natL fd).length = fd.length := natL_len fd
  have l5 : fd.length ≤ 5 := wf.hi
  refine ⟨(by show 1 ≤ sizeLine; decide), fun l hl => ?_⟩
  have hLl : (upd H l (.lst [V.ref z])) a = some (.lst (natL fd)) := (same_new hl) _ _ hL
  refine ⟨_, rfl, a, _, rfl, .inl (SqL.of hLl), l, ((fd.length : Nat) : Int), _, rfl, by rw [l8], upd_same, by omega, by omega, ?_, fun p hp => ?_⟩
  · show 1 * ((fd.length : Nat) : Int).toNat ≤ sizeLine
    exact Nat.le_trans (by omega : 1 * ((fd.length : Nat) : Int).toNat ≤ 5) (by decide)
  refine ⟨_, _, rfl, ?_⟩
  refine ⟨_, rfl, (m : Int), rfl, by omega, by omega, ?_⟩
  have e0 : ((m : Nat) : Int).toNat = m := by omega
  have e1 : ((fd.length : Nat) : Int).toNat = fd.length := by omega
  have s0 : Same H (upd (upd H l (.lst [V.ref z])) p (.lst (List.replicate ((fd.length : Nat) : Int).toNat [V.ref z]).flatten)) := (same_new hl).trans (same_new hp)
  rw [e0]
  refine for_range (fun i σ H' => ∃ (q r : Addr) (v1 v2 : Option V), σ = [some (.ref b), some (.ref a), some (.int (c : Int)), some (.int (m : Int)), some (.ref q), some (.ref r), v1, v2] ∧ Same H H' ∧ FrL K H' q (rds B fd c i).1 ∧ Fr K H' r (rds B fd c i).2)
    ⟨p, z, none, none, rfl, s0, ⟨List.replicate fd.length z, ?_, fr_rep (T.fr0 _) _⟩, T.fr0 _⟩ ?_ ?_
  · rw [upd_same, e1, List.flatten_replicate_singleton, List.map_replicate]
  · rintro i σ H' hi ⟨q, r, v1, v2, rfl, e, hq, hr'⟩
    obtain ⟨z1, z2, z3⟩ := ok i (by omega)
    obtain ⟨y1, y2, y3⟩ := ok (i + 1) (by omega)
    have ln : ∀ i, (rds B fd c i).1.length = fd.length := fun i => rds_len B fd c i
    have lt : (tog (whole fd) (rds B fd c i).1).length = fd.length := by rw [tog_len (by rw [whole_len, ln]), whole_len]
    have zf : ∀ x ∈ whole fd, Sz 780 x := fun x hx => by
      obtain ⟨n, hn, rfl⟩ := mem_whole hx
      exact (Sz.nat (b := 7) (Nat.lt_of_le_of_lt (hf n hn) (by decide)) (by decide)).mono (by decide)
    -- ground = one_pass(breakage, together(whole_amounts(feed), back))
    refine ⟨_, rfl, _, rfl, a, fd, rfl, e _ _ hL, l5, fun p1 H1 s1 n1 f1 => ?_⟩
    refine ⟨_, rfl, p1, q, whole fd, (rds B fd c i).1, rfl, f1, hq.mono s1, by rw [whole_len]; exact l5, fun x hx => (zf x hx).mono (by decide), fun x hx => (z1 x hx).mono (by decide), fun p2 H2 s2 n2 f2 => ?_⟩
    have s12 := (e.trans s1).trans s2
    refine ⟨b, p2, B, _, rfl, hB.mono s12, f2, by rw [lt]; exact wf, fun x hx => ?_, fun p3 H3 s3 n3 f3 => ?_⟩
    · obtain ⟨j, h1, h2, rfl⟩ := mem_tog hx
      have t1 := Sz.getD (b := 7) (xs := whole fd) (fun x hx => by
        obtain ⟨n, hn, rfl⟩ := mem_whole hx
        exact Sz.nat (b := 7) (Nat.lt_of_le_of_lt (hf n hn) (by decide)) (by decide)) (by decide) j
      have t2 := Sz.getD (b := 780) z1 (by decide) j
      exact (Sz.add t1 t2).mono (by decide)
    have s123 := s12.trans s3
    have lg : (pass B (tog (whole fd) (rds B fd c i).1)).length = fd.length := by rw [pass_len, lt]
    -- product = plus(product, total(undersize(ground, cut)))
    refine ⟨_, rfl, _, rfl, _, rfl, p3, _, c, rfl, f3, by rw [lg]; exact l5, fun p4 H4 s4 n4 f4 => ?_⟩
    have su : Sums (under (pass B (tog (whole fd) (rds B fd c i).1)) c) := Sums.of (b := 780) (fun x hx => by
      rcases mem_under hx with e | e
      · rw [e]
        exact Sz.zero.mono (by decide)
      · exact z3 x e) (by rw [under_len, lg]; exact l5) (by decide)
    refine ⟨p4, _, rfl, f4, su, fun p5 H5 s5 f5 => ?_⟩
    have s35 := s4.trans s5
    refine ⟨r, p5, _, _, rfl, hr'.mono (((s1.trans s2).trans s3).trans s35), f5, z2.mono (by decide), su.all, fun p6 H6 s6 f6 => ?_⟩
    -- back = oversize(ground, cut)
    refine ⟨_, rfl, _, rfl, p3, _, c, rfl, f3.mono (s35.trans s6), by rw [lg]; exact l5, fun p7 H7 s7 n7 f7 => ?_⟩
    exact ⟨p7, p6, _, _, rfl, ((s123.trans s35).trans s6).trans s7, f7, f6.mono s7⟩
  · rintro σ H' ⟨q, r, v1, v2, rfl, e, hq, hr'⟩
    have su : Sums (rds B fd c m).1 := Sums.of (b := 780) (ok m hm).1 (by rw [rds_len]; exact l5) (by decide)
    refine ⟨_, rfl, q, _, rfl, hq, su, fun p5 H5 s5 f5 => ?_⟩
    refine ⟨_, rfl, (by show 2 ≤ sizeLine; decide), fun t ht => ?_⟩
    exact k t p5 r _ ((e.trans s5).trans (same_new ht)) upd_same (f5.mono (same_new ht)) (hr'.mono (s5.trans (same_new ht)))
theorem def_rounds_done {f : Addr} (h : Here K mg "rounds_done" s_rounds_done f) (T : Txt K mg C z aA aR tA tO tT) (D_plus : DefOk P w K mg base "plus" 3 (sp_plus K)) (D_total : DefOk P w K mg base "total" 4 (sp_total K)) (D_one_pass : DefOk P w K mg base "one_pass" 5 (sp_one_pass K)) (D_together : DefOk P w K mg base "together" 4 (sp_together K))
    (D_whole_amounts : DefOk P w K mg base "whole_amounts" 1 (sp_whole_amounts K)) (D_undersize : DefOk P w K mg base "undersize" 1 (sp_undersize K)) (D_oversize : DefOk P w K mg base "oversize" 1 (sp_oversize K)) : DefOk P w K mg base "rounds_done" 6 (sp_rounds_done K) :=
  mkDef h sc_rounds_done b_rounds_done (fun vs H Q E h => by obtain ⟨_, _, _, _, _, _, rfl, _⟩ := h; rfl) (body_rounds_done T D_plus D_total D_one_pass D_together D_whole_amounts D_undersize D_oversize)
end
end Gs
end P_GsB4
section P_GsB5
set_option Elab.async false
set_option linter.all false
set_option maxRecDepth 100000
set_option maxHeartbeats 4000000
/-! GsB5: the steady state. -/
namespace Gs
open PySem PySem.Spec PyProof.Rows L2
def sp_is_steady : Sp := fun vs H Q _ => ∃ (b : Addr) (B : List (List Nat)) (n c : Nat), vs = [.ref b, .int (c : Int)] ∧ Rows H b B ∧ WfB B n ∧ c ≤ n ∧ RetV (.bl (isSteady B c)) H Q
def sp_class_input (K : PySem.W.Frag) : Sp := fun vs H Q _ => ∃ (b a r : Addr) (B : List (List Nat)) (f : List Nat) (j : Nat) (cs : List Rat), vs = [.ref b, .ref a, .int (j : Int), .ref r] ∧ Rows H b B ∧ H a = some (.lst (natL f)) ∧ FrL K H r cs ∧ WfB B f.length ∧ (∀ n ∈ f, n ≤ 100) ∧
  (∀ x ∈ cs, Sz 700 x) ∧ j + cs.length < f.length ∧ cell B j j < 100 ∧ RetF K (cinp B f j cs) H Q
/-- what is asked where a steady state is told of -/
structure StAt (H : Hp) (b a : Addr) (B : List (List Nat)) (f : List Nat) (c : Nat) : Prop where
  hB : Rows H b B
  hL : H a = some (.lst (natL f))
  wf : WfB B f.length
  hf : ∀ n ∈ f, n ≤ 100
  c1 : 1 ≤ c
  c2 : c < f.length
  st : isSteady B c = true
theorem StAt.mono {H H' : Hp} {b a : Addr} {B : List (List Nat)} {f : List Nat} {c : Nat} (e : Same H H') (h : StAt H b a B f c) : StAt H' b a B f c := ⟨h.hB.mono e, e _ _ h.hL, h.wf, h.hf, h.c1, h.c2, h.st⟩
def sp_steady_input (K : PySem.W.Frag) : Sp := fun vs H Q _ => ∃ (b a : Addr) (B : List (List Nat)) (f : List Nat) (c : Nat), vs = [.ref b, .ref a, .int (c : Int)] ∧ StAt H b a B f c ∧ RetFs K (stIn B f c) H Q
def sp_steady_product (K : PySem.W.Frag) : Sp := fun vs H Q _ => ∃ (b a : Addr) (B : List (List Nat)) (f : List Nat) (c : Nat), vs = [.ref b, .ref a, .int (c : Int)] ∧ StAt H b a B f c ∧ RetFs K (under (pass B (stIn B f c)) c) H Q
def sp_steady_load (K : PySem.W.Frag) : Sp := fun vs H Q _ => ∃ (b a : Addr) (B : List (List Nat)) (f : List Nat) (c : Nat), vs = [.ref b, .ref a, .int (c : Int)] ∧ StAt H b a B f c ∧ RetF K (stIn B f c).sum H Q
def sp_coarsest (K : PySem.W.Frag) : Sp := fun vs H Q _ => ∃ (b a t : Addr) (B : List (List Nat)) (f : List Nat) (m d : Nat), vs = [.ref b, .ref a, .ref t] ∧ Rows H b B ∧ H a = some (.lst (natL f)) ∧ H t = some (.tup [.int (m : Int), .int (d : Int)]) ∧ WfB B f.length ∧ (∀ n ∈ f, n ≤ 100) ∧ m < 2 ^ 100 ∧ d < 2 ^ 100 ∧
  RetV (.int ((coarse B f m d : Nat) : Int)) H Q
theorem cut_to {f : List Nat} {c : Nat} : cutV (natL f) none (some (c : Int)) = natL (f.take c) := by
  unfold cutV
  rw [HT.sIx_none, HT.sIx_nat, List.drop_zero, Nat.sub_zero, natL_len]
  unfold natL
  rw [← List.map_take, ← List.map_take]
  congr 2
  by_cases h : c ≤ f.length
  · rw [Nat.min_eq_left h]
  · rw [Nat.min_eq_right (by omega), List.take_length, List.take_of_length_le (by omega)]

section
variable {P : Program} {w : World} {K : PySem.W.Frag} {mg : Str → Option Value} {base : Heap} {C z aA aR tA tO tT : Addr}

abbrev s_is_steady : Stmt := topS 38
theorem sc_is_steady : FnScope ["breakage", "cut", "size_class"] ["breakage", "cut"] (defScope s_is_steady) := ⟨rfl, rfl, rfl, by decide +kernel, rfl, by decide +kernel, by decide +kernel⟩
theorem b_is_steady : Bnd "is_steady" "is_steady" s_is_steady ["breakage", "cut"] := fun _ _ _ _ _ _ us hl => match us, hl with | [_, _], _ => rfl
theorem body_is_steady (T : Txt K mg C z aA aR tA tO tT) : Body P w K mg base "is_steady" s_is_steady ["breakage", "cut", "size_class"] 0 sp_is_steady := by
  intro f cdv A outer s H vs Q E hr h
  obtain ⟨b, B, n, c, rfl, hB, wf, hc, k⟩ := h
  refine ⟨_, (pss_one (ps_ret (pe_callB (cr_all rfl) (by rfl) T.n_all (by decide +kernel) (pa_cons (pe_lc (own := [("size_class", 2)]) (g := (gName 2)) (tt := tYes) rfl sc_is_steady.nd (pi_range2 rfl T.n_range (pa_cons (pv 1) (pa_cons (pe_callB call_len_seq (by rfl) T.n_len PySem.boot_len (pa_cons (pv 0) pa_nil)) pa_nil))) (blkOk_by (own := [("size_class", 2)]) (N := ["breakage", "cut", "size_class"]) (sc := defScope (topS 38)) (by decide +kernel)) (fun _ _ _ _ _ => (pg_name (i := 2) sc_is_steady.nd rfl (Or.inl rfl))) (fun _ _ _ _ _ => pts_nil) (fun _ _ _ _ _ => (pe_cmpR op_lt (pe_ix (r := rIxL K) ix_list (pe_ix (r := rIxL K) ix_list (pv 0) (pv 2) (fun _ _ => rfl)) (pv 2) (fun _ _ => rfl)) (pe_gint T.c_MOST_PERCENT (by rfl)) (nomark _)))) pa_nil)))), ?_⟩
  obtain ⟨bs, hb, hR⟩ := id hB
  have lb : (bs.map V.ref).length = n := by rw [List.length_map, hR.len, wf.len]
  have h5 := wf.hi
  refine ⟨_, rfl, _, rfl, b, _, rfl, .inl (SqL.of hb), (c : Int), (n : Int), by rw [lb], by omega, fun D hD => ?_⟩
  have e0 : ((n : Int) - (c : Int)).toNat = n - c := by omega
  rw [e0]
  refine lc_vals walk_range (fun i => V.bl (decide (cell B (c + i) (c + i) < 100))) (by omega) hD (fun _ _ => trivial) ?_ (fun H' e q => ?_)
  · rintro i v H1 H2 hi e ⟨rfl, rfl⟩ R hR
    have hi' : c + i < n := by omega
    obtain ⟨ub, r, g1, g2, g3⟩ := hB.get (i := c + i) (by rw [wf.len]; exact hi')
    have c0 := natL_at (wf.cell_at hi' (Nat.le_refl _))
    refine ⟨rfl, _, rfl, _, rfl, b, ub, _, _, rfl, rfl, SqL.of (e _ _ g1), at_of (j := c + i) rfl g2, _, rfl, r, _, _, _, rfl, rfl, SqL.of (e _ _ g3), at_of (j := c + i) rfl c0, _, _, rfl, rfl, ?_⟩
    have e3 : decide (((cell B (c + i) (c + i) : Nat) : Int) < 100) = decide (cell B (c + i) (c + i) < 100) := decide_eq_decide.mpr (by omega)
    show R (.bl (decide (((cell B (c + i) (c + i) : Nat) : Int) < 100))) H2
    rw [e3]
    exact hR H2 (Same.refl _)
  · refine ⟨D, (List.range (n - c)).map fun i => decide (cell B (c + i) (c + i) < 100), rfl, SqL.of ?_, ?_⟩
    · rw [q, List.map_map]
      rfl
    · have q := k H' e
      unfold isSteady at q
      rw [wf.len] at q
      exact q
theorem def_is_steady {f : Addr} (h : Here K mg "is_steady" s_is_steady f) (T : Txt K mg C z aA aR tA tO tT) : DefOk P w K mg base "is_steady" 1 sp_is_steady :=
  mkDef h sc_is_steady b_is_steady (fun vs H Q E h => by obtain ⟨_, _, _, _, rfl, _⟩ := h; rfl) (body_is_steady T)

abbrev s_class_input : Stmt := topS 39
theorem sc_class_input : FnScope ["breakage", "feed", "size_class", "coarser", "found", "step", "amount"] ["breakage", "feed", "size_class", "coarser"] (defScope s_class_input) := ⟨rfl, rfl, rfl, by decide +kernel, rfl, by decide +kernel, by decide +kernel⟩
theorem b_class_input : Bnd "class_input" "class_input" s_class_input ["breakage", "feed", "size_class", "coarser"] := fun _ _ _ _ _ _ us hl => match us, hl with | [_, _, _, _], _ => rfl
theorem body_class_input (T : Txt K mg C z aA aR tA tO tT) (D_plus : DefOk P w K mg base "plus" 3 (sp_plus K)) (D_times : DefOk P w K mg base "times" 3 (sp_times K)) : Body P w K mg base "class_input" s_class_input ["breakage", "feed", "size_class", "coarser", "found", "step", "amount"] 3 (sp_class_input K) := by
  intro f cdv A outer s H vs Q E hr h
  obtain ⟨b, a, r, B, fd, j, cs, rfl, hB, hL, hX, wf, hf, hz, hj, hd, k⟩ := h
  obtain ⟨ps, hM, hF⟩ := hX
  refine ⟨_, (pss_cons (ps_set (i := 4) sc_class_input.nd rfl (Or.inl rfl) (pe_tup (pa_cons (pe_ix (r := rIxL K) ix_list (pv 1) (pv 2) (fun _ _ => rfl)) (pa_cons pe_int pa_nil))))
        (pss_cons (ps_for PassesOwn.never rfl (pi_enum (by rfl) T.n_enumerate (pa_cons (pv 3) pa_nil)) (pg_tup rfl (pgs_cons (pg_name (i := 5) sc_class_input.nd rfl (Or.inl rfl)) (pgs_cons (pg_name (i := 6) sc_class_input.nd rfl (Or.inl rfl)) pgs_nil))) (pss_one (ps_set (i := 4) sc_class_input.nd rfl (Or.inl rfl) (pe_callD D_plus (hr.mono (by decide)) (by rfl) (pa_cons (pv 4) (pa_cons (pe_callD D_times (hr.mono (by decide)) (by rfl) (pa_cons (pv 6) (pa_cons (pe_ix (r := rIxL K) ix_list (pe_ix (r := rIxL K) ix_list (pv 0) (pe_op op_add (pe_op op_add (pv 2) pe_int) (pv 5)) (fun _ _ => rfl)) (pv 2) (fun _ _ => rfl)) (pa_cons (pe_gint T.c_MOST_PERCENT (by rfl)) pa_nil)))) pa_nil))))))
        (pss_one (ps_ret (pe_callD D_times (hr.mono (by decide)) (by rfl) (pa_cons (pv 4) (pa_cons (pe_gint T.c_MOST_PERCENT (by rfl)) (pa_cons (pe_op op_sub (pe_gint T.c_MOST_PERCENT (by rfl)) (pe_ix (r := rIxL K) ix_list (pe_ix (r := rIxL K) ix_list (pv 0) (pv 2) (fun _ _ => rfl)) (pv 2) (fun _ _ => rfl))) pa_nil)))))))), ?_⟩
  have f0 : (natL fd)[j]? = some (.int ((fd.getD j 0 : Nat) : Int)) := natL_at (by rw [getD_in (by omega), List.getElem?_eq_getElem (by omega)])
  refine ⟨_, rfl, _, rfl, a, _, _, _, rfl, rfl, SqL.of hL, atI_nat f0, (by show 2 ≤ sizeLine; decide), fun p hp => ?_⟩
  have s0 := same_new (o := .tup [.int ((fd.getD j 0 : Nat) : Int), .int 1]) hp
  have el : (ps.map V.ref).length = cs.length := by rw [List.length_map, hF.len]
  refine ⟨_, rfl, r, _, rfl, SqL.of (s0 _ _ hM), ?_⟩
  refine for_it (walk_enum (K := K) (a := r) (xs := ps.map V.ref)) (fun i σ H' => ∃ (q : Addr) (v1 v2 : Option V), σ = [some (.ref b), some (.ref a), some (.int (j : Int)), some (.ref r), some (.ref q), v1, v2] ∧ Same H H' ∧ Fr K H' q (ciPart B fd j cs i))
    ⟨p, none, none, rfl, s0, fr_nat upd_same⟩ (fun i σ H' _ ⟨_, _, _, _, e, _⟩ => e.seq (SqL.of hM)) ?_ ?_
  · rintro i v σ H1 H2 hi ⟨q, v1, v2, rfl, e, hq⟩ ⟨t, x, y, rfl, ht, rfl, hx, hy⟩
    cases hx
    obtain ⟨u, am, rfl, hu, ham, hua⟩ := hF.at hy
    rw [el] at hi
    have s1 := same_new (o := .tup [.int ((i : Nat) : Int), .ref u]) ht
    have e1 := e.trans s1
    have hi' : j + 1 + i < fd.length := by omega
    obtain ⟨ub, ro, g1, g2, g3⟩ := hB.get (i := j + 1 + i) (by rw [wf.len]; exact hi')
    have c0 := natL_at (wf.cell_at hi' (j := j) (by omega))
    refine ⟨t, _, rfl, SqT.of upd_same, rfl, _, _, rfl, _, _, rfl, rfl, ?_⟩
    refine ⟨_, rfl, _, rfl, _, rfl, _, rfl, _, _, rfl, rfl, _, rfl, _, _, rfl, rfl, b, ub, _, _, rfl, rfl, SqL.of (e1 _ _ g1), at_of (j := j + 1 + i) rfl g2, _, rfl, ro, _, _, _, rfl, rfl, SqL.of (e1 _ _ g3), atI_nat c0, ?_⟩
    refine ⟨u, am, cell B (j + 1 + i) j, 100, rfl, hua.mono e1, (hz am (List.mem_of_getElem? ham)).mono (by decide), Nat.lt_of_le_of_lt (wf.cell_le hi' j) (by decide), by decide, by decide, fun p2 H2 e2 f2 => ?_⟩
    rw [← getD_of ham] at f2
    refine ⟨q, p2, _, _, rfl, hq.mono (s1.trans e2), f2, (ciPart_sz wf hf hz (by decide) j i (by omega)).mono ?_, (ciTerm_sz wf hz (by decide) hi' j i).mono (by decide), fun p3 H3 e3 f3 => ?_⟩
    · have h5 : i ≤ 4 := by have := wf.hi; omega
      have := Nat.mul_le_mul_right (700 + 8) h5
      omega
    · exact ⟨p3, _, _, rfl, (e1.trans e2).trans e3, f3⟩
  · rintro σ H' ⟨q, v1, v2, rfl, e, hq⟩
    rw [el] at hq
    have hj' : j < fd.length := by omega
    obtain ⟨ub, ro, g1, g2, g3⟩ := hB.get (i := j) (by rw [wf.len]; exact hj')
    have c0 := natL_at (wf.cell_at hj' (Nat.le_refl _))
    refine ⟨_, rfl, _, rfl, _, rfl, b, ub, _, _, rfl, rfl, SqL.of (e _ _ g1), atI_nat g2, _, rfl, ro, _, _, _, rfl, rfl, SqL.of (e _ _ g3), atI_nat c0, _, _, rfl, rfl, ?_⟩
    refine ⟨q, _, 100, 100 - cell B j j, ?_, hq, (ciPart_sz wf hf hz (by decide) j cs.length (by omega)).mono ?_, by decide, by omega, Nat.lt_of_le_of_lt (Nat.sub_le _ _) (by decide), fun p2 H2 e2 f2 => ?_⟩
    · show [V.ref q, V.int 100, V.int (100 - ((cell B j j : Nat) : Int))] = [V.ref q, V.int ((100 : Nat) : Int), V.int ((100 - cell B j j : Nat) : Int)]
      rw [Int.ofNat_sub (Nat.le_of_lt hd)]
      rfl
    · have h5 : cs.length ≤ 4 := by have := wf.hi; omega
      have := Nat.mul_le_mul_right (700 + 8) h5
      omega
    · exact k p2 H2 (e.trans e2) f2
theorem def_class_input {f : Addr} (h : Here K mg "class_input" s_class_input f) (T : Txt K mg C z aA aR tA tO tT) (D_plus : DefOk P w K mg base "plus" 3 (sp_plus K)) (D_times : DefOk P w K mg base "times" 3 (sp_times K)) : DefOk P w K mg base "class_input" 4 (sp_class_input K) :=
  mkDef h sc_class_input b_class_input (fun vs H Q E h => by obtain ⟨_, _, _, _, _, _, _, rfl, _⟩ := h; rfl) (body_class_input T D_plus D_times)

abbrev s_steady_input : Stmt := topS 40
theorem sc_steady_input : FnScope ["breakage", "feed", "cut", "found", "size_class", "one"] ["breakage", "feed", "cut"] (defScope s_steady_input) := ⟨rfl, rfl, rfl, by decide +kernel, rfl, by decide +kernel, by decide +kernel⟩
theorem b_steady_input : Bnd "steady_input" "steady_input" s_steady_input ["breakage", "feed", "cut"] := fun _ _ _ _ _ _ us hl => match us, hl with | [_, _, _], _ => rfl
theorem body_steady_input (T : Txt K mg C z aA aR tA tO tT) (D_class_input : DefOk P w K mg base "class_input" 4 (sp_class_input K)) : Body P w K mg base "steady_input" s_steady_input ["breakage", "feed", "cut", "found", "size_class", "one"] 4 (sp_steady_input K) := by
  intro f cdv A outer s H vs Q E hr h
  obtain ⟨b, a, B, fd, c, rfl, S, k⟩ := h
  obtain ⟨hB, hL, wf, hf, c1, c2, st⟩ := id S
  refine ⟨_, (pss_cons (ps_set (i := 3) sc_steady_input.nd rfl (Or.inl rfl) (pe_lst pa_nil))
        (pss_cons (ps_for PassesOwn.never rfl (pi_range3 rfl T.n_range (pa_cons (pe_op op_sub (pe_callB call_len_seq (by rfl) T.n_len PySem.boot_len (pa_cons (pv 1) pa_nil)) pe_int) (pa_cons (pe_op op_sub (pv 2) pe_int) (pa_cons (pe_un un_neg pe_int) pa_nil)))) (pg_name (i := 4) sc_steady_input.nd rfl (Or.inl rfl)) (pss_one (ps_set (i := 3) sc_steady_input.nd rfl (Or.inl rfl) (pe_op op_cat (pe_lst (pa_cons (pe_callD D_class_input (hr.mono (by decide)) (by rfl) (pa_cons (pv 0) (pa_cons (pv 1) (pa_cons (pv 4) (pa_cons (pv 3) pa_nil))))) pa_nil)) (pv 3)))))
        (pss_one (ps_ret (pe_op op_cat (pe_lc (own := [("one", 5)]) (g := (gName 5)) (tt := tYes) rfl sc_steady_input.nd (pi_list (pe_slice sl_list (pv 1) po_none (po_some (pv 2)))) (blkOk_by (own := [("one", 5)]) (N := ["breakage", "feed", "cut", "found", "size_class", "one"]) (sc := defScope (topS 40)) (by decide +kernel)) (fun _ _ _ _ _ => (pg_name (i := 5) sc_steady_input.nd rfl (Or.inl rfl))) (fun _ _ _ _ _ => pts_nil) (fun _ _ _ _ _ => (pe_tup (pa_cons (pv 5) (pa_cons pe_int pa_nil))))) (pv 3)))))), ?_⟩
  have l8 : (natL fd).length = fd.length := natL_len fd
  have l5 := wf.hi
  refine ⟨Nat.zero_le _, fun D hD => ?_⟩
  have hLD := (same_new (o := .lst []) hD) _ _ hL
  refine ⟨_, rfl, a, _, rfl, .inl (SqL.of hLD), _, _, rfl, rfl, _, rfl, _, _, rfl, rfl, _, rfl, (((natL fd).length : Nat) : Int) - 1, (c : Int) - 1, -1, ((((natL fd).length : Nat) : Int) - 1 - ((c : Int) - 1)).toNat, rfl, RgC.neg (by omega) (by omega) (by omega) (by omega), ?_⟩
  have e0 : ((((natL fd).length : Nat) : Int) - 1 - ((c : Int) - 1)).toNat = fd.length - c := by omega
  rw [e0]
  refine for_rangeC (fun i σ H' => ∃ (q : Addr) (v1 v2 : Option V), σ = [some (.ref b), some (.ref a), some (.int (c : Int)), some (.ref q), v1, v2] ∧ Same H H' ∧ FrL K H' q (stPart B fd i)) ⟨D, none, none, rfl, same_new hD, [], upd_same, trivial⟩ ?_ ?_
  · rintro i σ H' hi ⟨q, v1, v2, rfl, e, hq⟩
    have ei : (((natL fd).length : Nat) : Int) - 1 + (i : Int) * -1 = ((fd.length - 1 - i : Nat) : Int) := by omega
    rw [ei]
    obtain ⟨ps, hM, hF⟩ := id hq
    refine ⟨_, rfl, _, rfl, _, rfl, _, rfl, b, a, q, B, fd, fd.length - 1 - i, stPart B fd i, rfl, hB.mono e, e _ _ hL, hq, wf, hf, fun x hx => (stPart_sz' wf hf st (by omega) c1 x hx).mono (by decide), by rw [stPart_len]; omega, steady_at st (by omega) (by rw [wf.len]; omega), fun p H2 e2 f2 => ?_⟩
    refine ⟨(by show 1 ≤ sizeLine; decide), fun l hl => ?_⟩
    have s2 := same_new (o := .lst [.ref p]) hl
    refine ⟨_, rfl, l, q, _, _, rfl, rfl, upd_same, s2 _ _ (e2 _ _ hM), ?_, fun p4 hp4 => ?_⟩
    · rw [List.length_map, hF.len, stPart_len]
      exact Nat.le_trans (by show 1 + i ≤ 6; omega : _ ≤ 6) (by decide)
    have s3 := s2.trans (same_new (o := .lst ([V.ref p] ++ ps.map V.ref)) hp4)
    exact ⟨p4, _, _, rfl, (e.trans e2).trans s3, p :: ps, upd_same, f2.mono s3, hF.mono (e2.trans s3)⟩
  · rintro σ H' ⟨q, v1, v2, rfl, e, hq⟩
    obtain ⟨ps, hM, hF⟩ := id hq
    refine ⟨_, rfl, _, rfl, _, rfl, a, _, rfl, SqL.of (e _ _ hL), fun l hl => ?_⟩
    rw [cut_to]
    have s2 := same_new (o := .lst (natL (fd.take c))) hl
    have lt : (fd.take c).length = c := by rw [List.length_take]; omega
    refine ⟨l, rfl, ⟨_, SqL.of upd_same⟩, fun D2 hD2 => ?_⟩
    refine lc_frs (K := K) (walk_list (K := K) (a := l) (xs := natL (fd.take c))) (fun i => (((fd.take c).getD i 0 : Nat) : Rat)) (by rw [natL_len, lt]; omega) hD2 (fun H' e => e.seq (SqL.of upd_same)) ?_ (fun H3 e3 h3 => ?_)
    · rintro i v H1 H2 hi e ⟨rfl, hv⟩ R hR
      obtain ⟨rfl, _⟩ := natL_get hv
      exact ⟨rfl, _, rfl, (by show 2 ≤ sizeLine; decide), fun p hp => hR p _ (same_new hp) (fr_nat upd_same)⟩
    · rw [natL_len, ← whole_range] at h3
      obtain ⟨qs, hM3, hF3⟩ := h3
      have s23 := s2.trans e3
      refine ⟨_, rfl, D2, q, _, _, rfl, rfl, hM3, s23 _ _ hM, ?_, fun p4 hp4 => ?_⟩
      · rw [List.length_map, List.length_map, hF.len, hF3.len, whole_len, lt, stPart_len]
        exact Nat.le_trans (by omega : c + (fd.length - c) ≤ 6) (by decide)
      have s4 := same_new (o := .lst (qs.map V.ref ++ ps.map V.ref)) hp4
      have n4 : H p4 = none := (e.trans s23).free hp4
      refine k p4 _ ((e.trans s23).trans s4) n4 ⟨qs ++ ps, by rw [upd_same, List.map_append], FrAll.append (hF3.mono s4) (hF.mono (s23.trans s4))⟩
theorem def_steady_input {f : Addr} (h : Here K mg "steady_input" s_steady_input f) (T : Txt K mg C z aA aR tA tO tT) (D_class_input : DefOk P w K mg base "class_input" 4 (sp_class_input K)) : DefOk P w K mg base "steady_input" 5 (sp_steady_input K) :=
  mkDef h sc_steady_input b_steady_input (fun vs H Q E h => by obtain ⟨_, _, _, _, _, rfl, _⟩ := h; rfl) (body_steady_input T D_class_input)

abbrev s_steady_product : Stmt := topS 41
theorem sc_steady_product : FnScope ["breakage", "feed", "cut"] ["breakage", "feed", "cut"] (defScope s_steady_product) := ⟨rfl, rfl, rfl, by decide +kernel, rfl, by decide +kernel, by decide +kernel⟩
theorem b_steady_product : Bnd "steady_product" "steady_product" s_steady_product ["breakage", "feed", "cut"] := fun _ _ _ _ _ _ us hl => match us, hl with | [_, _, _], _ => rfl
theorem body_steady_product (D_steady_input : DefOk P w K mg base "steady_input" 5 (sp_steady_input K)) (D_one_pass : DefOk P w K mg base "one_pass" 5 (sp_one_pass K)) (D_undersize : DefOk P w K mg base "undersize" 1 (sp_undersize K)) : Body P w K mg base "steady_product" s_steady_product ["breakage", "feed", "cut"] 5 (sp_steady_product K) := by
  intro f cdv A outer s H vs Q E hr h
  obtain ⟨b, a, B, fd, c, rfl, S, k⟩ := h
  have ln : (stIn B fd c).length = fd.length := stIn_len (Nat.le_of_lt S.c2)
  refine ⟨_, (pss_one (ps_ret (pe_callD D_undersize (hr.mono (by decide)) (by rfl) (pa_cons (pe_callD D_one_pass (hr.mono (by decide)) (by rfl) (pa_cons (pv 0) (pa_cons (pe_callD D_steady_input (hr.mono (by decide)) (by rfl) (pa_cons (pv 0) (pa_cons (pv 1) (pa_cons (pv 2) pa_nil)))) pa_nil))) (pa_cons (pv 2) pa_nil))))), ?_⟩
  refine ⟨_, rfl, _, rfl, _, rfl, _, rfl, b, a, B, fd, c, rfl, S, fun p1 H1 e1 n1 f1 => ?_⟩
  refine ⟨b, p1, B, _, rfl, S.hB.mono e1, f1, by rw [ln]; exact S.wf, fun x hx => (stIn_sz S.wf S.hf S.st S.c1 x hx).mono (by decide), fun p2 H2 e2 n2 f2 => ?_⟩
  refine ⟨_, rfl, p2, _, c, rfl, f2, by rw [pass_len, ln]; exact S.wf.hi, fun p3 H3 e3 n3 f3 => ?_⟩
  exact k p3 H3 ((e1.trans e2).trans e3) ((e1.trans e2).free n3) f3
theorem def_steady_product {f : Addr} (h : Here K mg "steady_product" s_steady_product f) (D_steady_input : DefOk P w K mg base "steady_input" 5 (sp_steady_input K)) (D_one_pass : DefOk P w K mg base "one_pass" 5 (sp_one_pass K)) (D_undersize : DefOk P w K mg base "undersize" 1 (sp_undersize K)) : DefOk P w K mg base "steady_product" 6 (sp_steady_product K) :=
  mkDef h sc_steady_product b_steady_product (fun vs H Q E h => by obtain ⟨_, _, _, _, _, rfl, _⟩ := h; rfl) (body_steady_product D_steady_input D_one_pass D_undersize)

theorem stIn_sums {B : List (List Nat)} {fd : List Nat} {c : Nat} {H : Hp} {b a : Addr} (S : StAt H b a B fd c) : Sums (stIn B fd c) :=
  Sums.of (stIn_sz S.wf S.hf S.st S.c1) (by rw [stIn_len (Nat.le_of_lt S.c2)]; exact S.wf.hi) (by decide)
abbrev s_steady_load : Stmt := topS 42
theorem sc_steady_load : FnScope ["breakage", "feed", "cut"] ["breakage", "feed", "cut"] (defScope s_steady_load) := ⟨rfl, rfl, rfl, by decide +kernel, rfl, by decide +kernel, by decide +kernel⟩
theorem b_steady_load : Bnd "steady_load" "steady_load" s_steady_load ["breakage", "feed", "cut"] := fun _ _ _ _ _ _ us hl => match us, hl with | [_, _, _], _ => rfl
theorem body_steady_load (D_steady_input : DefOk P w K mg base "steady_input" 5 (sp_steady_input K)) (D_total : DefOk P w K mg base "total" 4 (sp_total K)) : Body P w K mg base "steady_load" s_steady_load ["breakage", "feed", "cut"] 5 (sp_steady_load K) := by
  intro f cdv A outer s H vs Q E hr h
  obtain ⟨b, a, B, fd, c, rfl, S, k⟩ := h
  refine ⟨_, (pss_one (ps_ret (pe_callD D_total (hr.mono (by decide)) (by rfl) (pa_cons (pe_callD D_steady_input (hr.mono (by decide)) (by rfl) (pa_cons (pv 0) (pa_cons (pv 1) (pa_cons (pv 2) pa_nil)))) pa_nil)))), ?_⟩
  refine ⟨_, rfl, _, rfl, _, rfl, b, a, B, fd, c, rfl, S, fun p1 H1 e1 n1 f1 => ?_⟩
  exact ⟨p1, _, rfl, f1, stIn_sums S, fun p2 H2 e2 f2 => k p2 H2 (e1.trans e2) f2⟩
theorem def_steady_load {f : Addr} (h : Here K mg "steady_load" s_steady_load f) (D_steady_input : DefOk P w K mg base "steady_input" 5 (sp_steady_input K)) (D_total : DefOk P w K mg base "total" 4 (sp_total K)) : DefOk P w K mg base "steady_load" 6 (sp_steady_load K) :=
  mkDef h sc_steady_load b_steady_load (fun vs H Q E h => by obtain ⟨_, _, _, _, _, rfl, _⟩ := h; rfl) (body_steady_load D_steady_input D_total)

abbrev s_coarsest : Stmt := topS 43
theorem sc_coarsest : FnScope ["breakage", "feed", "most", "cut"] ["breakage", "feed", "most"] (defScope s_coarsest) := ⟨rfl, rfl, rfl, by decide +kernel, rfl, by decide +kernel, by decide +kernel⟩
theorem b_coarsest : Bnd "coarsest" "coarsest" s_coarsest ["breakage", "feed", "most"] := fun _ _ _ _ _ _ us hl => match us, hl with | [_, _, _], _ => rfl
theorem body_coarsest (T : Txt K mg C z aA aR tA tO tT) (D_is_steady : DefOk P w K mg base "is_steady" 1 sp_is_steady) (D_is_no_less : DefOk P w K mg base "is_no_less" 1 (sp_is_no_less K)) (D_steady_load : DefOk P w K mg base "steady_load" 6 (sp_steady_load K)) : Body P w K mg base "coarsest" s_coarsest ["breakage", "feed", "most", "cut"] 6 (sp_coarsest K) := by
  intro f cdv A outer s H vs Q E hr h
  obtain ⟨b, a, t, B, fd, m, d, rfl, hB, hL, hT, wf, hf, hm, hd, k⟩ := h
  refine ⟨_, (pss_cons (ps_for PassesOwn.never rfl (pi_range3 rfl T.n_range (pa_cons (pe_op op_sub (pe_callB call_len_seq (by rfl) T.n_len PySem.boot_len (pa_cons (pv 1) pa_nil)) pe_int) (pa_cons pe_int (pa_cons (pe_un un_neg pe_int) pa_nil)))) (pg_name (i := 3) sc_coarsest.nd rfl (Or.inl rfl)) (pss_one (ps_if (PW.pt (pw_and (pt_val (pe_callD D_is_steady (hr.mono (by decide)) (by rfl) (pa_cons (pv 0) (pa_cons (pv 3) pa_nil)))) (pw_and1 (pt_val (pe_callD D_is_no_less (hr.mono (by decide)) (by rfl) (pa_cons (pv 2) (pa_cons (pe_callD D_steady_load (hr.mono (by decide)) (by rfl) (pa_cons (pv 0) (pa_cons (pv 1) (pa_cons (pv 3) pa_nil)))) pa_nil))))))) (pss_one (ps_ret (pv 3))) pss_nil)))
        (pss_one (ps_ret pe_int))), ?_⟩
  have l8 : (natL fd).length = fd.length := natL_len fd
  have l5 := wf.hi
  have l2 := wf.lo
  refine ⟨_, rfl, a, _, rfl, .inl (SqL.of hL), _, _, rfl, rfl, _, rfl, (((natL fd).length : Nat) : Int) - 1, 0, -1, ((((natL fd).length : Nat) : Int) - 1 - 0).toNat, rfl, RgC.neg (by omega) (by omega) (by omega) (by omega), ?_⟩
  have e0 : ((((natL fd).length : Nat) : Int) - 1 - 0).toNat = fd.length - 1 := by omega
  rw [e0]
  refine for_rangeC (fun i σ H' => ∃ (v1 : Option V), σ = [some (.ref b), some (.ref a), some (.ref t), v1] ∧ Same H H' ∧ ∀ j, j < i → serves B fd m d (fd.length - 1 - j) = false) ⟨none, rfl, Same.refl H, fun j hj => absurd hj (Nat.not_lt_zero _)⟩ ?_ ?_
  · rintro i σ H' hi ⟨v1, rfl, e, hn⟩
    have ei : (((natL fd).length : Nat) : Int) - 1 + (i : Int) * -1 = ((fd.length - 1 - i : Nat) : Int) := by omega
    rw [ei]
    have next : ∀ H2, Same H' H2 → serves B fd m d (fd.length - 1 - i) = false → ∃ (v1 : Option V), [some (V.ref b), some (.ref a), some (.ref t), some (.int ((fd.length - 1 - i : Nat) : Int))] = [some (.ref b), some (.ref a), some (.ref t), v1] ∧ Same H H2 ∧ ∀ j, j < i + 1 → serves B fd m d (fd.length - 1 - j) = false := fun H2 e2 hs =>
      ⟨_, rfl, e.trans e2, fun j hj => by
        by_cases x : j = i
        · rw [x]
          exact hs
        · exact hn j (by omega)⟩
    refine ⟨_, rfl, _, rfl, b, B, fd.length, fd.length - 1 - i, rfl, hB.mono e, wf, by omega, fun H2 e2 => ?_⟩
    refine ⟨_, rfl, ite2 (fun st => ?_) (fun st => ?_)⟩
    · have S : StAt H2 b a B fd (fd.length - 1 - i) := ⟨hB.mono (e.trans e2), (e.trans e2) _ _ hL, wf, hf, by omega, by omega, st⟩
      refine ⟨_, rfl, _, rfl, _, rfl, _, rfl, b, a, B, fd, _, rfl, S, fun p3 H3 e3 f3 => ?_⟩
      have su := (stIn_sums S).all
      refine ⟨t, p3, m, d, _, _, rfl, SqT.of (((e.trans e2).trans e3) _ _ hT), f3, ⟨up hm (by decide), up hd (by decide), up su.2.1 (by decide), up su.2.2 (by decide)⟩, ?_⟩
      refine ⟨_, rfl, ite2 (fun le => ?_) (fun le => ?_)⟩
      · refine ⟨_, rfl, ?_⟩
        have fnd : (cuts fd.length).find? (serves B fd m d) = some (fd.length - 1 - i) := find_range hi hn (by unfold serves; rw [st, le]; rfl)
        have q := k H3 ((e.trans e2).trans e3)
        unfold coarse at q
        rw [fnd] at q
        exact q
      · refine next H3 (e2.trans e3) ?_
        unfold serves
        rw [Bool.eq_false_iff.mpr le, Bool.and_false]
    · refine iteF ?_
      refine next H2 e2 ?_
      unfold serves
      rw [Bool.eq_false_iff.mpr st, Bool.false_and]
  · rintro σ H' ⟨v1, rfl, e, hn⟩
    have q := k H' e
    unfold coarse at q
    rw [show (cuts fd.length).find? (serves B fd m d) = none from find_none hn] at q
    exact q
theorem def_coarsest {f : Addr} (h : Here K mg "coarsest" s_coarsest f) (T : Txt K mg C z aA aR tA tO tT) (D_is_steady : DefOk P w K mg base "is_steady" 1 sp_is_steady) (D_is_no_less : DefOk P w K mg base "is_no_less" 1 (sp_is_no_less K)) (D_steady_load : DefOk P w K mg base "steady_load" 6 (sp_steady_load K)) : DefOk P w K mg base "coarsest" 7 (sp_coarsest K) :=
  mkDef h sc_coarsest b_coarsest (fun vs H Q E h => by obtain ⟨_, _, _, _, _, _, _, rfl, _⟩ := h; rfl) (body_coarsest T D_is_steady D_is_no_less D_steady_load)
end
end Gs
end P_GsB5
section P_GsB6
set_option Elab.async false
set_option linter.all false
set_option maxRecDepth 100000
set_option maxHeartbeats 4000000
/-! GsB6: the circuit as an object. -/
namespace Gs
open PySem PySem.Spec PyProof.Rows L2
open Kp408 (Circuit)
def cF (b f a l r : Addr) (n : Int) : List (Str × V) := [("breakage", .ref b), ("feed", .ref f), ("amounts", .ref a), ("loaded", .ref l), ("removed", .ref r), ("pass_count", .int n)]
theorem lk_here {k : Str} {v : V} {r : List (Str × V)} : List.lookup k ((k, v) :: r) = some v := by
  have e : (k == k) = true := beq_self_eq_true k
  simp only [List.lookup, e]
theorem lk_past {k g : Str} {v : V} {r : List (Str × V)} (h : (k == g) = false) : List.lookup k ((g, v) :: r) = List.lookup k r := by
  simp only [List.lookup, h]
theorem put_here {f : Str} {v x : V} {r : List (Str × V)} : putF f v ((f, x) :: r) = (f, v) :: r := if_pos rfl
theorem put_past {f g : Str} {v x : V} {r : List (Str × V)} (h : ¬ g = f) : putF f v ((g, x) :: r) = (g, x) :: putF f v r := if_neg h
theorem cF_breakage (b f a l r : Addr) (n : Int) : (cF b f a l r n).lookup ("breakage" : Str) = some (.ref b) := lk_here
theorem cF_feed (b f a l r : Addr) (n : Int) : (cF b f a l r n).lookup ("feed" : Str) = some (.ref f) := (lk_past (by decide +kernel)).trans (lk_here)
theorem cF_amounts (b f a l r : Addr) (n : Int) : (cF b f a l r n).lookup ("amounts" : Str) = some (.ref a) := (lk_past (by decide +kernel)).trans ((lk_past (by decide +kernel)).trans (lk_here))
theorem cF_loaded (b f a l r : Addr) (n : Int) : (cF b f a l r n).lookup ("loaded" : Str) = some (.ref l) := (lk_past (by decide +kernel)).trans ((lk_past (by decide +kernel)).trans ((lk_past (by decide +kernel)).trans (lk_here)))
theorem cF_removed (b f a l r : Addr) (n : Int) : (cF b f a l r n).lookup ("removed" : Str) = some (.ref r) := (lk_past (by decide +kernel)).trans ((lk_past (by decide +kernel)).trans ((lk_past (by decide +kernel)).trans ((lk_past (by decide +kernel)).trans (lk_here))))
theorem cF_pass_count (b f a l r : Addr) (n : Int) : (cF b f a l r n).lookup ("pass_count" : Str) = some (.int n) := (lk_past (by decide +kernel)).trans ((lk_past (by decide +kernel)).trans ((lk_past (by decide +kernel)).trans ((lk_past (by decide +kernel)).trans ((lk_past (by decide +kernel)).trans (lk_here)))))
theorem cF_no_class_count (b f a l r : Addr) (n : Int) : (cF b f a l r n).lookup ("class_count" : Str) = none := (lk_past (by decide +kernel)).trans ((lk_past (by decide +kernel)).trans ((lk_past (by decide +kernel)).trans ((lk_past (by decide +kernel)).trans ((lk_past (by decide +kernel)).trans ((lk_past (by decide +kernel)).trans (rfl))))))
theorem cF_no_put_row (b f a l r : Addr) (n : Int) : (cF b f a l r n).lookup ("put_row" : Str) = none := (lk_past (by decide +kernel)).trans ((lk_past (by decide +kernel)).trans ((lk_past (by decide +kernel)).trans ((lk_past (by decide +kernel)).trans ((lk_past (by decide +kernel)).trans ((lk_past (by decide +kernel)).trans (rfl))))))
theorem cF_no_put_feed (b f a l r : Addr) (n : Int) : (cF b f a l r n).lookup ("put_feed" : Str) = none := (lk_past (by decide +kernel)).trans ((lk_past (by decide +kernel)).trans ((lk_past (by decide +kernel)).trans ((lk_past (by decide +kernel)).trans ((lk_past (by decide +kernel)).trans ((lk_past (by decide +kernel)).trans (rfl))))))
theorem cF_no_load (b f a l r : Addr) (n : Int) : (cF b f a l r n).lookup ("load" : Str) = none := (lk_past (by decide +kernel)).trans ((lk_past (by decide +kernel)).trans ((lk_past (by decide +kernel)).trans ((lk_past (by decide +kernel)).trans ((lk_past (by decide +kernel)).trans ((lk_past (by decide +kernel)).trans (rfl))))))
theorem cF_no_grind (b f a l r : Addr) (n : Int) : (cF b f a l r n).lookup ("grind" : Str) = none := (lk_past (by decide +kernel)).trans ((lk_past (by decide +kernel)).trans ((lk_past (by decide +kernel)).trans ((lk_past (by decide +kernel)).trans ((lk_past (by decide +kernel)).trans ((lk_past (by decide +kernel)).trans (rfl))))))
theorem cF_no_remove_finer (b f a l r : Addr) (n : Int) : (cF b f a l r n).lookup ("remove_finer" : Str) = none := (lk_past (by decide +kernel)).trans ((lk_past (by decide +kernel)).trans ((lk_past (by decide +kernel)).trans ((lk_past (by decide +kernel)).trans ((lk_past (by decide +kernel)).trans ((lk_past (by decide +kernel)).trans (rfl))))))
theorem cF_no_present (b f a l r : Addr) (n : Int) : (cF b f a l r n).lookup ("present" : Str) = none := (lk_past (by decide +kernel)).trans ((lk_past (by decide +kernel)).trans ((lk_past (by decide +kernel)).trans ((lk_past (by decide +kernel)).trans ((lk_past (by decide +kernel)).trans ((lk_past (by decide +kernel)).trans (rfl))))))
theorem cF_no_passes_needed (b f a l r : Addr) (n : Int) : (cF b f a l r n).lookup ("passes_needed" : Str) = none := (lk_past (by decide +kernel)).trans ((lk_past (by decide +kernel)).trans ((lk_past (by decide +kernel)).trans ((lk_past (by decide +kernel)).trans ((lk_past (by decide +kernel)).trans ((lk_past (by decide +kernel)).trans (rfl))))))
theorem cF_put_feed (b f a l r : Addr) (n : Int) (q : Addr) : putF "feed" (.ref q) (cF b f a l r n) = cF b q a l r n := (put_past (by decide +kernel)).trans (congrArg _ (put_here))
theorem cF_put_amounts (b f a l r : Addr) (n : Int) (q : Addr) : putF "amounts" (.ref q) (cF b f a l r n) = cF b f q l r n := (put_past (by decide +kernel)).trans (congrArg _ ((put_past (by decide +kernel)).trans (congrArg _ (put_here))))
theorem cF_put_loaded (b f a l r : Addr) (n : Int) (q : Addr) : putF "loaded" (.ref q) (cF b f a l r n) = cF b f a q r n := (put_past (by decide +kernel)).trans (congrArg _ ((put_past (by decide +kernel)).trans (congrArg _ ((put_past (by decide +kernel)).trans (congrArg _ (put_here))))))
theorem cF_put_removed (b f a l r : Addr) (n : Int) (q : Addr) : putF "removed" (.ref q) (cF b f a l r n) = cF b f a l q n := (put_past (by decide +kernel)).trans (congrArg _ ((put_past (by decide +kernel)).trans (congrArg _ ((put_past (by decide +kernel)).trans (congrArg _ ((put_past (by decide +kernel)).trans (congrArg _ (put_here))))))))
theorem cF_put_pass_count (b f a l r : Addr) (n : Int) (q : Int) : putF "pass_count" (.int q) (cF b f a l r n) = cF b f a l r q := (put_past (by decide +kernel)).trans (congrArg _ ((put_past (by decide +kernel)).trans (congrArg _ ((put_past (by decide +kernel)).trans (congrArg _ ((put_past (by decide +kernel)).trans (congrArg _ ((put_past (by decide +kernel)).trans (congrArg _ (put_here))))))))))
def cF0 (b f a l r : Addr) (n : Int) : Nat → List (Str × V)
  | 0 => []
  | 1 => [("breakage", .ref b)]
  | 2 => [("breakage", .ref b), ("feed", .ref f)]
  | 3 => [("breakage", .ref b), ("feed", .ref f), ("amounts", .ref a)]
  | 4 => [("breakage", .ref b), ("feed", .ref f), ("amounts", .ref a), ("loaded", .ref l)]
  | 5 => [("breakage", .ref b), ("feed", .ref f), ("amounts", .ref a), ("loaded", .ref l), ("removed", .ref r)]
  | _ => [("breakage", .ref b), ("feed", .ref f), ("amounts", .ref a), ("loaded", .ref l), ("removed", .ref r), ("pass_count", .int n)]
theorem cF_new_breakage (b f a l r : Addr) (n : Int) : putF "breakage" (.ref b) (cF0 b f a l r n 0) = cF0 b f a l r n 1 := rfl
theorem cF_new_feed (b f a l r : Addr) (n : Int) : putF "feed" (.ref f) (cF0 b f a l r n 1) = cF0 b f a l r n 2 := (put_past (by decide +kernel)).trans (congrArg _ (rfl))
theorem cF_new_amounts (b f a l r : Addr) (n : Int) : putF "amounts" (.ref a) (cF0 b f a l r n 2) = cF0 b f a l r n 3 := (put_past (by decide +kernel)).trans (congrArg _ ((put_past (by decide +kernel)).trans (congrArg _ (rfl))))
theorem cF_new_loaded (b f a l r : Addr) (n : Int) : putF "loaded" (.ref l) (cF0 b f a l r n 3) = cF0 b f a l r n 4 := (put_past (by decide +kernel)).trans (congrArg _ ((put_past (by decide +kernel)).trans (congrArg _ ((put_past (by decide +kernel)).trans (congrArg _ (rfl))))))
theorem cF_new_removed (b f a l r : Addr) (n : Int) : putF "removed" (.ref r) (cF0 b f a l r n 4) = cF0 b f a l r n 5 := (put_past (by decide +kernel)).trans (congrArg _ ((put_past (by decide +kernel)).trans (congrArg _ ((put_past (by decide +kernel)).trans (congrArg _ ((put_past (by decide +kernel)).trans (congrArg _ (rfl))))))))
theorem cF_new_pass_count (b f a l r : Addr) (n : Int) : putF "pass_count" (.int n) (cF0 b f a l r n 5) = cF0 b f a l r n 6 := (put_past (by decide +kernel)).trans (congrArg _ ((put_past (by decide +kernel)).trans (congrArg _ ((put_past (by decide +kernel)).trans (congrArg _ ((put_past (by decide +kernel)).trans (congrArg _ ((put_past (by decide +kernel)).trans (congrArg _ (rfl))))))))))

theorem cF_full (b f a l r : Addr) (n : Int) : cF0 b f a l r n 6 = cF b f a l r n := rfl

/-- the circuit s stands at c, its matrix at b; none of its lists is av -/
def CirAt (K : PySem.W.Frag) (C av : Addr) (H : Hp) (c b : Addr) (s : Circuit) : Prop := ∃ (dx f a l r : Addr) (bs : List Addr), H c = some (.ins C dx (cF b f a l r (s.passes : Nat))) ∧ H b = some (.lst (bs.map V.ref)) ∧ RowAll H bs s.breakage ∧
  H f = some (.lst (natL s.feed)) ∧ FrL K H a s.amounts ∧ Fr K H l s.loaded ∧ Fr K H r s.removed ∧ (c ≠ av ∧ b ≠ av ∧ f ≠ av ∧ a ≠ av ∧ ∀ q ∈ bs, q ≠ av) ∧ (f ≠ b ∧ a ≠ b ∧ ∀ q ∈ bs, q ≠ b)
theorem CirAt.mono {K : PySem.W.Frag} {C av : Addr} {H H' : Hp} {c b : Addr} {s : Circuit} (e : Same H H') (h : CirAt K C av H c b s) : CirAt K C av H' c b s := by
  obtain ⟨dx, f, a, l, r, bs, h1, h2, h3, h4, h5, h6, h7, h8, h9⟩ := h
  exact ⟨dx, f, a, l, r, bs, e _ _ h1, e _ _ h2, h3.mono e, e _ _ h4, h5.mono e, h6.mono e, h7.mono e, h8, h9⟩
/-- all but the circuit's own object and its matrix is as it was -/
def Keep (c b : Addr) (H H' : Hp) : Prop := ∀ x o, H x = some o → x ≠ c → x ≠ b → H' x = some o
theorem Keep.of {c b : Addr} {H H' : Hp} (e : Same H H') : Keep c b H H' := fun x o h _ _ => e x o h
theorem Keep.trans {c b : Addr} {H H1 H2 : Hp} (h1 : Keep c b H H1) (h2 : Keep c b H1 H2) : Keep c b H H2 := fun x o h n1 n2 => h2 x o (h1 x o h n1 n2) n1 n2
/-- what is at an address that is no list of theirs may change -/
theorem Fr.upd {K : PySem.W.Frag} {H : Hp} {D p : Addr} {o o' : HO} {x : Rat} (hD : H D = some o) (nt : ∀ xs, o ≠ .tup xs) (nf : ∀ ob u, o ≠ .frz ob u) (h : Fr K H p x) : Fr K (upd H D o') p x := by
  rcases h with (h | ⟨ob, h⟩) | h
  · exact .inl (.inl (by rw [upd_ne (ne_of h hD (fun e => nt _ e.symm))]; exact h))
  · exact .inl (.inr ⟨ob, by rw [upd_ne (ne_of h hD (fun e => nf _ _ e.symm))]; exact h⟩)
  · exact .inr h
theorem FrAll.updO {K : PySem.W.Frag} {H : Hp} {D : Addr} {o o' : HO} (hD : H D = some o) (nt : ∀ xs, o ≠ .tup xs) (nf : ∀ ob u, o ≠ .frz ob u) : ∀ {ps : List Addr} {xs : List Rat}, FrAll K H ps xs → FrAll K (L2.upd H D o') ps xs
  | [], [], _ => trivial
  | _ :: _, _ :: _, ⟨h, r⟩ => ⟨Fr.upd hD nt nf h, FrAll.updO hD nt nf r⟩
theorem FrL.updO {K : PySem.W.Frag} {H : Hp} {D a : Addr} {o o' : HO} {xs : List Rat} (hD : H D = some o) (nt : ∀ xs, o ≠ .tup xs) (nf : ∀ ob u, o ≠ .frz ob u) (na : a ≠ D) (h : FrL K H a xs) : FrL K (upd H D o') a xs := by
  obtain ⟨ps, h1, h2⟩ := h
  exact ⟨ps, by rw [upd_ne na]; exact h1, h2.updO hD nt nf⟩
/-- the circuit's own object is written anew -/
theorem CirAt.put {K : PySem.W.Frag} {C av : Addr} {H : Hp} {c b : Addr} {s' : Circuit} {dx f a l r f' a' l' r' : Addr} {bs : List Addr} {n : Int} (h1 : H c = some (.ins C dx (cF b f a l r n))) (h2 : H b = some (.lst (bs.map V.ref))) (h3 : RowAll H bs s'.breakage)
    (h4 : H f' = some (.lst (natL s'.feed))) (h5 : FrL K H a' s'.amounts) (h6 : Fr K H l' s'.loaded) (h7 : Fr K H r' s'.removed) (h8 : c ≠ av ∧ b ≠ av ∧ f' ≠ av ∧ a' ≠ av ∧ ∀ q ∈ bs, q ≠ av) (h9 : f' ≠ b ∧ a' ≠ b ∧ ∀ q ∈ bs, q ≠ b) :
    CirAt K C av (upd H c (.ins C dx (cF b f' a' l' r' (s'.passes : Nat)))) c b s' := by
  have nt : ∀ xs, HO.ins C dx (cF b f a l r n) ≠ .tup xs := by
    intro xs e
    cases e
  have nf : ∀ ob u, HO.ins C dx (cF b f a l r n) ≠ .frz ob u := by
    intro ob u e
    cases e
  have nl : ∀ {q : Addr} {xs : List V}, H q = some (.lst xs) → q ≠ c := fun hq => ne_of hq h1 (by intro e; cases e)
  obtain ⟨ps, k1, k2⟩ := id h5
  refine ⟨dx, f', a', l', r', bs, upd_same, by rw [upd_ne (nl h2)]; exact h2, ?_, by rw [upd_ne (nl h4)]; exact h4, h5.updO h1 nt nf (nl k1), Fr.upd h1 nt nf h6, Fr.upd h1 nt nf h7, h8, h9⟩
  have : ∀ {bs : List Addr} {B : List (List Nat)}, RowAll H bs B → RowAll (upd H c (.ins C dx (cF b f' a' l' r' (s'.passes : Nat)))) bs B := by
    intro bs
    induction bs with
    | nil =>
      intro B h
      cases B with
      | nil => trivial
      | cons _ _ => exact h.elim
    | cons q qs ih =>
      intro B h
      cases B with
      | nil => exact h.elim
      | cons r rs => exact ⟨by show upd H c _ q = _; rw [upd_ne (nl h.1)]; exact h.1, ih h.2⟩
  exact this h3
theorem keep_put {c b : Addr} {H : Hp} {o : HO} : Keep c b H (upd H c o) := fun x u h n1 _ => by
  rw [upd_ne n1]
  exact h
end Gs
end P_GsB6
section P_GsB7
set_option Elab.async false
set_option linter.all false
set_option maxRecDepth 100000
set_option maxHeartbeats 4000000
/-! GsB7: the circuit's methods. -/
namespace Gs
open PySem PySem.Spec PyProof.Rows L2
open Kp408 (Circuit)
/-! ### promises -/
def sp_M_class_count (K : PySem.W.Frag) (C : Addr) : Sp := fun vs H Q _ => ∃ (c b av : Addr) (s : Circuit), vs = [.ref c] ∧ CirAt K C av H c b s ∧ Q (.int ((s.feed.length : Nat) : Int)) H
def sp_M_put_row (K : PySem.W.Frag) (C : Addr) : Sp := fun vs H Q _ => ∃ (c b av p : Addr) (s : Circuit) (i : Nat) (r : List Nat), vs = [.ref c, .int (i : Int), .ref p] ∧ CirAt K C av H c b s ∧ (∃ o, H av = some o) ∧ SqL K H p (natL r) ∧ i < s.breakage.length ∧
  ∀ H', Keep c b H H' → CirAt K C av H' c b (mRow s i r) → Q .non H'
def sp_M_put_feed (K : PySem.W.Frag) (C : Addr) : Sp := fun vs H Q _ => ∃ (c b av p : Addr) (s : Circuit) (f : List Nat), vs = [.ref c, .ref p] ∧ CirAt K C av H c b s ∧ (∃ o, H av = some o) ∧ SqL K H p (natL f) ∧
  ∀ H', Keep c b H H' → CirAt K C av H' c b (mFeed s f) → Q (.int ((s.feed.sum : Nat) : Int)) H'
def sp_M_load (K : PySem.W.Frag) (C : Addr) : Sp := fun vs H Q _ => ∃ (c b av : Addr) (s : Circuit) (k : Nat), vs = [.ref c] ∧ CirAt K C av H c b s ∧ (∃ o, H av = some o) ∧ WfS s k ∧ k ≤ 60 ∧
  ∀ H', Keep c b H H' → CirAt K C av H' c b (mLoad s).2 → Q (.bl (mLoad s).1) H'
def sp_M_grind (K : PySem.W.Frag) (C : Addr) : Sp := fun vs H Q _ => ∃ (c b av : Addr) (s : Circuit) (k : Nat), vs = [.ref c] ∧ CirAt K C av H c b s ∧ (∃ o, H av = some o) ∧ WfS s k ∧ k ≤ 60 ∧
  ∀ H', Keep c b H H' → CirAt K C av H' c b (mGrind s).2 → Q (.bl (mGrind s).1) H'
def sp_M_remove_finer (K : PySem.W.Frag) (C : Addr) : Sp := fun vs H Q _ => ∃ (c b av : Addr) (s : Circuit) (k cut : Nat), vs = [.ref c, .int (cut : Int)] ∧ CirAt K C av H c b s ∧ (∃ o, H av = some o) ∧ WfS s k ∧ k ≤ 60 ∧
  ∀ p H', Keep c b H H' → CirAt K C av H' c b (mRemove s cut) → Fr K H' p (under s.amounts cut).sum → Q (.ref p) H'
def sp_M_present (K : PySem.W.Frag) (C : Addr) : Sp := fun vs H Q _ => ∃ (c b av : Addr) (s : Circuit) (k : Nat), vs = [.ref c] ∧ CirAt K C av H c b s ∧ WfS s k ∧ k ≤ 60 ∧ RetF K s.amounts.sum H Q
def sp_M_passes_needed (K : PySem.W.Frag) (C : Addr) : Sp := fun vs H Q _ => ∃ (c b av : Addr) (s : Circuit) (k m d : Nat), vs = [.ref c, .int (m : Int), .int (d : Int)] ∧ CirAt K C av H c b s ∧ WfS s k ∧ k ≤ 60 ∧ m ≤ 100 ∧ 1 ≤ d ∧ d ≤ 100 ∧ RetV (.int ((needed s m d : Nat) : Int)) H Q
def sp_M_init (K : PySem.W.Frag) (C : Addr) : Sp := fun vs H Q _ => ∃ (p dx av : Addr) (n : Nat), vs = [.ref p, .int (n : Int)] ∧ H p = some (.ins C dx []) ∧ 2 ≤ n ∧ n ≤ 5 ∧ (∃ o, H av = some o) ∧ p ≠ av ∧
  ∀ H' b, (∀ x o, H x = some o → x ≠ p → H' x = some o) → CirAt K C av H' p b (fresh n) → Q .non H'
theorem len6 {C dx b f a l r : Addr} {n : Int} : (cF b f a l r n).length < 1000 := by
  show 6 < 1000
  decide
theorem upd_lst {H : Hp} {D : Addr} {o : HO} {q : Addr} {xs : List V} (h : H q = some (.lst xs)) (hn : q ≠ D) : (upd H D o) q = some (.lst xs) := by
  rw [upd_ne hn]
  exact h
theorem RowAll.set {H H' : Hp} : ∀ {ps : List Addr} {rs : List (List Nat)} {p : Addr} {r : List Nat} {i : Nat}, RowAll H ps rs → (∀ q xs, q ∈ ps → H q = some (.lst xs) → H' q = some (.lst xs)) → H' p = some (.lst (natL r)) → RowAll H' (ps.set i p) (rs.set i r)
  | [], [], _, _, _, _, _, _ => trivial
  | q :: ps, x :: rs, p, r, 0, ⟨h, t⟩, hk, hp => by
    have imp : ∀ {ps : List Addr} {rs : List (List Nat)}, (∀ q xs, q ∈ ps → H q = some (.lst xs) → H' q = some (.lst xs)) → RowAll H ps rs → RowAll H' ps rs := by
      intro ps
      induction ps with
      | nil =>
        intro rs _ h
        cases rs with
        | nil => trivial
        | cons _ _ => exact h.elim
      | cons q qs ih =>
        intro rs hk h
        cases rs with
        | nil => exact h.elim
        | cons r rs => exact ⟨hk q _ List.mem_cons_self h.1, ih (fun q xs hq => hk q xs (List.mem_cons_of_mem _ hq)) h.2⟩
    exact ⟨hp, imp (fun q xs hq => hk q xs (List.mem_cons_of_mem _ hq)) t⟩
  | q :: ps, x :: rs, p, r, i + 1, ⟨h, t⟩, hk, hp => ⟨hk q _ List.mem_cons_self h, RowAll.set (i := i) t (fun q xs hq => hk q xs (List.mem_cons_of_mem _ hq)) hp⟩

section
variable {P : Program} {w : World} {K : PySem.W.Frag} {mg : Str → Option Value} {base : Heap} {C z aA aR tA tO tT : Addr}

abbrev s_Circuit_class_count : Stmt := inClass (topS 36) 1
theorem sc_Circuit_class_count : FnScope ["self"] ["self"] (defScope s_Circuit_class_count) := ⟨rfl, rfl, rfl, by decide +kernel, rfl, by decide +kernel, by decide +kernel⟩
theorem b_Circuit_class_count : Bnd "class_count" "Circuit.class_count" s_Circuit_class_count ["self"] := fun _ _ _ _ _ _ us hl => match us, hl with | [_], _ => rfl
theorem body_M_class_count (T : Txt K mg C z aA aR tA tO tT) : Body P w K mg base "Circuit.class_count" s_Circuit_class_count ["self"] 0 (sp_M_class_count K C) := by
  intro f cdv A outer s H vs Q E hr h
  obtain ⟨c, b, av, st, rfl, ⟨dx, fe, a, l, r, bs, h1, h2, h3, h4, h5, h6, h7, h8, h9⟩, k⟩ := h
  refine ⟨_, (pss_one (ps_ret (pe_callB call_len_seq (by rfl) T.n_len PySem.boot_len (pa_cons (pe_fld (pv 0) rfl) pa_nil)))), ?_⟩
  refine ⟨_, rfl, c, C, dx, _, _, rfl, h1, T.cl, T.a_feed, cF_feed _ _ _ _ _ _, fe, _, rfl, .inl (SqL.of h4), ?_⟩
  rw [natL_len]
  exact k
theorem def_M_class_count (h : HereM K C "class_count" "Circuit.class_count" s_Circuit_class_count) (T : Txt K mg C z aA aR tA tO tT) : MethOk P w K mg base C "class_count" 1 (sp_M_class_count K C) :=
  mkMeth h sc_Circuit_class_count b_Circuit_class_count (fun vs H Q E h => by obtain ⟨_, _, _, _, rfl, _⟩ := h; rfl) (body_M_class_count T)

abbrev s_Circuit_put_row : Stmt := inClass (topS 36) 2
theorem sc_Circuit_put_row : FnScope ["self", "size_class", "percentages"] ["self", "size_class", "percentages"] (defScope s_Circuit_put_row) := ⟨rfl, rfl, rfl, by decide +kernel, rfl, by decide +kernel, by decide +kernel⟩
theorem b_Circuit_put_row : Bnd "put_row" "Circuit.put_row" s_Circuit_put_row ["self", "size_class", "percentages"] := fun _ _ _ _ _ _ us hl => match us, hl with | [_, _, _], _ => rfl
theorem body_M_put_row (T : Txt K mg C z aA aR tA tO tT) : Body P w K mg base "Circuit.put_row" s_Circuit_put_row ["self", "size_class", "percentages"] 0 (sp_M_put_row K C) := by
  intro f cdv A outer s H vs Q E hr h
  obtain ⟨c, b, av, p, st, i, row, rfl, ⟨dx, fe, a, l, r, bs, h1, h2, h3, h4, h5, h6, h7, ⟨v1, v2, v3, v4, v5⟩, ⟨w1, w2, w3⟩⟩, ⟨oa, hav⟩, hp, hi, k⟩ := h
  refine ⟨_, (pss_one (ps_asg (pe_callTy call_list_of (by rfl) T.n_list (by decide +kernel) (pa_cons (pv 2) pa_nil)) (pg_sub (pe_fld (pv 0) rfl) (pv 1) set_list))), ?_⟩
  refine ⟨_, rfl, p, _, rfl, .inl hp, fun q hq => ?_⟩
  have s1 := same_new (o := .lst (natL row)) hq
  have hb1 := s1 _ _ h2
  refine ⟨_, rfl, c, C, dx, _, _, rfl, s1 _ _ h1, T.cl, T.a_breakage, cF_breakage _ _ _ _ _ _, _, rfl, b, _, _, i, rfl, rfl, hb1, ?_, ?_⟩
  · rw [List.length_map, h3.len]
    unfold ixN
    rw [if_pos (by omega), if_pos (by omega), Int.toNat_natCast]
  have nqb : q ≠ b := (ne_of_none h2 hq).symm
  have nqav : q ≠ av := (ne_of_none hav hq).symm
  have ncb : c ≠ b := ne_of h1 h2 (by intro e; cases e)
  have nt : ∀ xs, HO.lst (bs.map V.ref) ≠ .tup xs := by
    intro xs e
    cases e
  have nf : ∀ ob u, HO.lst (bs.map V.ref) ≠ .frz ob u := by
    intro ob u e
    cases e
  refine k _ (fun x o hx n1 n2 => ?_) ⟨dx, fe, a, l, r, bs.set i q, ?_, ?_, ?_, ?_, ?_, ?_, ?_, ⟨v1, v2, v3, v4, fun x hx => ?_⟩, ⟨w1, w2, fun x hx => ?_⟩⟩
  · rw [upd_ne n2]
    exact s1 _ _ hx
  · rw [upd_ne ncb]
    exact s1 _ _ h1
  · rw [upd_same, List.map_set]
  · refine RowAll.set (h3.mono s1) (fun x xs hx e => upd_lst e (w3 x hx)) (upd_lst upd_same nqb)
  · exact upd_lst (s1 _ _ h4) w1
  · exact (h5.mono s1).updO hb1 nt nf w2
  · exact Fr.upd hb1 nt nf (h6.mono s1)
  · exact Fr.upd hb1 nt nf (h7.mono s1)
  · rcases List.mem_or_eq_of_mem_set hx with e | e
    · exact v5 x e
    · rw [e]
      exact nqav
  · rcases List.mem_or_eq_of_mem_set hx with e | e
    · exact w3 x e
    · rw [e]
      exact nqb
theorem def_M_put_row (h : HereM K C "put_row" "Circuit.put_row" s_Circuit_put_row) (T : Txt K mg C z aA aR tA tO tT) : MethOk P w K mg base C "put_row" 1 (sp_M_put_row K C) :=
  mkMeth h sc_Circuit_put_row b_Circuit_put_row (fun vs H Q E h => by obtain ⟨_, _, _, _, _, _, _, rfl, _⟩ := h; rfl) (body_M_put_row T)

abbrev s_Circuit_put_feed : Stmt := inClass (topS 36) 3
theorem sc_Circuit_put_feed : FnScope ["self", "feed", "before"] ["self", "feed"] (defScope s_Circuit_put_feed) := ⟨rfl, rfl, rfl, by decide +kernel, rfl, by decide +kernel, by decide +kernel⟩
theorem b_Circuit_put_feed : Bnd "put_feed" "Circuit.put_feed" s_Circuit_put_feed ["self", "feed"] := fun _ _ _ _ _ _ us hl => match us, hl with | [_, _], _ => rfl
theorem body_M_put_feed (T : Txt K mg C z aA aR tA tO tT) : Body P w K mg base "Circuit.put_feed" s_Circuit_put_feed ["self", "feed", "before"] 0 (sp_M_put_feed K C) := by
  intro f cdv A outer s H vs Q E hr h
  obtain ⟨c, b, av, p, st, fd, rfl, ⟨dx, fe, a, l, r, bs, h1, h2, h3, h4, h5, h6, h7, ⟨v1, v2, v3, v4, v5⟩, ⟨w1, w2, w3⟩⟩, ⟨oa, hav⟩, hp, k⟩ := h
  refine ⟨_, (pss_cons (ps_set (i := 2) sc_Circuit_put_feed.nd rfl (Or.inl rfl) (pe_callB (cr_sum rfl) (by rfl) T.n_sum (by decide +kernel) (pa_cons (pe_fld (pv 0) rfl) pa_nil)))
        (pss_cons (ps_fld (pv 0) (pe_callTy call_list_of (by rfl) T.n_list (by decide +kernel) (pa_cons (pv 1) pa_nil)) rfl)
        (pss_one (ps_ret (pv 2))))), ?_⟩
  refine ⟨_, rfl, c, C, dx, _, _, rfl, h1, T.cl, T.a_feed, cF_feed _ _ _ _ _ _, fe, _, rfl, SqL.of h4, ?_⟩
  refine ⟨_, rfl, p, _, rfl, .inl hp, fun q hq => ?_⟩
  have s1 := same_new (o := .lst (natL fd)) hq
  refine ⟨_, rfl, c, C, dx, _, rfl, s1 _ _ h1, T.cl, T.a_feed, len6 (C := C) (dx := dx), ?_⟩
  rw [cF_put_feed]
  refine ⟨_, rfl, ?_⟩
  have nqb : q ≠ b := (ne_of_none h2 hq).symm
  have nqav : q ≠ av := (ne_of_none hav hq).symm
  have kk := k _ ((Keep.of s1).trans keep_put) (CirAt.put (s' := mFeed st fd) (s1 _ _ h1) (s1 _ _ h2) (h3.mono s1) upd_same (h5.mono s1) (h6.mono s1) (h7.mono s1) ⟨v1, v2, nqav, v4, v5⟩ ⟨nqb, w2, w3⟩)
  rw [← isum] at kk
  exact kk
theorem def_M_put_feed (h : HereM K C "put_feed" "Circuit.put_feed" s_Circuit_put_feed) (T : Txt K mg C z aA aR tA tO tT) : MethOk P w K mg base C "put_feed" 1 (sp_M_put_feed K C) :=
  mkMeth h sc_Circuit_put_feed b_Circuit_put_feed (fun vs H Q E h => by obtain ⟨_, _, _, _, _, _, rfl, _⟩ := h; rfl) (body_M_put_feed T)

abbrev s_Circuit_load : Stmt := inClass (topS 36) 4
theorem sc_Circuit_load : FnScope ["self", "found"] ["self"] (defScope s_Circuit_load) := ⟨rfl, rfl, rfl, by decide +kernel, rfl, by decide +kernel, by decide +kernel⟩
theorem b_Circuit_load : Bnd "load" "Circuit.load" s_Circuit_load ["self"] := fun _ _ _ _ _ _ us hl => match us, hl with | [_], _ => rfl
theorem body_M_load (T : Txt K mg C z aA aR tA tO tT) (D_plus : DefOk P w K mg base "plus" 3 (sp_plus K)) (D_together : DefOk P w K mg base "together" 4 (sp_together K)) (D_whole_amounts : DefOk P w K mg base "whole_amounts" 1 (sp_whole_amounts K)) (D_are_small : DefOk P w K mg base "are_small" 1 (sp_are_small K)) :
    Body P w K mg base "Circuit.load" s_Circuit_load ["self", "found"] 4 (sp_M_load K C) := by
  intro f cdv A outer s H vs Q E hr h
  obtain ⟨c, b, av, st, kk, rfl, hC, ⟨oa, hav⟩, wf, hk, k⟩ := h
  obtain ⟨dx, fe, a, l, r, bs, h1, h2, h3, h4, h5, h6, h7, ⟨v1, v2, v3, v4, v5⟩, ⟨w1, w2, w3⟩⟩ := id hC
  refine ⟨_, (pss_cons (ps_set (i := 1) sc_Circuit_load.nd rfl (Or.inl rfl) (pe_callD D_together (hr.mono (by decide)) (by rfl) (pa_cons (pe_fld (pv 0) rfl) (pa_cons (pe_callD D_whole_amounts (hr.mono (by decide)) (by rfl) (pa_cons (pe_fld (pv 0) rfl) pa_nil)) pa_nil))))
        (pss_cons (ps_if (pt_not (pt_val (pe_callD D_are_small (hr.mono (by decide)) (by rfl) (pa_cons (pv 1) pa_nil)))) (pss_one (ps_ret pe_bl)) pss_nil)
        (pss_cons (ps_fld (pv 0) (pv 1) rfl)
        (pss_cons (ps_fld (pv 0) (pe_callD D_plus (hr.mono (by decide)) (by rfl) (pa_cons (pe_fld (pv 0) rfl) (pa_cons (pe_tup (pa_cons (pe_callB (cr_sum rfl) (by rfl) T.n_sum (by decide +kernel) (pa_cons (pe_fld (pv 0) rfl) pa_nil)) (pa_cons pe_int pa_nil))) pa_nil))) rfl)
        (pss_one (ps_ret pe_bl)))))), ?_⟩
  have l5 := wf.l5
  refine ⟨_, rfl, c, C, dx, _, _, rfl, h1, T.cl, T.a_amounts, cF_amounts _ _ _ _ _ _, _, rfl, c, C, dx, _, _, rfl, h1, T.cl, T.a_feed, cF_feed _ _ _ _ _ _, fe, st.feed, rfl, h4, wf.wf.hi, fun p1 H1 e1 n1 f1 => ?_⟩
  refine ⟨a, p1, _, _, rfl, h5.mono e1, f1, l5, fun x hx => (wf.sz hk x hx).mono (by decide), fun x hx => ?_, fun p2 H2 e2 n2 f2 => ?_⟩
  · obtain ⟨n, hn, rfl⟩ := mem_whole hx
    exact (Sz.nat (b := 7) (Nat.lt_of_le_of_lt (wf.fl n hn) (by decide)) (by decide)).mono (by decide)
  have s2 := e1.trans e2
  have lt : (tog st.amounts (whole st.feed)).length = st.amounts.length := tog_len (by rw [whole_len, wf.al])
  refine ⟨_, rfl, p2, _, rfl, f2, by rw [lt]; exact l5, fun H3 e3 => ⟨_, rfl, ite2 (fun cc => ?_) (fun cc => ?_)⟩⟩
  · have sm : (tog st.amounts (whole st.feed)).all small = false := by simpa using cc
    have q := k H3 (Keep.of (s2.trans e3))
    unfold mLoad at q
    rw [sm] at q
    exact q (hC.mono (s2.trans e3))
  · have sm : (tog st.amounts (whole st.feed)).all small = true := by simpa using cc
    have s3 := s2.trans e3
    have np2 : H p2 = none := e1.free n2
    obtain ⟨ps, g1, g2⟩ := f2.mono e3
    refine ⟨_, rfl, _, rfl, c, C, dx, _, rfl, s3 _ _ h1, T.cl, T.a_amounts, len6 (C := C) (dx := dx), ?_⟩
    rw [cF_put_amounts]
    have hC1 : CirAt K C av (upd H3 c (.ins C dx (cF b fe p2 l r (st.passes : Nat)))) c b { st with amounts := tog st.amounts (whole st.feed) } :=
      CirAt.put (s' := { st with amounts := tog st.amounts (whole st.feed) }) (s3 _ _ h1) (s3 _ _ h2) (h3.mono s3) (s3 _ _ h4) (f2.mono e3) (h6.mono s3) (h7.mono s3) ⟨v1, v2, v3, (ne_of_none hav np2).symm, v5⟩ ⟨w1, (ne_of_none h2 np2).symm, w3⟩
    have kp1 : Keep c b H (upd H3 c (.ins C dx (cF b fe p2 l r (st.passes : Nat)))) := (Keep.of s3).trans keep_put
    generalize upd H3 c (.ins C dx (cF b fe p2 l r (st.passes : Nat))) = H4 at hC1 kp1 ⊢
    obtain ⟨dx, fe, a, l, r, bs, h1, h2, h3, h4, h5, h6, h7, ⟨v1, v2, v3, v4, v5⟩, ⟨w1, w2, w3⟩⟩ := hC1
    refine ⟨_, rfl, c, C, dx, _, _, rfl, h1, T.cl, T.a_loaded, cF_loaded _ _ _ _ _ _, _, rfl, c, C, dx, _, _, rfl, h1, T.cl, T.a_feed, cF_feed _ _ _ _ _ _, fe, _, rfl, SqL.of h4, (by show 2 ≤ sizeLine; decide), fun t ht => ?_⟩
    have s5 := same_new (o := .tup [.int ((st.feed.map fun (n : Nat) => (n : Int)).sum), .int 1]) ht
    refine ⟨l, t, st.loaded, ((st.feed.sum : Nat) : Rat), rfl, h6.mono s5, ?_, (wf.lo.sz (by omega)).mono (by decide), ?_, fun p5 H5 e5 f5 => ?_⟩
    · refine SqT.of ?_
      rw [upd_same, isum]
      rfl
    · have q1 := feed_sum wf.fl
      have q2 := wf.wf.hi
      exact (Sz.nat (b := 10) (Nat.lt_of_le_of_lt (by omega : st.feed.sum ≤ 500) (by decide)) (by decide)).mono (by decide)
    have s6 := s5.trans e5
    refine ⟨_, rfl, c, C, dx, _, rfl, s6 _ _ h1, T.cl, T.a_loaded, len6 (C := C) (dx := dx), ?_⟩
    rw [cF_put_loaded]
    have q := k (upd H5 c (.ins C dx (cF b fe a p5 r (st.passes : Nat)))) ((kp1.trans (Keep.of s6)).trans keep_put)
    unfold mLoad at q
    rw [sm] at q
    exact q (CirAt.put (s' := { st with amounts := tog st.amounts (whole st.feed), loaded := st.loaded + ((st.feed.sum : Nat) : Rat) }) (s6 _ _ h1) (s6 _ _ h2) (h3.mono s6) (s6 _ _ h4) (h5.mono s6) f5 (h7.mono s6) ⟨v1, v2, v3, v4, v5⟩ ⟨w1, w2, w3⟩)
theorem def_M_load (h : HereM K C "load" "Circuit.load" s_Circuit_load) (T : Txt K mg C z aA aR tA tO tT) (D_plus : DefOk P w K mg base "plus" 3 (sp_plus K)) (D_together : DefOk P w K mg base "together" 4 (sp_together K)) (D_whole_amounts : DefOk P w K mg base "whole_amounts" 1 (sp_whole_amounts K)) (D_are_small : DefOk P w K mg base "are_small" 1 (sp_are_small K)) : MethOk P w K mg base C "load" 5 (sp_M_load K C) :=
  mkMeth h sc_Circuit_load b_Circuit_load (fun vs H Q E h => by obtain ⟨_, _, _, _, _, rfl, _⟩ := h; rfl) (body_M_load T D_plus D_together D_whole_amounts D_are_small)

abbrev s_Circuit_grind : Stmt := inClass (topS 36) 5
theorem sc_Circuit_grind : FnScope ["self", "found"] ["self"] (defScope s_Circuit_grind) := ⟨rfl, rfl, rfl, by decide +kernel, rfl, by decide +kernel, by decide +kernel⟩
theorem b_Circuit_grind : Bnd "grind" "Circuit.grind" s_Circuit_grind ["self"] := fun _ _ _ _ _ _ us hl => match us, hl with | [_], _ => rfl
theorem body_M_grind (T : Txt K mg C z aA aR tA tO tT) (D_one_pass : DefOk P w K mg base "one_pass" 5 (sp_one_pass K)) (D_are_small : DefOk P w K mg base "are_small" 1 (sp_are_small K)) :
    Body P w K mg base "Circuit.grind" s_Circuit_grind ["self", "found"] 5 (sp_M_grind K C) := by
  intro f cdv A outer s H vs Q E hr h
  obtain ⟨c, b, av, st, kk, rfl, hC, ⟨oa, hav⟩, wf, hk, k⟩ := h
  obtain ⟨dx, fe, a, l, r, bs, h1, h2, h3, h4, h5, h6, h7, ⟨v1, v2, v3, v4, v5⟩, ⟨w1, w2, w3⟩⟩ := id hC
  refine ⟨_, (pss_cons (ps_set (i := 1) sc_Circuit_grind.nd rfl (Or.inl rfl) (pe_callD D_one_pass (hr.mono (by decide)) (by rfl) (pa_cons (pe_fld (pv 0) rfl) (pa_cons (pe_fld (pv 0) rfl) pa_nil))))
        (pss_cons (ps_if (pt_not (pt_val (pe_callD D_are_small (hr.mono (by decide)) (by rfl) (pa_cons (pv 1) pa_nil)))) (pss_one (ps_ret pe_bl)) pss_nil)
        (pss_cons (ps_fld (pv 0) (pv 1) rfl)
        (pss_cons (ps_fldaug (pv 0) pe_int in_add)
        (pss_one (ps_ret pe_bl)))))), ?_⟩
  have l5 := wf.l5
  refine ⟨_, rfl, c, C, dx, _, _, rfl, h1, T.cl, T.a_breakage, cF_breakage _ _ _ _ _ _, _, rfl, c, C, dx, _, _, rfl, h1, T.cl, T.a_amounts, cF_amounts _ _ _ _ _ _, b, a, st.breakage, st.amounts, rfl, ⟨bs, h2, h3⟩, h5, wf.wfa, fun x hx => (wf.sz hk x hx).mono (by decide), fun p2 H2 s2 n2 f2 => ?_⟩
  have lt : (pass st.breakage st.amounts).length = st.amounts.length := pass_len _ _
  refine ⟨_, rfl, p2, _, rfl, f2, by rw [lt]; exact l5, fun H3 e3 => ⟨_, rfl, ite2 (fun cc => ?_) (fun cc => ?_)⟩⟩
  · have sm : (pass st.breakage st.amounts).all small = false := by simpa using cc
    have q := k H3 (Keep.of (s2.trans e3))
    unfold mGrind at q
    rw [sm] at q
    exact q (hC.mono (s2.trans e3))
  · have sm : (pass st.breakage st.amounts).all small = true := by simpa using cc
    have s3 := s2.trans e3
    refine ⟨_, rfl, _, rfl, c, C, dx, _, rfl, s3 _ _ h1, T.cl, T.a_amounts, len6 (C := C) (dx := dx), ?_⟩
    rw [cF_put_amounts]
    refine ⟨_, rfl, c, C, dx, _, _, rfl, upd_same, T.cl, T.a_pass_count, cF_pass_count _ _ _ _ _ _, _, _, rfl, rfl, dx, _, upd_same, len6 (C := C) (dx := dx), ?_⟩
    rw [cF_put_pass_count, upd_upd]
    have q := k (upd H3 c (.ins C dx (cF b fe p2 l r ((st.passes + 1 : Nat) : Int)))) ((Keep.of s3).trans keep_put)
    unfold mGrind at q
    rw [sm] at q
    exact q (CirAt.put (s' := { st with amounts := pass st.breakage st.amounts, passes := st.passes + 1 }) (s3 _ _ h1) (s3 _ _ h2) (h3.mono s3) (s3 _ _ h4) (f2.mono e3) (h6.mono s3) (h7.mono s3) ⟨v1, v2, v3, (ne_of_none hav n2).symm, v5⟩ ⟨w1, (ne_of_none h2 n2).symm, w3⟩)
theorem def_M_grind (h : HereM K C "grind" "Circuit.grind" s_Circuit_grind) (T : Txt K mg C z aA aR tA tO tT) (D_one_pass : DefOk P w K mg base "one_pass" 5 (sp_one_pass K)) (D_are_small : DefOk P w K mg base "are_small" 1 (sp_are_small K)) : MethOk P w K mg base C "grind" 6 (sp_M_grind K C) :=
  mkMeth h sc_Circuit_grind b_Circuit_grind (fun vs H Q E h => by obtain ⟨_, _, _, _, _, rfl, _⟩ := h; rfl) (body_M_grind T D_one_pass D_are_small)

abbrev s_Circuit_remove_finer : Stmt := inClass (topS 36) 6
theorem sc_Circuit_remove_finer : FnScope ["self", "cut", "found"] ["self", "cut"] (defScope s_Circuit_remove_finer) := ⟨rfl, rfl, rfl, by decide +kernel, rfl, by decide +kernel, by decide +kernel⟩
theorem b_Circuit_remove_finer : Bnd "remove_finer" "Circuit.remove_finer" s_Circuit_remove_finer ["self", "cut"] := fun _ _ _ _ _ _ us hl => match us, hl with | [_, _], _ => rfl
theorem body_M_remove_finer (T : Txt K mg C z aA aR tA tO tT) (D_plus : DefOk P w K mg base "plus" 3 (sp_plus K)) (D_total : DefOk P w K mg base "total" 4 (sp_total K)) (D_undersize : DefOk P w K mg base "undersize" 1 (sp_undersize K)) (D_oversize : DefOk P w K mg base "oversize" 1 (sp_oversize K)) :
    Body P w K mg base "Circuit.remove_finer" s_Circuit_remove_finer ["self", "cut", "found"] 4 (sp_M_remove_finer K C) := by
  intro f cdv A outer s H vs Q E hr h
  obtain ⟨c, b, av, st, kk, cut, rfl, hC, ⟨oa, hav⟩, wf, hk, k⟩ := h
  obtain ⟨dx, fe, a, l, r, bs, h1, h2, h3, h4, h5, h6, h7, ⟨v1, v2, v3, v4, v5⟩, ⟨w1, w2, w3⟩⟩ := id hC
  refine ⟨_, (pss_cons (ps_set (i := 2) sc_Circuit_remove_finer.nd rfl (Or.inl rfl) (pe_callD D_total (hr.mono (by decide)) (by rfl) (pa_cons (pe_callD D_undersize (hr.mono (by decide)) (by rfl) (pa_cons (pe_fld (pv 0) rfl) (pa_cons (pv 1) pa_nil))) pa_nil)))
        (pss_cons (ps_fld (pv 0) (pe_callD D_oversize (hr.mono (by decide)) (by rfl) (pa_cons (pe_fld (pv 0) rfl) (pa_cons (pv 1) pa_nil))) rfl)
        (pss_cons (ps_fld (pv 0) (pe_callD D_plus (hr.mono (by decide)) (by rfl) (pa_cons (pe_fld (pv 0) rfl) (pa_cons (pv 2) pa_nil))) rfl)
        (pss_one (ps_ret (pv 2)))))), ?_⟩
  have l5 := wf.l5
  have su := under_sums (c := cut) wf hk
  refine ⟨_, rfl, c, C, dx, _, _, rfl, h1, T.cl, T.a_amounts, cF_amounts _ _ _ _ _ _, _, rfl, a, _, cut, rfl, h5, l5, fun p1 H1 e1 n1 f1 => ?_⟩
  refine ⟨p1, _, rfl, f1, su, fun p2 H2 e2 f2 => ?_⟩
  have s2 := e1.trans e2
  refine ⟨_, rfl, c, C, dx, _, _, rfl, s2 _ _ h1, T.cl, T.a_amounts, cF_amounts _ _ _ _ _ _, _, rfl, a, _, cut, rfl, h5.mono s2, l5, fun p3 H3 e3 n3 f3 => ?_⟩
  have s3 := s2.trans e3
  have np3 := s2.free n3
  refine ⟨_, rfl, c, C, dx, _, rfl, s3 _ _ h1, T.cl, T.a_amounts, len6 (C := C) (dx := dx), ?_⟩
  rw [cF_put_amounts]
  have hC1 : CirAt K C av (upd H3 c (.ins C dx (cF b fe p3 l r (st.passes : Nat)))) c b { st with amounts := over st.amounts cut } :=
    CirAt.put (s' := { st with amounts := over st.amounts cut }) (s3 _ _ h1) (s3 _ _ h2) (h3.mono s3) (s3 _ _ h4) f3 (h6.mono s3) (h7.mono s3) ⟨v1, v2, v3, (ne_of_none hav np3).symm, v5⟩ ⟨w1, (ne_of_none h2 np3).symm, w3⟩
  have kp1 : Keep c b H (upd H3 c (.ins C dx (cF b fe p3 l r (st.passes : Nat)))) := (Keep.of s3).trans keep_put
  have fp2 : Fr K (upd H3 c (.ins C dx (cF b fe p3 l r (st.passes : Nat)))) p2 (under st.amounts cut).sum := Fr.upd (s3 _ _ h1) (by intro xs e; cases e) (by intro ob u e; cases e) (f2.mono e3)
  generalize upd H3 c (.ins C dx (cF b fe p3 l r (st.passes : Nat))) = H4 at hC1 kp1 fp2 ⊢
  obtain ⟨dx, fe, a, l, r, bs, h1, h2, h3, h4, h5, h6, h7, ⟨v1, v2, v3, v4, v5⟩, ⟨w1, w2, w3⟩⟩ := hC1
  refine ⟨_, rfl, c, C, dx, _, _, rfl, h1, T.cl, T.a_removed, cF_removed _ _ _ _ _ _, _, rfl, r, p2, st.removed, _, rfl, h7, fp2, (wf.re.sz (by omega)).mono (by decide), su.all, fun p5 H5 e5 f5 => ?_⟩
  refine ⟨_, rfl, c, C, dx, _, rfl, e5 _ _ h1, T.cl, T.a_removed, len6 (C := C) (dx := dx), ?_⟩
  rw [cF_put_removed]
  refine ⟨_, rfl, ?_⟩
  exact k p2 (upd H5 c (.ins C dx (cF b fe a l p5 (st.passes : Nat)))) ((kp1.trans (Keep.of e5)).trans keep_put)
    (CirAt.put (s' := mRemove st cut) (e5 _ _ h1) (e5 _ _ h2) (h3.mono e5) (e5 _ _ h4) (h5.mono e5) (h6.mono e5) f5 ⟨v1, v2, v3, v4, v5⟩ ⟨w1, w2, w3⟩)
    (Fr.upd (e5 _ _ h1) (by intro xs e; cases e) (by intro ob u e; cases e) (fp2.mono e5))
theorem def_M_remove_finer (h : HereM K C "remove_finer" "Circuit.remove_finer" s_Circuit_remove_finer) (T : Txt K mg C z aA aR tA tO tT) (D_plus : DefOk P w K mg base "plus" 3 (sp_plus K)) (D_total : DefOk P w K mg base "total" 4 (sp_total K)) (D_undersize : DefOk P w K mg base "undersize" 1 (sp_undersize K)) (D_oversize : DefOk P w K mg base "oversize" 1 (sp_oversize K)) : MethOk P w K mg base C "remove_finer" 5 (sp_M_remove_finer K C) :=
  mkMeth h sc_Circuit_remove_finer b_Circuit_remove_finer (fun vs H Q E h => by obtain ⟨_, _, _, _, _, _, rfl, _⟩ := h; rfl) (body_M_remove_finer T D_plus D_total D_undersize D_oversize)

abbrev s_Circuit_present : Stmt := inClass (topS 36) 7
theorem sc_Circuit_present : FnScope ["self"] ["self"] (defScope s_Circuit_present) := ⟨rfl, rfl, rfl, by decide +kernel, rfl, by decide +kernel, by decide +kernel⟩
theorem b_Circuit_present : Bnd "present" "Circuit.present" s_Circuit_present ["self"] := fun _ _ _ _ _ _ us hl => match us, hl with | [_], _ => rfl
theorem body_M_present (T : Txt K mg C z aA aR tA tO tT) (D_total : DefOk P w K mg base "total" 4 (sp_total K)) : Body P w K mg base "Circuit.present" s_Circuit_present ["self"] 4 (sp_M_present K C) := by
  intro f cdv A outer s H vs Q E hr h
  obtain ⟨c, b, av, st, kk, rfl, ⟨dx, fe, a, l, r, bs, h1, h2, h3, h4, h5, h6, h7, h8, h9⟩, wf, hk, k⟩ := h
  refine ⟨_, (pss_one (ps_ret (pe_callD D_total (hr.mono (by decide)) (by rfl) (pa_cons (pe_fld (pv 0) rfl) pa_nil)))), ?_⟩
  exact ⟨_, rfl, c, C, dx, _, _, rfl, h1, T.cl, T.a_amounts, cF_amounts _ _ _ _ _ _, a, _, rfl, h5, am_sums wf hk, k⟩
theorem def_M_present (h : HereM K C "present" "Circuit.present" s_Circuit_present) (T : Txt K mg C z aA aR tA tO tT) (D_total : DefOk P w K mg base "total" 4 (sp_total K)) : MethOk P w K mg base C "present" 5 (sp_M_present K C) :=
  mkMeth h sc_Circuit_present b_Circuit_present (fun vs H Q E h => by obtain ⟨_, _, _, _, _, rfl, _⟩ := h; rfl) (body_M_present T D_total)

abbrev s_Circuit_passes_needed : Stmt := inClass (topS 36) 8
theorem sc_Circuit_passes_needed : FnScope ["self", "num", "den", "wanted", "found", "passes"] ["self", "num", "den"] (defScope s_Circuit_passes_needed) := ⟨rfl, rfl, rfl, by decide +kernel, rfl, by decide +kernel, by decide +kernel⟩
theorem b_Circuit_passes_needed : Bnd "passes_needed" "Circuit.passes_needed" s_Circuit_passes_needed ["self", "num", "den"] := fun _ _ _ _ _ _ us hl => match us, hl with | [_, _, _], _ => rfl
theorem body_M_passes_needed (T : Txt K mg C z aA aR tA tO tT) (M_present : MethOk P w K mg base C "present" 5 (sp_M_present K C)) (D_times : DefOk P w K mg base "times" 3 (sp_times K)) (D_is_no_less : DefOk P w K mg base "is_no_less" 1 (sp_is_no_less K)) (D_one_pass : DefOk P w K mg base "one_pass" 5 (sp_one_pass K)) :
    Body P w K mg base "Circuit.passes_needed" s_Circuit_passes_needed ["self", "num", "den", "wanted", "found", "passes"] 5 (sp_M_passes_needed K C) := by
  intro f cdv A outer s H vs Q E hr h
  obtain ⟨c, b, av, st, kk, m, d, rfl, hC, wf, hk, hm, hd1, hd2, k⟩ := h
  obtain ⟨dx, fe, a, l, r, bs, h1, h2, h3, h4, h5, h6, h7, h8, h9⟩ := id hC
  refine ⟨_, (pss_cons (ps_par (i := 3) (j := 4) (by rfl) sc_Circuit_passes_needed.nd rfl rfl (by decide) rfl rfl (pa_cons (pe_callD D_times (hr.mono (by decide)) (by rfl) (pa_cons (pe_methD0 M_present (pv 0) T.cl (hr.mono (by decide))) (pa_cons (pv 1) (pa_cons (pv 2) pa_nil)))) (pa_cons (pe_callTy call_list_of (by rfl) T.n_list (by decide +kernel) (pa_cons (pe_fld (pv 0) rfl) pa_nil)) pa_nil)) (by rfl))
        (pss_cons (ps_for PassesOwn.never rfl (pi_range1 rfl T.n_range (pa_cons (pe_op op_add (pe_gint T.c_MOST_TURNS (by rfl)) pe_int) pa_nil)) (pg_name (i := 5) sc_Circuit_passes_needed.nd rfl (Or.inl rfl)) (pss_cons (ps_if (pt_val (pe_callD D_is_no_less (hr.mono (by decide)) (by rfl) (pa_cons (pe_ix (r := rIxL K) ix_list (pv 4) pe_int (fun _ _ => rfl)) (pa_cons (pv 3) pa_nil)))) (pss_one (ps_ret (pv 5))) pss_nil)
        (pss_one (ps_set (i := 4) sc_Circuit_passes_needed.nd rfl (Or.inl rfl) (pe_callD D_one_pass (hr.mono (by decide)) (by rfl) (pa_cons (pe_fld (pv 0) rfl) (pa_cons (pv 4) pa_nil)))))))
        (pss_one (ps_ret (pe_op op_add (pe_gint T.c_MOST_TURNS (by rfl)) pe_int))))), ?_⟩
  have su := (am_sums wf hk).all
  have hm2 : m < 2 ^ 7 := Nat.lt_of_le_of_lt hm (by decide)
  have hd3 : d < 2 ^ 7 := Nat.lt_of_le_of_lt hd2 (by decide)
  have swt := Sz.times su hm2 hd3 (by omega)
  refine ⟨_, rfl, c, dx, _, rfl, h1, cF_no_present _ _ _ _ _ _, c, b, av, st, kk, rfl, hC, wf, hk, fun p1 H1 e1 f1 => ?_⟩
  refine ⟨_, rfl, _, rfl, p1, _, m, d, rfl, f1, su, Nat.lt_of_lt_of_le hm2 (by decide), by omega, Nat.lt_of_lt_of_le hd3 (by decide), fun p2 H2 e2 f2 => ?_⟩
  have s2 := e1.trans e2
  obtain ⟨ps, g1, g2⟩ := h5.mono s2
  refine ⟨_, rfl, c, C, dx, _, _, rfl, s2 _ _ h1, T.cl, T.a_amounts, cF_amounts _ _ _ _ _ _, a, _, rfl, .inl (SqL.of g1), fun q hq => ?_⟩
  have s3 := same_new (o := .lst (ps.map V.ref)) hq
  refine ⟨_, _, rfl, ?_⟩
  refine ⟨_, _, rfl, rfl, _, rfl, by decide, by decide, ?_⟩
  refine for_range (fun i σ H' => ∃ (p : Addr) (v : Option V), σ = [some (.ref c), some (.int (m : Int)), some (.int (d : Int)), some (.ref p2), some (.ref p), v] ∧ Same (upd H2 q (.lst (ps.map V.ref))) H' ∧ FrL K H' p (passes st.breakage i st.amounts) ∧ ∀ j, j < i → reach st m d j = false)
    ⟨q, none, rfl, Same.refl _, ⟨ps, upd_same, g2.mono s3⟩, fun j hj => absurd hj (Nat.not_lt_zero _)⟩ ?_ ?_
  · rintro i σ H' hi ⟨p, v, rfl, e, hp, hn⟩
    have hi' : i < 13 := hi
    have ln : (passes st.breakage i st.amounts).length = st.amounts.length := passes_len _ _ _
    have l0 : 0 < (passes st.breakage i st.amounts).length := by
      rw [ln, wf.al]
      have := wf.wf.lo
      omega
    obtain ⟨vx, u, k1, k2, k3⟩ := hp.get l0
    have z0 : Sm ((passes st.breakage i st.amounts).getD 0 0) := (Sz.getD (passes_sz wf hk i (by omega)) (by decide) 0).mono (by decide)
    have s4 := s3.trans e
    refine ⟨_, rfl, p, vx, _, _, rfl, rfl, SqL.of k1, at_of (j := 0) rfl k2, _, rfl, u, p2, _, _, _, _, rfl, k3, f2.mono s4, ⟨up z0.2.1 (by decide), up z0.2.2 (by decide), up swt.2.1 (by decide), up swt.2.2 (by decide)⟩, ?_⟩
    have er : decide ((st.amounts.sum * (m : Rat) / (d : Rat)).num.toNat * ((passes st.breakage i st.amounts).getD 0 0).den ≤ ((passes st.breakage i st.amounts).getD 0 0).num.toNat * (st.amounts.sum * (m : Rat) / (d : Rat)).den) = reach st m d i := decide_eq_decide.mpr (le_nat z0.1 swt.1).symm
    rw [er]
    refine ⟨_, rfl, ite2 (fun rt => ?_) (fun rt => ?_)⟩
    · refine ⟨_, rfl, ?_⟩
      have fnd : ((List.range 13).map fun i => i).find? (reach st m d) = some i := find_range (g := fun i => i) hi' hn rt
      have q := k H' (s2.trans s4)
      unfold needed at q
      rw [fnd] at q
      show Q (.int (0 + (i : Int))) H'
      rw [Int.zero_add]
      exact q
    · refine ⟨_, rfl, c, C, dx, _, _, rfl, (s2.trans s4) _ _ h1, T.cl, T.a_breakage, cF_breakage _ _ _ _ _ _, _, rfl, b, p, st.breakage, _, rfl, Rows.mono (s2.trans s4) ⟨bs, h2, h3⟩, hp, by rw [ln]; exact wf.wfa, fun x hx => (passes_sz wf hk i (by omega) x hx).mono (by decide), fun p3 H3 e3 n3 f3 => ?_⟩
      refine ⟨p3, _, rfl, e.trans e3, f3, fun j hj => ?_⟩
      by_cases x : j = i
      · rw [x]
        exact Bool.eq_false_iff.mpr rt
      · exact hn j (by omega)
  · rintro σ H' ⟨p, v, rfl, e, hp, hn⟩
    refine ⟨_, _, rfl, rfl, ?_⟩
    have q := k H' (s2.trans (s3.trans e))
    unfold needed at q
    rw [show ((List.range 13).map fun i => i).find? (reach st m d) = none from find_none (g := fun i => i) hn] at q
    exact q
theorem def_M_passes_needed (h : HereM K C "passes_needed" "Circuit.passes_needed" s_Circuit_passes_needed) (T : Txt K mg C z aA aR tA tO tT) (M_present : MethOk P w K mg base C "present" 5 (sp_M_present K C)) (D_times : DefOk P w K mg base "times" 3 (sp_times K)) (D_is_no_less : DefOk P w K mg base "is_no_less" 1 (sp_is_no_less K)) (D_one_pass : DefOk P w K mg base "one_pass" 5 (sp_one_pass K)) : MethOk P w K mg base C "passes_needed" 6 (sp_M_passes_needed K C) :=
  mkMeth h sc_Circuit_passes_needed b_Circuit_passes_needed (fun vs H Q E h => by obtain ⟨_, _, _, _, _, _, _, rfl, _⟩ := h; rfl) (body_M_passes_needed T M_present D_times D_is_no_less D_one_pass)

/-! ### a new circuit -/
def KeepP (p : Addr) (H H' : Hp) : Prop := ∀ x o, H x = some o → x ≠ p → H' x = some o
theorem KeepP.trans {p : Addr} {H H1 H2 : Hp} (h1 : KeepP p H H1) (h2 : KeepP p H1 H2) : KeepP p H H2 := fun x o h n => h2 x o (h1 x o h n) n
theorem KeepP.of {p : Addr} {H H' : Hp} (e : Same H H') : KeepP p H H' := fun x o h _ => e x o h
theorem KeepP.put {p : Addr} {H : Hp} {o : HO} : KeepP p H (upd H p o) := fun x u h n => by
  rw [upd_ne n]
  exact h
theorem RowAll.imp {H H' : Hp} (hk : ∀ q xs, H q = some (.lst xs) → H' q = some (.lst xs)) : ∀ {ps : List Addr} {rs : List (List Nat)}, RowAll H ps rs → RowAll H' ps rs
  | [], [], _ => trivial
  | _ :: _, _ :: _, ⟨h, r⟩ => ⟨hk _ _ h, RowAll.imp hk r⟩
theorem RowAll.pos {H : Hp} {n : Nat} : ∀ {ps : List Addr} {rs : List (List Nat)}, RowAll H ps rs → rs.length = n → ps.length = n := fun h e => h.len.trans e
abbrev s_Circuit_init : Stmt := inClass (topS 36) 0
theorem sc_Circuit_init : FnScope ["self", "class_count"] ["self", "class_count"] (defScope s_Circuit_init) := ⟨rfl, rfl, rfl, by decide +kernel, rfl, by decide +kernel, by decide +kernel⟩
theorem b_Circuit_init : Bnd "__init__" "Circuit.__init__" s_Circuit_init ["self", "class_count"] := fun _ _ _ _ _ _ us hl => match us, hl with | [_, _], _ => rfl
theorem body_M_init (T : Txt K mg C z aA aR tA tO tT) (D_unbroken : DefOk P w K mg base "unbroken" 1 sp_unbroken) : Body P w K mg base "Circuit.__init__" s_Circuit_init ["self", "class_count"] 1 (sp_M_init K C) := by
  intro f cdv A outer s H vs Q E hr h
  obtain ⟨p, dx, av, n, rfl, hp, hn2, hn5, ⟨oa, hav⟩, npav, k⟩ := h
  refine ⟨_, (pss_cons (ps_fld (pv 0) (pe_callD D_unbroken (hr.mono (by decide)) (by rfl) (pa_cons (pv 1) pa_nil)) rfl)
        (pss_cons (ps_fld (pv 0) (pe_op op_rep (pe_lst (pa_cons pe_int pa_nil)) (pv 1)) rfl)
        (pss_cons (ps_fld (pv 0) (pe_op op_rep (pe_lst (pa_cons (pe_gref T.g_ZERO (by rfl)) pa_nil)) (pv 1)) rfl)
        (pss_cons (ps_fld (pv 0) (pe_gref T.g_ZERO (by rfl)) rfl)
        (pss_cons (ps_fld (pv 0) (pe_gref T.g_ZERO (by rfl)) rfl)
        (pss_one (ps_fld (pv 0) pe_int rfl))))))), ?_⟩
  -- self.breakage = unbroken(class_count)
  refine ⟨_, rfl, n, rfl, hn5, fun b H1 e1 n1 R1 fr1 => ?_⟩
  obtain ⟨bs, hb, hR⟩ := R1
  have hq0 := fr1 bs hb
  refine ⟨_, rfl, p, C, dx, _, rfl, e1 _ _ hp, T.cl, T.a_breakage, (by show 0 < 1000; decide), ?_⟩
  have i1 : (upd H1 p (.ins C dx (putF "breakage" (.ref b) []))) p = some (.ins C dx (cF0 b 0 0 z z 0 1)) := upd_same
  have k1 : KeepP p H1 (upd H1 p (.ins C dx (putF "breakage" (.ref b) []))) := KeepP.put
  generalize upd H1 p (.ins C dx (putF "breakage" (.ref b) [])) = H2 at i1 k1 ⊢
  have hp1 := e1 _ _ hp
  have nl : ∀ q xs, H1 q = some (.lst xs) → q ≠ p := fun q xs h => ne_of h hp1 (by intro e; cases e)
  have hb2 := k1 _ _ hb (nl _ _ hb)
  have hav1 := e1 _ _ hav
  have hav2 := k1 _ _ hav1 npav.symm
  -- self.feed = [0] * class_count
  refine ⟨(by show 1 ≤ sizeLine; decide), fun l1 hl1 => ?_⟩
  have s1 := same_new (o := .lst [.int 0]) hl1
  refine ⟨_, rfl, l1, (n : Int), _, rfl, rfl, upd_same, by omega, by omega, ?_, fun fe hfe => ?_⟩
  · show 1 * ((n : Nat) : Int).toNat ≤ sizeLine
    exact Nat.le_trans (by omega : 1 * ((n : Nat) : Int).toNat ≤ 5) (by decide)
  have en : ((n : Nat) : Int).toNat = n := by omega
  have ef : (List.replicate ((n : Nat) : Int).toNat [V.int 0]).flatten = natL (List.replicate n 0) := by
    rw [en, List.flatten_replicate_singleton, natL, List.map_replicate, List.map_replicate]
    rfl
  rw [ef]
  have s2 := s1.trans (same_new (o := .lst (natL (List.replicate n 0))) hfe)
  have nfe := s1.free hfe
  refine ⟨_, rfl, p, C, dx, _, rfl, s2 _ _ i1, T.cl, T.a_feed, (by show 1 < 1000; decide), ?_⟩
  have i2 : (upd (upd (upd H2 l1 (.lst [.int 0])) fe (.lst (natL (List.replicate n 0)))) p (.ins C dx (putF "feed" (.ref fe) (cF0 b 0 0 z z 0 1)))) p = some (.ins C dx (cF0 b fe 0 z z 0 2)) := by
    rw [upd_same]
    exact congrArg (fun q => some (HO.ins C dx q)) (cF_new_feed b fe 0 z z 0)
  have k2 : KeepP p H1 (upd (upd (upd H2 l1 (.lst [.int 0])) fe (.lst (natL (List.replicate n 0)))) p (.ins C dx (putF "feed" (.ref fe) (cF0 b 0 0 z z 0 1)))) := (k1.trans (KeepP.of s2)).trans KeepP.put
  have hfe2 : (upd (upd (upd H2 l1 (.lst [.int 0])) fe (.lst (natL (List.replicate n 0)))) p (.ins C dx (putF "feed" (.ref fe) (cF0 b 0 0 z z 0 1)))) fe = some (.lst (natL (List.replicate n 0))) := by
    rw [upd_ne (ne_of_none i1 nfe).symm, upd_same]
  generalize upd (upd (upd H2 l1 (.lst [.int 0])) fe (.lst (natL (List.replicate n 0)))) p (.ins C dx (putF "feed" (.ref fe) (cF0 b 0 0 z z 0 1))) = H3 at i2 k2 hfe2 ⊢
  have nfep : fe ≠ p := ne_of hfe2 i2 (by intro e; cases e)
  -- self.amounts = [ZERO] * class_count
  refine ⟨(by show 1 ≤ sizeLine; decide), fun l2 hl2 => ?_⟩
  have t1 := same_new (o := .lst [.ref z]) hl2
  refine ⟨_, rfl, l2, (n : Int), _, rfl, rfl, upd_same, by omega, by omega, ?_, fun a ha => ?_⟩
  · show 1 * ((n : Nat) : Int).toNat ≤ sizeLine
    exact Nat.le_trans (by omega : 1 * ((n : Nat) : Int).toNat ≤ 5) (by decide)
  have ea : (List.replicate ((n : Nat) : Int).toNat [V.ref z]).flatten = (List.replicate n z).map V.ref := by
    rw [en, List.flatten_replicate_singleton, List.map_replicate]
  rw [ea]
  have t2 := t1.trans (same_new (o := .lst ((List.replicate n z).map V.ref)) ha)
  have na := t1.free ha
  refine ⟨_, rfl, p, C, dx, _, rfl, t2 _ _ i2, T.cl, T.a_amounts, (by show 2 < 1000; decide), ?_⟩
  have i3 : (upd (upd (upd H3 l2 (.lst [.ref z])) a (.lst ((List.replicate n z).map V.ref))) p (.ins C dx (putF "amounts" (.ref a) (cF0 b fe 0 z z 0 2)))) p = some (.ins C dx (cF0 b fe a z z 0 3)) := by
    rw [upd_same]
    exact congrArg (fun q => some (HO.ins C dx q)) (cF_new_amounts b fe a z z 0)
  have k3' : KeepP p H3 (upd (upd (upd H3 l2 (.lst [.ref z])) a (.lst ((List.replicate n z).map V.ref))) p (.ins C dx (putF "amounts" (.ref a) (cF0 b fe 0 z z 0 2)))) := (KeepP.of t2).trans KeepP.put
  have k3 := k2.trans k3'
  have hfe3 := k3' _ _ hfe2 nfep
  have ha3 : (upd (upd (upd H3 l2 (.lst [.ref z])) a (.lst ((List.replicate n z).map V.ref))) p (.ins C dx (putF "amounts" (.ref a) (cF0 b fe 0 z z 0 2)))) a = some (.lst ((List.replicate n z).map V.ref)) := by
    rw [upd_ne (ne_of_none i2 na).symm, upd_same]
  generalize upd (upd (upd H3 l2 (.lst [.ref z])) a (.lst ((List.replicate n z).map V.ref))) p (.ins C dx (putF "amounts" (.ref a) (cF0 b fe 0 z z 0 2))) = H4 at i3 k3 hfe3 ha3 ⊢
  -- self.loaded = ZERO; self.removed = ZERO; self.pass_count = 0
  refine ⟨_, rfl, p, C, dx, _, rfl, i3, T.cl, T.a_loaded, (by show 3 < 1000; decide), ?_⟩
  rw [cF_new_loaded]
  refine ⟨_, rfl, p, C, dx, _, rfl, upd_same, T.cl, T.a_removed, (by show 4 < 1000; decide), ?_⟩
  rw [cF_new_removed, upd_upd]
  refine ⟨_, rfl, p, C, dx, _, rfl, upd_same, T.cl, T.a_pass_count, (by show 5 < 1000; decide), ?_⟩
  rw [cF_new_pass_count, upd_upd, cF_full]
  have nb : b ≠ p := nl _ _ hb
  have nap : a ≠ p := ne_of ha3 i3 (by intro e; cases e)
  refine k _ b (fun x o hx nx => ?_) ⟨dx, fe, a, z, z, bs, upd_same, ?_, ?_, ?_, ⟨List.replicate n z, ?_, fr_rep (T.fr0 _) n⟩, T.fr0 _, T.fr0 _, ⟨npav, ?_, ?_, ?_, ?_⟩, ⟨?_, ?_, ?_⟩⟩
  · rw [upd_ne nx]
    exact k3 _ _ (e1 _ _ hx) nx
  · rw [upd_ne nb]
    exact k3 _ _ hb nb
  · refine RowAll.imp (fun q xs hq => ?_) hR
    rw [upd_ne (nl _ _ hq)]
    exact k3 _ _ hq (nl _ _ hq)
  · rw [upd_ne nfep]
    exact hfe3
  · rw [upd_ne nap]
    exact ha3
  · exact (ne_of_none hav n1).symm
  · exact (ne_of_none hav2 nfe).symm
  · exact (ne_of_none (k2 _ _ hav1 npav.symm) na).symm
  · exact fun q hq => (ne_of_none hav (hq0 q hq)).symm
  · exact (ne_of_none hb2 nfe).symm
  · exact (ne_of_none (k2 _ _ hb nb) na).symm
  · intro q hq e
    obtain ⟨i, hi⟩ := List.getElem?_of_mem hq
    have hi2 : i < ((List.range n).map fun i => List.replicate i 0 ++ [100]).length := by
      rw [← hR.len]
      exact (List.getElem?_eq_some_iff.mp hi).1
    obtain ⟨q', g1, g2⟩ := hR.get hi2
    rw [hi] at g1
    cases g1
    rw [e, hb] at g2
    have hi3 : i < n := by simpa using hi2
    have rw0 : ((List.range n).map fun i => List.replicate i 0 ++ [100]).getD i [] = List.replicate i 0 ++ [100] := by
      rw [getD_in hi2, List.getElem_map, List.getElem_range]
    rw [rw0] at g2
    injection g2 with g2
    injection g2 with g2
    have m : V.int 100 ∈ bs.map V.ref := by
      rw [g2]
      simp [natL]
    obtain ⟨_, _, h⟩ := List.mem_map.mp m
    cases h
theorem def_M_init (h : HereI K C "Circuit.__init__" s_Circuit_init) (T : Txt K mg C z aA aR tA tO tT) (D_unbroken : DefOk P w K mg base "unbroken" 1 sp_unbroken) : MakeOk P w K mg base C 2 (sp_M_init K C) :=
  mkMake h sc_Circuit_init b_Circuit_init (fun vs H Q E h => by obtain ⟨_, _, _, _, rfl, _⟩ := h; rfl) (body_M_init T D_unbroken)
end
end Gs
end P_GsB7
section P_GsB8
set_option Elab.async false
set_option linter.all false
set_option maxRecDepth 100000
set_option maxHeartbeats 4000000
/-! GsB8: calls on a circuit. -/
namespace Gs
open PySem PySem.Spec PyProof.Rows L2
open Kp408 (Circuit)
/-- what a call meets -/
structure Pre (K : PySem.W.Frag) (C av : Addr) (H : Hp) (c b : Addr) (s : Circuit) (k : Nat) : Prop where
  hC : CirAt K C av H c b s
  hav : ∃ o, H av = some o
  wf : WfS s k
  hk : k ≤ 60
theorem Pre.mono {K : PySem.W.Frag} {C av : Addr} {H H' : Hp} {c b : Addr} {s : Circuit} {k : Nat} (e : Same H H') (p : Pre K C av H c b s k) : Pre K C av H' c b s k :=
  ⟨p.hC.mono e, let ⟨o, h⟩ := p.hav; ⟨o, e _ _ h⟩, p.wf, p.hk⟩
/-- what follows a call: the circuit is s', a list of these numbers is handed back -/
def Done (K : PySem.W.Frag) (C av c b : Addr) (s' : Circuit) (res : List Int) (H : Hp) (Q : VK) : Prop := ∀ p H', Keep c b H H' → CirAt K C av H' c b s' → H' p = some (.lst (res.map V.int)) → p ≠ av → Q (.ref p) H'
theorem Done.ret {K : PySem.W.Frag} {C av c b : Addr} {s : Circuit} {k : Nat} {res : List Int} {H H' : Hp} {Q : VK} {p : Addr} {xs : List V} (d : Done K C av c b s res H Q) (pre : Pre K C av H c b s k) (e : Same H H') (hp : H p = none) (h : H' p = some (.lst xs)) (hx : xs = res.map V.int) : Q (.ref p) H' := by
  obtain ⟨o, ho⟩ := pre.hav
  subst hx
  exact d p H' (Keep.of e) (pre.hC.mono e) h (ne_of_none ho hp).symm
theorem nums_len2 (xs : List Rat) (h : xs.length ≤ 5) (n : Nat) (hn : n ≤ 10) : n + ((nums xs).map V.int).length ≤ sizeLine := by
  rw [List.length_map, nums_len]
  exact Nat.le_trans (by omega : n + 2 * xs.length ≤ 20) (by decide)
def sp_is_class (K : PySem.W.Frag) (C : Addr) : Sp := fun vs H Q _ => ∃ (c b av : Addr) (s : Circuit) (i : Nat), vs = [.ref c, .int (i : Int)] ∧ CirAt K C av H c b s ∧ Q (.bl (decide (i < s.feed.length))) H
def sp_is_cut (K : PySem.W.Frag) (C : Addr) : Sp := fun vs H Q _ => ∃ (c b av : Addr) (s : Circuit) (i : Nat), vs = [.ref c, .int (i : Int)] ∧ CirAt K C av H c b s ∧ Q (.bl (isCut s i)) H
def sp_with_count (K : PySem.W.Frag) : Sp := fun vs H Q _ => ∃ (a : Addr) (xs : List Rat), vs = [.ref a] ∧ FrL K H a xs ∧ xs.length ≤ 5 ∧ RetL ((cnt xs).map V.int) H Q
def sp_refusal (K : PySem.W.Frag) (C : Addr) : Sp := fun vs H Q _ => ∃ (c b av : Addr) (s : Circuit) (k i : Nat), vs = [.ref c, .int (i : Int)] ∧ Pre K C av H c b s k ∧ RetL ((refusal s i).map V.int) H Q
/-- a call without numbers | with one | with two -/
def sp_0 (K : PySem.W.Frag) (C : Addr) (g : Circuit → Circuit × List Int) : Sp := fun vs H Q _ => ∃ (c b av : Addr) (s : Circuit) (k : Nat), vs = [.ref c] ∧ Pre K C av H c b s k ∧ Done K C av c b (g s).1 (g s).2 H Q
def sp_1 (K : PySem.W.Frag) (C : Addr) (g : Circuit → Nat → Circuit × List Int) : Sp := fun vs H Q _ => ∃ (c b av : Addr) (s : Circuit) (k i : Nat), vs = [.ref c, .int (i : Int)] ∧ Pre K C av H c b s k ∧ Done K C av c b (g s i).1 (g s i).2 H Q
def sp_2 (K : PySem.W.Frag) (C : Addr) (g : Circuit → Nat → Nat → Circuit × List Int) : Sp := fun vs H Q _ => ∃ (c b av : Addr) (s : Circuit) (k i j : Nat), vs = [.ref c, .int (i : Int), .int (j : Int)] ∧ Pre K C av H c b s k ∧ Done K C av c b (g s i j).1 (g s i j).2 H Q
def sp_set_breakage (K : PySem.W.Frag) (C : Addr) : Sp := fun vs H Q _ => ∃ (c b av p : Addr) (s : Circuit) (k i : Nat) (r : List Nat), vs = [.ref c, .int (i : Int), .ref p] ∧ Pre K C av H c b s k ∧ H p = some (.lst (natL r)) ∧ r.length ≤ 8 ∧ Done K C av c b (dSetBreakage s i r).1 (dSetBreakage s i r).2 H Q
def sp_set_feed (K : PySem.W.Frag) (C : Addr) : Sp := fun vs H Q _ => ∃ (c b av p : Addr) (s : Circuit) (k : Nat) (f : List Nat), vs = [.ref c, .ref p] ∧ Pre K C av H c b s k ∧ H p = some (.lst (natL f)) ∧ f.length ≤ 8 ∧ Done K C av c b (dSetFeed s f).1 (dSetFeed s f).2 H Q

section
variable {P : Program} {w : World} {K : PySem.W.Frag} {mg : Str → Option Value} {base : Heap} {C z aA aR tA tO tT : Addr}

abbrev s_is_class : Stmt := topS 45
theorem sc_is_class : FnScope ["circuit", "size_class"] ["circuit", "size_class"] (defScope s_is_class) := ⟨rfl, rfl, rfl, by decide +kernel, rfl, by decide +kernel, by decide +kernel⟩
theorem b_is_class : Bnd "is_class" "is_class" s_is_class ["circuit", "size_class"] := fun _ _ _ _ _ _ us hl => match us, hl with | [_, _], _ => rfl
theorem body_is_class (T : Txt K mg C z aA aR tA tO tT) (M_class_count : MethOk P w K mg base C "class_count" 1 (sp_M_class_count K C)) : Body P w K mg base "is_class" s_is_class ["circuit", "size_class"] 1 (sp_is_class K C) := by
  intro f cdv A outer s H vs Q E hr h
  obtain ⟨c, b, av, st, i, rfl, hC, k⟩ := h
  obtain ⟨dx, fe, a, l, r, bs, h1, h2, h3, h4, h5, h6, h7, h8, h9⟩ := id hC
  refine ⟨_, (pss_one (ps_ret (pe_cmpR op_lt (pv 1) (pe_methD0 M_class_count (pv 0) T.cl (hr.mono (by decide))) (nomark _)))), ?_⟩
  refine ⟨_, rfl, _, rfl, c, dx, _, rfl, h1, cF_no_class_count _ _ _ _ _ _, c, b, av, st, rfl, hC, _, _, rfl, rfl, ?_⟩
  have e3 : decide ((i : Int) < ((st.feed.length : Nat) : Int)) = decide (i < st.feed.length) := decide_eq_decide.mpr (by omega)
  show Q (.bl (decide ((i : Int) < ((st.feed.length : Nat) : Int)))) H
  rw [e3]
  exact k
theorem def_is_class {f : Addr} (h : Here K mg "is_class" s_is_class f) (T : Txt K mg C z aA aR tA tO tT) (M_class_count : MethOk P w K mg base C "class_count" 1 (sp_M_class_count K C)) : DefOk P w K mg base "is_class" 2 (sp_is_class K C) :=
  mkDef h sc_is_class b_is_class (fun vs H Q E h => by obtain ⟨_, _, _, _, _, rfl, _⟩ := h; rfl) (body_is_class T M_class_count)

abbrev s_is_cut : Stmt := topS 46
theorem sc_is_cut : FnScope ["circuit", "cut"] ["circuit", "cut"] (defScope s_is_cut) := ⟨rfl, rfl, rfl, by decide +kernel, rfl, by decide +kernel, by decide +kernel⟩
theorem b_is_cut : Bnd "is_cut" "is_cut" s_is_cut ["circuit", "cut"] := fun _ _ _ _ _ _ us hl => match us, hl with | [_, _], _ => rfl
theorem body_is_cut (T : Txt K mg C z aA aR tA tO tT) (M_class_count : MethOk P w K mg base C "class_count" 1 (sp_M_class_count K C)) : Body P w K mg base "is_cut" s_is_cut ["circuit", "cut"] 1 (sp_is_cut K C) := by
  intro f cdv A outer s H vs Q E hr h
  obtain ⟨c, b, av, st, i, rfl, hC, k⟩ := h
  obtain ⟨dx, fe, a, l, r, bs, h1, h2, h3, h4, h5, h6, h7, h8, h9⟩ := id hC
  refine ⟨_, (pss_one (ps_ret (pe_chain op_le op_lt pe_int (pv 1) (pe_methD0 M_class_count (pv 0) T.cl (hr.mono (by decide)))))), ?_⟩
  unfold isCut at k
  have e1 : decide ((1 : Int) ≤ (i : Int)) = decide (1 ≤ i) := decide_eq_decide.mpr (by omega)
  have e3 : decide ((i : Int) < ((st.feed.length : Nat) : Int)) = decide (i < st.feed.length) := decide_eq_decide.mpr (by omega)
  refine ⟨_, rfl, _, _, rfl, rfl, _, rfl, ite2 (fun cc => ?_) (fun cc => ?_)⟩
  · refine ⟨_, rfl, c, dx, _, rfl, h1, cF_no_class_count _ _ _ _ _ _, c, b, av, st, rfl, hC, _, _, rfl, rfl, ?_⟩
    show Q (.bl (decide ((i : Int) < ((st.feed.length : Nat) : Int)))) H
    rw [e1] at cc
    rw [cc, Bool.true_and] at k
    rw [e3]
    exact k
  · rw [e1] at cc
    rw [Bool.eq_false_iff.mpr cc, Bool.false_and] at k
    exact k
theorem def_is_cut {f : Addr} (h : Here K mg "is_cut" s_is_cut f) (T : Txt K mg C z aA aR tA tO tT) (M_class_count : MethOk P w K mg base C "class_count" 1 (sp_M_class_count K C)) : DefOk P w K mg base "is_cut" 2 (sp_is_cut K C) :=
  mkDef h sc_is_cut b_is_cut (fun vs H Q E h => by obtain ⟨_, _, _, _, _, rfl, _⟩ := h; rfl) (body_is_cut T M_class_count)

abbrev s_with_count : Stmt := topS 47
theorem sc_with_count : FnScope ["amounts"] ["amounts"] (defScope s_with_count) := ⟨rfl, rfl, rfl, by decide +kernel, rfl, by decide +kernel, by decide +kernel⟩
theorem b_with_count : Bnd "with_count" "with_count" s_with_count ["amounts"] := fun _ _ _ _ _ _ us hl => match us, hl with | [_], _ => rfl
theorem body_with_count (T : Txt K mg C z aA aR tA tO tT) (D_shown : DefOk P w K mg base "shown" 1 (sp_shown K)) : Body P w K mg base "with_count" s_with_count ["amounts"] 1 (sp_with_count K) := by
  intro f cdv A outer s H vs Q E hr h
  obtain ⟨a, xs, rfl, ⟨ps, hL, hF⟩, hl, k⟩ := h
  refine ⟨_, (pss_one (ps_ret (pe_op op_cat (pe_lst (pa_cons (pe_callB call_len_seq (by rfl) T.n_len PySem.boot_len (pa_cons (pv 0) pa_nil)) pa_nil)) (pe_callD D_shown (hr.mono (by decide)) (by rfl) (pa_cons (pv 0) pa_nil))))), ?_⟩
  refine ⟨_, rfl, a, _, rfl, .inl (SqL.of hL), (by show 1 ≤ sizeLine; decide), fun l hl0 => ?_⟩
  have s1 := same_new (o := .lst [.int (((ps.map V.ref).length : Nat) : Int)]) hl0
  refine ⟨_, rfl, a, ps, xs, rfl, .inl (s1 _ _ hL), hF.mono s1, hl, fun q H2 e2 n2 hq => ?_⟩
  refine ⟨l, q, _, _, rfl, rfl, e2 _ _ upd_same, hq, nums_len2 xs hl 1 (by decide), fun p hp => ?_⟩
  refine k p _ ((s1.trans e2).trans (same_new hp)) ((s1.trans e2).free hp) ?_
  rw [upd_same, List.length_map, hF.len]
  rfl
theorem def_with_count {f : Addr} (h : Here K mg "with_count" s_with_count f) (T : Txt K mg C z aA aR tA tO tT) (D_shown : DefOk P w K mg base "shown" 1 (sp_shown K)) : DefOk P w K mg base "with_count" 2 (sp_with_count K) :=
  mkDef h sc_with_count b_with_count (fun vs H Q E h => by obtain ⟨_, _, rfl, _⟩ := h; rfl) (body_with_count T D_shown)

abbrev s_set_breakage : Stmt := topS 48
theorem sc_set_breakage : FnScope ["circuit", "size_class", "percentages"] ["circuit", "size_class", "percentages"] (defScope s_set_breakage) := ⟨rfl, rfl, rfl, by decide +kernel, rfl, by decide +kernel, by decide +kernel⟩
theorem b_set_breakage : Bnd "set_breakage" "set_breakage" s_set_breakage ["circuit", "size_class", "percentages"] := fun _ _ _ _ _ _ us hl => match us, hl with | [_, _, _], _ => rfl
theorem body_set_breakage (T : Txt K mg C z aA aR tA tO tT) (D_is_class : DefOk P w K mg base "is_class" 2 (sp_is_class K C)) (D_is_row : DefOk P w K mg base "is_row" 1 sp_is_row) (M_put_row : MethOk P w K mg base C "put_row" 1 (sp_M_put_row K C)) :
    Body P w K mg base "set_breakage" s_set_breakage ["circuit", "size_class", "percentages"] 2 (sp_set_breakage K C) := by
  intro f cdv A outer s H vs Q E hr h
  obtain ⟨c, b, av, p, st, kk, i, row, rfl, pre, hp, hl, k⟩ := h
  refine ⟨_, (pss_cons (ps_if (pt_not (pt_val (pe_callD D_is_class (hr.mono (by decide)) (by rfl) (pa_cons (pv 0) (pa_cons (pv 1) pa_nil))))) (pss_one (ps_ret (pe_lst (pa_cons (pe_gint T.c_NO_CLASS (by rfl)) pa_nil)))) pss_nil)
        (pss_cons (ps_if (pt_not (pt_val (pe_callD D_is_row (hr.mono (by decide)) (by rfl) (pa_cons (pv 2) (pa_cons (pe_op op_add (pv 1) pe_int) pa_nil))))) (pss_one (ps_ret (pe_lst (pa_cons (pe_gint T.c_BAD_ARGUMENT (by rfl)) pa_nil)))) pss_nil)
        (pss_cons (ps_expr (pe_methD M_put_row (pv 0) T.cl (hr.mono (by decide)) (pa_cons (pv 1) (pa_cons (pv 2) pa_nil))))
        (pss_one (ps_ret (pe_lst (pa_cons pe_int pa_nil))))))), ?_⟩
  refine ⟨_, rfl, _, rfl, c, b, av, st, i, rfl, pre.hC, _, rfl, ite2 (fun cc => ?_) (fun cc => ?_)⟩
  · have hi : ¬ i < st.feed.length := by simpa using cc
    unfold dSetBreakage at k
    rw [if_neg hi] at k
    exact ⟨(by show 1 ≤ sizeLine; decide), fun q hq => Done.ret k pre (same_new hq) hq upd_same rfl⟩
  have hi : i < st.feed.length := by simpa using cc
  unfold dSetBreakage at k
  rw [if_pos hi] at k
  refine ⟨_, rfl, _, rfl, _, _, rfl, rfl, p, row, i + 1, rfl, hp, hl, fun H1 e1 => ⟨_, rfl, ite2 (fun cc => ?_) (fun cc => ?_)⟩⟩
  · have ho : rowOk row (i + 1) = false := by simpa using cc
    rw [ho] at k
    exact ⟨(by show 1 ≤ sizeLine; decide), fun q hq => Done.ret k pre (e1.trans (same_new hq)) (e1.free hq) upd_same rfl⟩
  have ho : rowOk row (i + 1) = true := by simpa using cc
  rw [ho] at k
  have pre1 := pre.mono e1
  obtain ⟨dx, fe, a, l, r, bs, h1, h2, h3, h4, h5, h6, h7, h8, h9⟩ := id pre1.hC
  refine ⟨_, rfl, c, dx, _, rfl, h1, cF_no_put_row _ _ _ _ _ _, _, rfl, _, rfl, c, b, av, p, st, i, row, rfl, pre1.hC, pre1.hav, SqL.of (e1 _ _ hp), by rw [pre.wf.wf.len]; exact hi, fun H2 kp2 hC2 => ?_⟩
  refine ⟨(by show 1 ≤ sizeLine; decide), fun q hq => ?_⟩
  obtain ⟨o, ho⟩ := pre1.hav
  obtain ⟨w1, w2, w3, w4, w5, w6, g1, g2, g3, g4, g5, g6, g7, ⟨v1, v2, v3⟩, g9⟩ := id hC2
  exact k q _ (((Keep.of e1).trans kp2).trans (Keep.of (same_new hq))) (hC2.mono (same_new hq)) upd_same (ne_of_none (kp2 _ _ ho v1.symm v2.symm) hq).symm
theorem def_set_breakage {f : Addr} (h : Here K mg "set_breakage" s_set_breakage f) (T : Txt K mg C z aA aR tA tO tT) (D_is_class : DefOk P w K mg base "is_class" 2 (sp_is_class K C)) (D_is_row : DefOk P w K mg base "is_row" 1 sp_is_row) (M_put_row : MethOk P w K mg base C "put_row" 1 (sp_M_put_row K C)) : DefOk P w K mg base "set_breakage" 3 (sp_set_breakage K C) :=
  mkDef h sc_set_breakage b_set_breakage (fun vs H Q E h => by obtain ⟨_, _, _, _, _, _, _, _, rfl, _⟩ := h; rfl) (body_set_breakage T D_is_class D_is_row M_put_row)

abbrev s_get_breakage : Stmt := topS 49
theorem sc_get_breakage : FnScope ["circuit", "size_class"] ["circuit", "size_class"] (defScope s_get_breakage) := ⟨rfl, rfl, rfl, by decide +kernel, rfl, by decide +kernel, by decide +kernel⟩
theorem b_get_breakage : Bnd "get_breakage" "get_breakage" s_get_breakage ["circuit", "size_class"] := fun _ _ _ _ _ _ us hl => match us, hl with | [_, _], _ => rfl
theorem body_get_breakage (T : Txt K mg C z aA aR tA tO tT) (D_is_class : DefOk P w K mg base "is_class" 2 (sp_is_class K C)) : Body P w K mg base "get_breakage" s_get_breakage ["circuit", "size_class"] 2 (sp_1 K C fun s i => (s, dGetBreakage s i)) := by
  intro f cdv A outer s H vs Q E hr h
  obtain ⟨c, b, av, st, kk, i, rfl, pre, k⟩ := h
  replace k : Done K C av c b st (dGetBreakage st i) H Q := k
  refine ⟨_, (pss_cons (ps_if (pt_not (pt_val (pe_callD D_is_class (hr.mono (by decide)) (by rfl) (pa_cons (pv 0) (pa_cons (pv 1) pa_nil))))) (pss_one (ps_ret (pe_lst (pa_cons (pe_gint T.c_NO_CLASS (by rfl)) pa_nil)))) pss_nil)
        (pss_one (ps_ret (pe_op op_cat (pe_lst (pa_cons (pe_op op_add (pv 1) pe_int) pa_nil)) (pe_ix (r := rIxL K) ix_list (pe_fld (pv 0) rfl) (pv 1) (fun _ _ => rfl)))))), ?_⟩
  refine ⟨_, rfl, _, rfl, c, b, av, st, i, rfl, pre.hC, _, rfl, ite2 (fun cc => ?_) (fun cc => ?_)⟩
  · have hi : ¬ i < st.feed.length := by simpa using cc
    unfold dGetBreakage at k
    rw [if_neg hi] at k
    exact ⟨(by show 1 ≤ sizeLine; decide), fun q hq => Done.ret k pre (same_new hq) hq upd_same rfl⟩
  have hi : i < st.feed.length := by simpa using cc
  unfold dGetBreakage at k
  rw [if_pos hi] at k
  obtain ⟨dx, fe, a, l, r, bs, h1, h2, h3, h4, h5, h6, h7, h8, h9⟩ := id pre.hC
  obtain ⟨ub, ro, g1, g2, g3⟩ := Rows.get (i := i) ⟨bs, h2, h3⟩ (by rw [pre.wf.wf.len]; exact hi)
  refine ⟨_, rfl, _, _, rfl, rfl, (by show 1 ≤ sizeLine; decide), fun l1 hl1 => ?_⟩
  have s1 := same_new (o := .lst [.int ((i : Int) + 1)]) hl1
  refine ⟨_, rfl, c, C, dx, _, _, rfl, s1 _ _ h1, T.cl, T.a_breakage, cF_breakage _ _ _ _ _ _, _, rfl, b, ub, _, _, rfl, rfl, SqL.of (s1 _ _ g1), atI_nat g2, ?_⟩
  refine ⟨l1, ro, _, _, rfl, rfl, upd_same, s1 _ _ g3, ?_, fun p hp => Done.ret k pre (s1.trans (same_new hp)) (s1.free hp) upd_same rfl⟩
  rw [natL_len, pre.wf.wf.row i hi]
  have := pre.wf.wf.hi
  exact Nat.le_trans (by show 1 + (i + 1) ≤ 7; omega : _ ≤ 7) (by decide)
theorem at_get_breakage {f : Addr} (h : Here K mg "get_breakage" s_get_breakage f) (T : Txt K mg C z aA aR tA tO tT) (D_is_class : DefOk P w K mg base "is_class" 2 (sp_is_class K C)) : AtOk P w K mg base f 3 (sp_1 K C fun s i => (s, dGetBreakage s i)) :=
  mkAt h sc_get_breakage b_get_breakage (fun vs H Q E h => by obtain ⟨_, _, _, _, _, _, rfl, _⟩ := h; rfl) (body_get_breakage T D_is_class)

abbrev s_set_feed : Stmt := topS 50
theorem sc_set_feed : FnScope ["circuit", "feed", "one"] ["circuit", "feed"] (defScope s_set_feed) := ⟨rfl, rfl, rfl, by decide +kernel, rfl, by decide +kernel, by decide +kernel⟩
theorem b_set_feed : Bnd "set_feed" "set_feed" s_set_feed ["circuit", "feed"] := fun _ _ _ _ _ _ us hl => match us, hl with | [_, _], _ => rfl
theorem body_set_feed (T : Txt K mg C z aA aR tA tO tT) (M_class_count : MethOk P w K mg base C "class_count" 1 (sp_M_class_count K C)) (M_put_feed : MethOk P w K mg base C "put_feed" 1 (sp_M_put_feed K C)) :
    Body P w K mg base "set_feed" s_set_feed ["circuit", "feed", "one"] 1 (sp_set_feed K C) := by
  intro f cdv A outer s H vs Q E hr h
  obtain ⟨c, b, av, p, st, kk, fd, rfl, pre, hp, hl, k⟩ := h
  obtain ⟨dx, fe, a, l, r, bs, h1, h2, h3, h4, h5, h6, h7, h8, h9⟩ := id pre.hC
  refine ⟨_, (pss_cons (ps_if (PW.pt (pw_or (pt_cmpR op_ne (pe_callB call_len_seq (by rfl) T.n_len PySem.boot_len (pa_cons (pv 1) pa_nil)) (pe_methD0 M_class_count (pv 0) T.cl (hr.mono (by decide))) (nomark _)) (pw_or1 (pt_val (pe_callB (cr_any rfl) (by rfl) T.n_any (by decide +kernel) (pa_cons (pe_lc (own := [("one", 2)]) (g := (gName 2)) (tt := tYes) rfl sc_set_feed.nd (pi_list (pv 1)) (blkOk_by (own := [("one", 2)]) (N := ["circuit", "feed", "one"]) (sc := defScope (topS 50)) (by decide +kernel)) (fun _ _ _ _ _ => (pg_name (i := 2) sc_set_feed.nd rfl (Or.inl rfl))) (fun _ _ _ _ _ => pts_nil) (fun _ _ _ _ _ => (pe_cmpR op_gt (pv 2) (pe_gint T.c_MOST_PERCENT (by rfl)) (nomark _)))) pa_nil)))))) (pss_one (ps_ret (pe_lst (pa_cons (pe_gint T.c_BAD_ARGUMENT (by rfl)) pa_nil)))) pss_nil)
        (pss_one (ps_ret (pe_lst (pa_cons (pe_methD M_put_feed (pv 0) T.cl (hr.mono (by decide)) (pa_cons (pv 1) pa_nil)) pa_nil))))), ?_⟩
  have l8 : (natL fd).length = fd.length := natL_len fd
  refine ⟨_, rfl, p, _, rfl, .inl (SqL.of hp), _, rfl, c, dx, _, rfl, h1, cF_no_class_count _ _ _ _ _ _, c, b, av, st, rfl, pre.hC, rfl, _, rfl, ite2 (fun cc => iteT ?_) (fun cc => ?_)⟩
  · rw [l8] at cc
    have hi := vne cc
    unfold dSetFeed at k
    rw [if_neg (fun q => hi q.1)] at k
    exact ⟨(by show 1 ≤ sizeLine; decide), fun q hq => Done.ret k pre (same_new hq) hq upd_same rfl⟩
  rw [l8] at cc
  have hi := veq cc
  refine ⟨_, rfl, p, rfl, ⟨_, SqL.of hp⟩, fun D hD => ?_⟩
  refine lc_vals (walk_list (K := K) (a := p) (xs := natL fd)) (fun i => V.bl (decide (100 < fd.getD i 0))) (by rw [l8]; omega) hD (fun H' e => e.seq (SqL.of hp)) ?_ (fun H1 e1 q => ?_)
  · rintro i v H1 H2 hi e ⟨rfl, hv⟩ R hR
    obtain ⟨rfl, _⟩ := natL_get hv
    refine ⟨rfl, _, rfl, _, _, rfl, rfl, ?_⟩
    have e3 : decide (100 < ((fd.getD i 0 : Nat) : Int)) = decide (100 < fd.getD i 0) := decide_eq_decide.mpr (by omega)
    show R (.bl (decide ((100 : Int) < ((fd.getD i 0 : Nat) : Int)))) H2
    rw [e3]
    exact hR H2 (Same.refl _)
  refine ⟨D, (List.range fd.length).map fun i => decide (100 < fd.getD i 0), rfl, SqL.of ?_, _, rfl, ite2 (fun cc => ?_) (fun cc => ?_)⟩
  · rw [l8] at q
    rw [q, List.map_map]
    rfl
  · rw [anyN_range fun c => decide (100 < c)] at cc
    unfold dSetFeed at k
    rw [if_neg (fun q => by rw [q.2] at cc; cases cc)] at k
    exact ⟨(by show 1 ≤ sizeLine; decide), fun q hq => Done.ret k pre (e1.trans (same_new hq)) (e1.free hq) upd_same rfl⟩
  · rw [anyN_range fun c => decide (100 < c)] at cc
    unfold dSetFeed at k
    rw [if_pos ⟨hi, Bool.eq_false_iff.mpr cc⟩] at k
    have pre1 := pre.mono e1
    refine ⟨_, rfl, c, dx, _, rfl, e1 _ _ h1, cF_no_put_feed _ _ _ _ _ _, _, rfl, c, b, av, p, st, fd, rfl, pre1.hC, pre1.hav, SqL.of (e1 _ _ hp), fun H2 kp2 hC2 => ?_⟩
    refine ⟨(by show 1 ≤ sizeLine; decide), fun q hq => ?_⟩
    obtain ⟨o, ho⟩ := pre1.hav
    obtain ⟨w1, w2, w3, w4, w5, w6, g1, g2, g3, g4, g5, g6, g7, ⟨v1, v2, v3⟩, g9⟩ := id hC2
    exact k q _ (((Keep.of e1).trans kp2).trans (Keep.of (same_new hq))) (hC2.mono (same_new hq)) upd_same (ne_of_none (kp2 _ _ ho v1.symm v2.symm) hq).symm
theorem def_set_feed {f : Addr} (h : Here K mg "set_feed" s_set_feed f) (T : Txt K mg C z aA aR tA tO tT) (M_class_count : MethOk P w K mg base C "class_count" 1 (sp_M_class_count K C)) (M_put_feed : MethOk P w K mg base C "put_feed" 1 (sp_M_put_feed K C)) : DefOk P w K mg base "set_feed" 2 (sp_set_feed K C) :=
  mkDef h sc_set_feed b_set_feed (fun vs H Q E h => by obtain ⟨_, _, _, _, _, _, _, rfl, _⟩ := h; rfl) (body_set_feed T M_class_count M_put_feed)
end
end Gs
end P_GsB8
section P_GsB9
set_option Elab.async false
set_option linter.all false
set_option maxRecDepth 100000
set_option maxHeartbeats 4000000
/-! GsB9: calls on a circuit, second part. -/
namespace Gs
open PySem PySem.Spec PyProof.Rows L2
open Kp408 (Circuit)
theorem Done.keep {K : PySem.W.Frag} {C av c b : Addr} {s s' : Circuit} {k : Nat} {res : List Int} {H H1 H2 : Hp} {Q : VK} {p : Addr} {xs : List V} (d : Done K C av c b s' res H Q) (pre : Pre K C av H c b s k) (kp : Keep c b H H1) (hC : CirAt K C av H1 c b s') (e : Same H1 H2) (hp : H1 p = none) (h : H2 p = some (.lst xs)) (hx : xs = res.map V.int) : Q (.ref p) H2 := by
  obtain ⟨o, ho⟩ := pre.hav
  subst hx
  obtain ⟨w1, w2, w3, w4, w5, w6, g1, g2, g3, g4, g5, g6, g7, ⟨v1, v2, v3⟩, g9⟩ := id hC
  exact d p H2 (kp.trans (Keep.of e)) (hC.mono e) h (ne_of_none (kp _ _ ho v1.symm v2.symm) hp).symm
/-- [n] + shown([x]), behind x -/
theorem fin0 {K : PySem.W.Frag} {H1 : Hp} {l p : Addr} {n : Int} {x : Rat} {R : VK} (hl : H1 l = some (.lst [.int n])) (hp : Fr K H1 p x) (hR : ∀ q H2, Same H1 H2 → H1 q = none → H2 q = some (.lst ((n :: nums [x]).map V.int)) → R (.ref q) H2) :
    [V.ref p].length ≤ sizeLine ∧ ∀ l2, H1 l2 = none → sp_shown K [.ref l2] (upd H1 l2 (.lst [.ref p])) (fun y H2 => rCat (.ref l) y H2 R) E0 := by
  refine ⟨(by show 1 ≤ sizeLine; decide), fun l2 hl2 => ?_⟩
  have s1 := same_new (o := .lst [.ref p]) hl2
  refine ⟨l2, [p], [x], rfl, .inl upd_same, ⟨hp.mono s1, trivial⟩, (by show 1 ≤ 5; decide), fun q H2 e2 n2 hq => ?_⟩
  refine ⟨l, q, _, _, rfl, rfl, (s1.trans e2) _ _ hl, hq, nums_len2 [x] (by show 1 ≤ 5; decide) 1 (by decide), fun p3 hp3 => ?_⟩
  exact hR p3 _ ((s1.trans e2).trans (same_new hp3)) ((s1.trans e2).free hp3) upd_same
theorem cut_refs {ps : List Addr} {n : Nat} : cutV (ps.map V.ref) none (some (n : Int)) = (ps.take n).map V.ref := by
  unfold cutV
  rw [HT.sIx_none, HT.sIx_nat, List.drop_zero, Nat.sub_zero, List.length_map, ← List.map_take]
  congr 1
  by_cases h : n ≤ ps.length
  · rw [Nat.min_eq_left h]
  · rw [Nat.min_eq_right (by omega), List.take_length, List.take_of_length_le (by omega)]

section
variable {P : Program} {w : World} {K : PySem.W.Frag} {mg : Str → Option Value} {base : Heap} {C z aA aR tA tO tT : Addr}

abbrev s_load : Stmt := topS 51
theorem sc_load : FnScope ["circuit"] ["circuit"] (defScope s_load) := ⟨rfl, rfl, rfl, by decide +kernel, rfl, by decide +kernel, by decide +kernel⟩
theorem b_load : Bnd "load" "load" s_load ["circuit"] := fun _ _ _ _ _ _ us hl => match us, hl with | [_], _ => rfl
theorem body_load (T : Txt K mg C z aA aR tA tO tT) (M_load : MethOk P w K mg base C "load" 5 (sp_M_load K C)) (D_with_count : DefOk P w K mg base "with_count" 2 (sp_with_count K)) : Body P w K mg base "load" s_load ["circuit"] 5 (sp_0 K C dLoad) := by
  intro f cdv A outer s H vs Q E hr h
  obtain ⟨c, b, av, st, kk, rfl, pre, k⟩ := h
  obtain ⟨dx, fe, a, l, r, bs, h1, h2, h3, h4, h5, h6, h7, h8, h9⟩ := id pre.hC
  refine ⟨_, (pss_one (ps_ret (pe_ifExp (pt_val (pe_methD0 M_load (pv 0) T.cl (hr.mono (by decide)))) (pe_callD D_with_count (hr.mono (by decide)) (by rfl) (pa_cons (pe_fld (pv 0) rfl) pa_nil)) (pe_lst (pa_cons (pe_gint T.c_TOO_LARGE (by rfl)) pa_nil))))), ?_⟩
  refine ⟨_, rfl, c, dx, _, rfl, h1, cF_no_load _ _ _ _ _ _, c, b, av, st, kk, rfl, pre.hC, pre.hav, pre.wf, pre.hk, fun H1 kp hC1 => ⟨_, rfl, ite2 (fun cc => ?_) (fun cc => ?_)⟩⟩
  · obtain ⟨dx, fe, a, l, r, bs, h1, h2, h3, h4, h5, h6, h7, h8, h9⟩ := id hC1
    unfold dLoad at k
    rw [if_pos cc] at k
    refine ⟨_, rfl, c, C, dx, _, _, rfl, h1, T.cl, T.a_amounts, cF_amounts _ _ _ _ _ _, a, _, rfl, h5, (mLoad_wf pre.wf).l5, fun p H2 e2 n2 hp => ?_⟩
    exact Done.keep k pre kp hC1 e2 n2 hp rfl
  · unfold dLoad at k
    rw [if_neg cc] at k
    exact ⟨(by show 1 ≤ sizeLine; decide), fun q hq => Done.keep k pre kp hC1 (same_new hq) hq upd_same rfl⟩
theorem at_load {f : Addr} (h : Here K mg "load" s_load f) (T : Txt K mg C z aA aR tA tO tT) (M_load : MethOk P w K mg base C "load" 5 (sp_M_load K C)) (D_with_count : DefOk P w K mg base "with_count" 2 (sp_with_count K)) : AtOk P w K mg base f 6 (sp_0 K C dLoad) :=
  mkAt h sc_load b_load (fun vs H Q E h => by obtain ⟨_, _, _, _, _, rfl, _⟩ := h; rfl) (body_load T M_load D_with_count)

abbrev s_grind : Stmt := topS 52
theorem sc_grind : FnScope ["circuit"] ["circuit"] (defScope s_grind) := ⟨rfl, rfl, rfl, by decide +kernel, rfl, by decide +kernel, by decide +kernel⟩
theorem b_grind : Bnd "grind" "grind" s_grind ["circuit"] := fun _ _ _ _ _ _ us hl => match us, hl with | [_], _ => rfl
theorem body_grind (T : Txt K mg C z aA aR tA tO tT) (M_grind : MethOk P w K mg base C "grind" 6 (sp_M_grind K C)) (D_with_count : DefOk P w K mg base "with_count" 2 (sp_with_count K)) : Body P w K mg base "grind" s_grind ["circuit"] 6 (sp_0 K C dGrind) := by
  intro f cdv A outer s H vs Q E hr h
  obtain ⟨c, b, av, st, kk, rfl, pre, k⟩ := h
  obtain ⟨dx, fe, a, l, r, bs, h1, h2, h3, h4, h5, h6, h7, h8, h9⟩ := id pre.hC
  refine ⟨_, (pss_one (ps_ret (pe_ifExp (pt_val (pe_methD0 M_grind (pv 0) T.cl (hr.mono (by decide)))) (pe_callD D_with_count (hr.mono (by decide)) (by rfl) (pa_cons (pe_fld (pv 0) rfl) pa_nil)) (pe_lst (pa_cons (pe_gint T.c_TOO_LARGE (by rfl)) pa_nil))))), ?_⟩
  refine ⟨_, rfl, c, dx, _, rfl, h1, cF_no_grind _ _ _ _ _ _, c, b, av, st, kk, rfl, pre.hC, pre.hav, pre.wf, pre.hk, fun H1 kp hC1 => ⟨_, rfl, ite2 (fun cc => ?_) (fun cc => ?_)⟩⟩
  · obtain ⟨dx, fe, a, l, r, bs, h1, h2, h3, h4, h5, h6, h7, h8, h9⟩ := id hC1
    unfold dGrind at k
    rw [if_pos cc] at k
    refine ⟨_, rfl, c, C, dx, _, _, rfl, h1, T.cl, T.a_amounts, cF_amounts _ _ _ _ _ _, a, _, rfl, h5, (mGrind_wf pre.wf).l5, fun p H2 e2 n2 hp => ?_⟩
    exact Done.keep k pre kp hC1 e2 n2 hp rfl
  · unfold dGrind at k
    rw [if_neg cc] at k
    exact ⟨(by show 1 ≤ sizeLine; decide), fun q hq => Done.keep k pre kp hC1 (same_new hq) hq upd_same rfl⟩
theorem at_grind {f : Addr} (h : Here K mg "grind" s_grind f) (T : Txt K mg C z aA aR tA tO tT) (M_grind : MethOk P w K mg base C "grind" 6 (sp_M_grind K C)) (D_with_count : DefOk P w K mg base "with_count" 2 (sp_with_count K)) : AtOk P w K mg base f 7 (sp_0 K C dGrind) :=
  mkAt h sc_grind b_grind (fun vs H Q E h => by obtain ⟨_, _, _, _, _, rfl, _⟩ := h; rfl) (body_grind T M_grind D_with_count)

abbrev s_remove_finer : Stmt := topS 53
theorem sc_remove_finer : FnScope ["circuit", "cut"] ["circuit", "cut"] (defScope s_remove_finer) := ⟨rfl, rfl, rfl, by decide +kernel, rfl, by decide +kernel, by decide +kernel⟩
theorem b_remove_finer : Bnd "remove_finer" "remove_finer" s_remove_finer ["circuit", "cut"] := fun _ _ _ _ _ _ us hl => match us, hl with | [_, _], _ => rfl
theorem body_remove_finer (T : Txt K mg C z aA aR tA tO tT) (D_is_cut : DefOk P w K mg base "is_cut" 2 (sp_is_cut K C)) (M_remove_finer : MethOk P w K mg base C "remove_finer" 5 (sp_M_remove_finer K C)) (D_shown : DefOk P w K mg base "shown" 1 (sp_shown K)) : Body P w K mg base "remove_finer" s_remove_finer ["circuit", "cut"] 5 (sp_1 K C dRemove) := by
  intro f cdv A outer s H vs Q E hr h
  obtain ⟨c, b, av, st, kk, i, rfl, pre, k⟩ := h
  refine ⟨_, (pss_cons (ps_if (pt_not (pt_val (pe_callD D_is_cut (hr.mono (by decide)) (by rfl) (pa_cons (pv 0) (pa_cons (pv 1) pa_nil))))) (pss_one (ps_ret (pe_lst (pa_cons (pe_gint T.c_BAD_ARGUMENT (by rfl)) pa_nil)))) pss_nil)
        (pss_one (ps_ret (pe_op op_cat (pe_lst (pa_cons pe_int pa_nil)) (pe_callD D_shown (hr.mono (by decide)) (by rfl) (pa_cons (pe_lst (pa_cons (pe_methD M_remove_finer (pv 0) T.cl (hr.mono (by decide)) (pa_cons (pv 1) pa_nil)) pa_nil)) pa_nil)))))), ?_⟩
  refine ⟨_, rfl, _, rfl, c, b, av, st, i, rfl, pre.hC, _, rfl, ite2 (fun cc => ?_) (fun cc => ?_)⟩
  · have hi : isCut st i = false := by simpa using cc
    unfold dRemove at k
    rw [hi] at k
    exact ⟨(by show 1 ≤ sizeLine; decide), fun q hq => Done.ret k pre (same_new hq) hq upd_same rfl⟩
  have hi : isCut st i = true := by simpa using cc
  unfold dRemove at k
  rw [hi] at k
  refine ⟨(by show 1 ≤ sizeLine; decide), fun l1 hl1 => ?_⟩
  have s1 := same_new (o := .lst [.int 0]) hl1
  have pre1 := pre.mono s1
  obtain ⟨dx, fe, a, l, r, bs, h1, h2, h3, h4, h5, h6, h7, h8, h9⟩ := id pre1.hC
  refine ⟨_, rfl, c, dx, _, rfl, h1, cF_no_remove_finer _ _ _ _ _ _, _, rfl, c, b, av, st, kk, i, rfl, pre1.hC, pre1.hav, pre1.wf, pre1.hk, fun p H2 kp hC2 hp => ?_⟩
  obtain ⟨w1, w2, w3, w4, w5, w6, g1, g2, g3, g4, g5, g6, g7, g8, g9⟩ := id hC2
  have nlc : l1 ≠ c := fun x => by
    obtain ⟨_, _, _, _, _, _, q1, _⟩ := pre.hC
    rw [← x, hl1] at q1
    cases q1
  have nlb : l1 ≠ b := fun x => by
    obtain ⟨_, _, _, _, _, _, _, q1, _⟩ := pre.hC
    rw [← x, hl1] at q1
    cases q1
  exact fin0 (kp _ _ upd_same nlc nlb) hp fun q H3 e3 n3 h3 => Done.keep k pre ((Keep.of s1).trans kp) hC2 e3 n3 h3 rfl
theorem at_remove_finer {f : Addr} (h : Here K mg "remove_finer" s_remove_finer f) (T : Txt K mg C z aA aR tA tO tT) (D_is_cut : DefOk P w K mg base "is_cut" 2 (sp_is_cut K C)) (M_remove_finer : MethOk P w K mg base C "remove_finer" 5 (sp_M_remove_finer K C)) (D_shown : DefOk P w K mg base "shown" 1 (sp_shown K)) : AtOk P w K mg base f 6 (sp_1 K C dRemove) :=
  mkAt h sc_remove_finer b_remove_finer (fun vs H Q E h => by obtain ⟨_, _, _, _, _, _, rfl, _⟩ := h; rfl) (body_remove_finer T D_is_cut M_remove_finer D_shown)

abbrev s_get_amounts : Stmt := topS 54
theorem sc_get_amounts : FnScope ["circuit"] ["circuit"] (defScope s_get_amounts) := ⟨rfl, rfl, rfl, by decide +kernel, rfl, by decide +kernel, by decide +kernel⟩
theorem b_get_amounts : Bnd "get_amounts" "get_amounts" s_get_amounts ["circuit"] := fun _ _ _ _ _ _ us hl => match us, hl with | [_], _ => rfl
theorem body_get_amounts (T : Txt K mg C z aA aR tA tO tT) (D_with_count : DefOk P w K mg base "with_count" 2 (sp_with_count K)) : Body P w K mg base "get_amounts" s_get_amounts ["circuit"] 2 (sp_0 K C fun s => (s, cnt s.amounts)) := by
  intro f cdv A outer s H vs Q E hr h
  obtain ⟨c, b, av, st, kk, rfl, pre, k⟩ := h
  obtain ⟨dx, fe, a, l, r, bs, h1, h2, h3, h4, h5, h6, h7, h8, h9⟩ := id pre.hC
  refine ⟨_, (pss_one (ps_ret (pe_callD D_with_count (hr.mono (by decide)) (by rfl) (pa_cons (pe_fld (pv 0) rfl) pa_nil)))), ?_⟩
  exact ⟨_, rfl, c, C, dx, _, _, rfl, h1, T.cl, T.a_amounts, cF_amounts _ _ _ _ _ _, a, _, rfl, h5, pre.wf.l5, fun p H2 e2 n2 hp => Done.ret k pre e2 n2 hp rfl⟩
theorem at_get_amounts {f : Addr} (h : Here K mg "get_amounts" s_get_amounts f) (T : Txt K mg C z aA aR tA tO tT) (D_with_count : DefOk P w K mg base "with_count" 2 (sp_with_count K)) : AtOk P w K mg base f 3 (sp_0 K C fun s => (s, cnt s.amounts)) :=
  mkAt h sc_get_amounts b_get_amounts (fun vs H Q E h => by obtain ⟨_, _, _, _, _, rfl, _⟩ := h; rfl) (body_get_amounts T D_with_count)

abbrev s_amount_up_to : Stmt := topS 55
theorem sc_amount_up_to : FnScope ["circuit", "size_class"] ["circuit", "size_class"] (defScope s_amount_up_to) := ⟨rfl, rfl, rfl, by decide +kernel, rfl, by decide +kernel, by decide +kernel⟩
theorem b_amount_up_to : Bnd "amount_up_to" "amount_up_to" s_amount_up_to ["circuit", "size_class"] := fun _ _ _ _ _ _ us hl => match us, hl with | [_, _], _ => rfl
theorem body_amount_up_to (T : Txt K mg C z aA aR tA tO tT) (D_is_class : DefOk P w K mg base "is_class" 2 (sp_is_class K C)) (D_total : DefOk P w K mg base "total" 4 (sp_total K)) (D_shown : DefOk P w K mg base "shown" 1 (sp_shown K)) : Body P w K mg base "amount_up_to" s_amount_up_to ["circuit", "size_class"] 4 (sp_1 K C fun s i => (s, dUpTo s i)) := by
  intro f cdv A outer s H vs Q E hr h
  obtain ⟨c, b, av, st, kk, i, rfl, pre, k⟩ := h
  replace k : Done K C av c b st (dUpTo st i) H Q := k
  refine ⟨_, (pss_cons (ps_if (pt_not (pt_val (pe_callD D_is_class (hr.mono (by decide)) (by rfl) (pa_cons (pv 0) (pa_cons (pv 1) pa_nil))))) (pss_one (ps_ret (pe_lst (pa_cons (pe_gint T.c_NO_CLASS (by rfl)) pa_nil)))) pss_nil)
        (pss_one (ps_ret (pe_op op_cat (pe_lst (pa_cons pe_int pa_nil)) (pe_callD D_shown (hr.mono (by decide)) (by rfl) (pa_cons (pe_lst (pa_cons (pe_callD D_total (hr.mono (by decide)) (by rfl) (pa_cons (pe_slice sl_list (pe_fld (pv 0) rfl) po_none (po_some (pe_op op_add (pv 1) pe_int))) pa_nil)) pa_nil)) pa_nil)))))), ?_⟩
  refine ⟨_, rfl, _, rfl, c, b, av, st, i, rfl, pre.hC, _, rfl, ite2 (fun cc => ?_) (fun cc => ?_)⟩
  · have hi : ¬ i < st.feed.length := by simpa using cc
    unfold dUpTo at k
    rw [if_neg hi] at k
    exact ⟨(by show 1 ≤ sizeLine; decide), fun q hq => Done.ret k pre (same_new hq) hq upd_same rfl⟩
  have hi : i < st.feed.length := by simpa using cc
  unfold dUpTo at k
  rw [if_pos hi] at k
  refine ⟨(by show 1 ≤ sizeLine; decide), fun l1 hl1 => ?_⟩
  have s1 := same_new (o := .lst [.int 0]) hl1
  have pre1 := pre.mono s1
  obtain ⟨dx, fe, a, l, r, bs, h1, h2, h3, h4, ⟨ps, h5, h5'⟩, h6, h7, h8, h9⟩ := id pre1.hC
  refine ⟨_, rfl, c, C, dx, _, _, rfl, h1, T.cl, T.a_amounts, cF_amounts _ _ _ _ _ _, _, rfl, _, _, rfl, rfl, _, rfl, a, _, rfl, SqL.of h5, fun q hq => ?_⟩
  have s2 := same_new (o := .lst ((ps.take (i + 1)).map V.ref)) hq
  have ec : cutV (ps.map V.ref) none (some ((i : Int) + 1)) = (ps.take (i + 1)).map V.ref := cut_refs (n := i + 1)
  rw [ec]
  refine ⟨q, st.amounts.take (i + 1), rfl, ⟨_, upd_same, (h5'.take (i + 1)).mono s2⟩, Sums.of (b := 780) (fun x hx => pre.wf.sz pre.hk x (List.mem_of_mem_take hx)) (Nat.le_trans (List.length_take_le' _ _) pre.wf.l5) (by decide), fun p H2 e2 f2 => ?_⟩
  exact fin0 ((s2.trans e2) _ _ upd_same) f2 fun q3 H3 e3 n3 h3 => Done.ret k pre ((s1.trans (s2.trans e2)).trans e3) ((s1.trans (s2.trans e2)).free n3) h3 rfl
theorem at_amount_up_to {f : Addr} (h : Here K mg "amount_up_to" s_amount_up_to f) (T : Txt K mg C z aA aR tA tO tT) (D_is_class : DefOk P w K mg base "is_class" 2 (sp_is_class K C)) (D_total : DefOk P w K mg base "total" 4 (sp_total K)) (D_shown : DefOk P w K mg base "shown" 1 (sp_shown K)) : AtOk P w K mg base f 5 (sp_1 K C fun s i => (s, dUpTo s i)) :=
  mkAt h sc_amount_up_to b_amount_up_to (fun vs H Q E h => by obtain ⟨_, _, _, _, _, _, rfl, _⟩ := h; rfl) (body_amount_up_to T D_is_class D_total D_shown)

abbrev s_preview_grind : Stmt := topS 56
theorem sc_preview_grind : FnScope ["circuit", "passes"] ["circuit", "passes"] (defScope s_preview_grind) := ⟨rfl, rfl, rfl, by decide +kernel, rfl, by decide +kernel, by decide +kernel⟩
theorem b_preview_grind : Bnd "preview_grind" "preview_grind" s_preview_grind ["circuit", "passes"] := fun _ _ _ _ _ _ us hl => match us, hl with | [_, _], _ => rfl
theorem body_preview_grind (T : Txt K mg C z aA aR tA tO tT) (D_passes_done : DefOk P w K mg base "passes_done" 6 (sp_passes_done K)) (D_with_count : DefOk P w K mg base "with_count" 2 (sp_with_count K)) : Body P w K mg base "preview_grind" s_preview_grind ["circuit", "passes"] 6 (sp_1 K C fun s i => (s, dPreview s i)) := by
  intro f cdv A outer s H vs Q E hr h
  obtain ⟨c, b, av, st, kk, i, rfl, pre, k⟩ := h
  replace k : Done K C av c b st (dPreview st i) H Q := k
  refine ⟨_, (pss_cons (ps_if (pt_cmpR op_gt (pv 1) (pe_gint T.c_MOST_TURNS (by rfl)) (nomark _)) (pss_one (ps_ret (pe_lst (pa_cons (pe_gint T.c_BAD_ARGUMENT (by rfl)) pa_nil)))) pss_nil)
        (pss_one (ps_ret (pe_callD D_with_count (hr.mono (by decide)) (by rfl) (pa_cons (pe_callD D_passes_done (hr.mono (by decide)) (by rfl) (pa_cons (pe_fld (pv 0) rfl) (pa_cons (pe_fld (pv 0) rfl) (pa_cons (pv 1) pa_nil)))) pa_nil))))), ?_⟩
  refine ⟨_, rfl, _, _, rfl, rfl, _, rfl, ite2 (fun cc => ?_) (fun cc => ?_)⟩
  · have hi : (12 : Int) < (i : Int) := of_decide_eq_true cc
    unfold dPreview at k
    rw [if_pos (by omega)] at k
    exact ⟨(by show 1 ≤ sizeLine; decide), fun q hq => Done.ret k pre (same_new hq) hq upd_same rfl⟩
  have hi : ¬ (12 : Int) < (i : Int) := fun q => cc (decide_eq_true q)
  unfold dPreview at k
  rw [if_neg (by omega)] at k
  obtain ⟨dx, fe, a, l, r, bs, h1, h2, h3, h4, h5, h6, h7, h8, h9⟩ := id pre.hC
  refine ⟨_, rfl, c, C, dx, _, _, rfl, h1, T.cl, T.a_breakage, cF_breakage _ _ _ _ _ _, _, rfl, c, C, dx, _, _, rfl, h1, T.cl, T.a_amounts, cF_amounts _ _ _ _ _ _, _, rfl, b, a, st.breakage, st.amounts, i, rfl, ⟨bs, h2, h3⟩, h5, pre.wf.wfa, by omega, fun j hj x hx => (passes_sz pre.wf pre.hk j (by omega) x hx).mono (by decide), fun p H2 e2 n2 f2 => ?_⟩
  exact ⟨p, _, rfl, f2, by rw [passes_len]; exact pre.wf.l5, fun q H3 e3 n3 h3 => Done.ret k pre (e2.trans e3) (e2.free n3) h3 rfl⟩
theorem at_preview_grind {f : Addr} (h : Here K mg "preview_grind" s_preview_grind f) (T : Txt K mg C z aA aR tA tO tT) (D_passes_done : DefOk P w K mg base "passes_done" 6 (sp_passes_done K)) (D_with_count : DefOk P w K mg base "with_count" 2 (sp_with_count K)) : AtOk P w K mg base f 7 (sp_1 K C fun s i => (s, dPreview s i)) :=
  mkAt h sc_preview_grind b_preview_grind (fun vs H Q E h => by obtain ⟨_, _, _, _, _, _, rfl, _⟩ := h; rfl) (body_preview_grind T D_passes_done D_with_count)

theorem Pre.rows {av : Addr} {H : Hp} {c b : Addr} {s : Circuit} {k : Nat} (p : Pre K C av H c b s k) : Rows H b s.breakage := by
  obtain ⟨dx, fe, a, l, r, bs, h1, h2, h3, h4, h5, h6, h7, h8, h9⟩ := id p.hC
  exact ⟨bs, h2, h3⟩
theorem cut_of {s : Circuit} {i : Nat} (h : isCut s i = true) : 1 ≤ i ∧ i < s.feed.length := by
  unfold isCut at h
  simpa using h
abbrev s_steady_refusal : Stmt := topS 57
theorem sc_steady_refusal : FnScope ["circuit", "cut"] ["circuit", "cut"] (defScope s_steady_refusal) := ⟨rfl, rfl, rfl, by decide +kernel, rfl, by decide +kernel, by decide +kernel⟩
theorem b_steady_refusal : Bnd "steady_refusal" "steady_refusal" s_steady_refusal ["circuit", "cut"] := fun _ _ _ _ _ _ us hl => match us, hl with | [_, _], _ => rfl
theorem body_steady_refusal (T : Txt K mg C z aA aR tA tO tT) (D_is_cut : DefOk P w K mg base "is_cut" 2 (sp_is_cut K C)) (D_is_steady : DefOk P w K mg base "is_steady" 1 sp_is_steady) : Body P w K mg base "steady_refusal" s_steady_refusal ["circuit", "cut"] 2 (sp_refusal K C) := by
  intro f cdv A outer s H vs Q E hr h
  obtain ⟨c, b, av, st, kk, i, rfl, pre, k⟩ := h
  refine ⟨_, (pss_cons (ps_if (pt_not (pt_val (pe_callD D_is_cut (hr.mono (by decide)) (by rfl) (pa_cons (pv 0) (pa_cons (pv 1) pa_nil))))) (pss_one (ps_ret (pe_lst (pa_cons (pe_gint T.c_BAD_ARGUMENT (by rfl)) pa_nil)))) pss_nil)
        (pss_one (ps_ret (pe_ifExp (pt_val (pe_callD D_is_steady (hr.mono (by decide)) (by rfl) (pa_cons (pe_fld (pv 0) rfl) (pa_cons (pv 1) pa_nil)))) (pe_lst pa_nil) (pe_lst (pa_cons (pe_gint T.c_NO_SUCH (by rfl)) pa_nil)))))), ?_⟩
  refine ⟨_, rfl, _, rfl, c, b, av, st, i, rfl, pre.hC, _, rfl, ite2 (fun cc => ?_) (fun cc => ?_)⟩
  · have hi : isCut st i = false := by simpa using cc
    unfold refusal at k
    rw [hi] at k
    exact ⟨(by show 1 ≤ sizeLine; decide), fun q hq => k q _ (same_new hq) hq upd_same⟩
  have hi : isCut st i = true := by simpa using cc
  unfold refusal at k
  rw [hi] at k
  obtain ⟨dx, fe, a, l, r, bs, h1, h2, h3, h4, h5, h6, h7, h8, h9⟩ := id pre.hC
  refine ⟨_, rfl, c, C, dx, _, _, rfl, h1, T.cl, T.a_breakage, cF_breakage _ _ _ _ _ _, _, rfl, b, st.breakage, _, i, rfl, pre.rows, pre.wf.wf, Nat.le_of_lt (cut_of hi).2, fun H1 e1 => ⟨_, rfl, ite2 (fun cc => ?_) (fun cc => ?_)⟩⟩
  · rw [cc] at k
    exact ⟨Nat.zero_le _, fun q hq => k q _ (e1.trans (same_new hq)) (e1.free hq) upd_same⟩
  · rw [Bool.eq_false_iff.mpr cc] at k
    exact ⟨(by show 1 ≤ sizeLine; decide), fun q hq => k q _ (e1.trans (same_new hq)) (e1.free hq) upd_same⟩
theorem def_steady_refusal {f : Addr} (h : Here K mg "steady_refusal" s_steady_refusal f) (T : Txt K mg C z aA aR tA tO tT) (D_is_cut : DefOk P w K mg base "is_cut" 2 (sp_is_cut K C)) (D_is_steady : DefOk P w K mg base "is_steady" 1 sp_is_steady) : DefOk P w K mg base "steady_refusal" 3 (sp_refusal K C) :=
  mkDef h sc_steady_refusal b_steady_refusal (fun vs H Q E h => by obtain ⟨_, _, _, _, _, _, rfl, _⟩ := h; rfl) (body_steady_refusal T D_is_cut D_is_steady)

abbrev s_has_steady_state : Stmt := topS 58
theorem sc_has_steady_state : FnScope ["circuit", "cut"] ["circuit", "cut"] (defScope s_has_steady_state) := ⟨rfl, rfl, rfl, by decide +kernel, rfl, by decide +kernel, by decide +kernel⟩
theorem b_has_steady_state : Bnd "has_steady_state" "has_steady_state" s_has_steady_state ["circuit", "cut"] := fun _ _ _ _ _ _ us hl => match us, hl with | [_, _], _ => rfl
theorem body_has_steady_state (T : Txt K mg C z aA aR tA tO tT) (D_is_cut : DefOk P w K mg base "is_cut" 2 (sp_is_cut K C)) (D_is_steady : DefOk P w K mg base "is_steady" 1 sp_is_steady) : Body P w K mg base "has_steady_state" s_has_steady_state ["circuit", "cut"] 2 (sp_1 K C fun s i => (s, dHas s i)) := by
  intro f cdv A outer s H vs Q E hr h
  obtain ⟨c, b, av, st, kk, i, rfl, pre, k⟩ := h
  replace k : Done K C av c b st (dHas st i) H Q := k
  refine ⟨_, (pss_cons (ps_if (pt_not (pt_val (pe_callD D_is_cut (hr.mono (by decide)) (by rfl) (pa_cons (pv 0) (pa_cons (pv 1) pa_nil))))) (pss_one (ps_ret (pe_lst (pa_cons (pe_gint T.c_BAD_ARGUMENT (by rfl)) pa_nil)))) pss_nil)
        (pss_one (ps_ret (pe_lst (pa_cons (pe_callTy call_int1 (by rfl) T.n_int (by decide +kernel) (pa_cons (pe_callD D_is_steady (hr.mono (by decide)) (by rfl) (pa_cons (pe_fld (pv 0) rfl) (pa_cons (pv 1) pa_nil))) pa_nil)) pa_nil))))), ?_⟩
  refine ⟨_, rfl, _, rfl, c, b, av, st, i, rfl, pre.hC, _, rfl, ite2 (fun cc => ?_) (fun cc => ?_)⟩
  · have hi : isCut st i = false := by simpa using cc
    unfold dHas at k
    rw [hi] at k
    exact ⟨(by show 1 ≤ sizeLine; decide), fun q hq => Done.ret k pre (same_new hq) hq upd_same rfl⟩
  have hi : isCut st i = true := by simpa using cc
  unfold dHas at k
  rw [hi] at k
  obtain ⟨dx, fe, a, l, r, bs, h1, h2, h3, h4, h5, h6, h7, h8, h9⟩ := id pre.hC
  refine ⟨_, rfl, c, C, dx, _, _, rfl, h1, T.cl, T.a_breakage, cF_breakage _ _ _ _ _ _, _, rfl, b, st.breakage, _, i, rfl, pre.rows, pre.wf.wf, Nat.le_of_lt (cut_of hi).2, fun H1 e1 => ?_⟩
  refine .inr ⟨_, rfl, (by show 1 ≤ sizeLine; decide), fun q hq => Done.ret k pre (e1.trans (same_new hq)) (e1.free hq) upd_same rfl⟩
theorem at_has_steady_state {f : Addr} (h : Here K mg "has_steady_state" s_has_steady_state f) (T : Txt K mg C z aA aR tA tO tT) (D_is_cut : DefOk P w K mg base "is_cut" 2 (sp_is_cut K C)) (D_is_steady : DefOk P w K mg base "is_steady" 1 sp_is_steady) : AtOk P w K mg base f 3 (sp_1 K C fun s i => (s, dHas s i)) :=
  mkAt h sc_has_steady_state b_has_steady_state (fun vs H Q E h => by obtain ⟨_, _, _, _, _, _, rfl, _⟩ := h; rfl) (body_has_steady_state T D_is_cut D_is_steady)
end
end Gs
end P_GsB9
section P_GsB10
set_option Elab.async false
set_option linter.all false
set_option maxRecDepth 100000
set_option maxHeartbeats 4000000
/-! GsB10: calls on a circuit, third part. -/
namespace Gs
open PySem PySem.Spec PyProof.Rows L2
open Kp408 (Circuit)
theorem refusal_is (s : Circuit) (i : Nat) : refusal s i = [] ∨ refusal s i = [-22] ∨ refusal s i = [-33] := by
  unfold refusal
  split
  · split
    · exact .inl rfl
    · exact .inr (.inr rfl)
  · exact .inr (.inl rfl)
theorem ne_ref {K : PySem.W.Frag} {H : Hp} {p l : Addr} {res : List Int} {Q : VK} (hres : res = [] ∨ res = [-22] ∨ res = [-33]) (hp : H p = some (.lst (res.map V.int))) (hl : H l = some (.lst [])) (q : Q (.bl (!decide (res = []))) H) : rNeD K (.ref p) (.ref l) H Q := by
  rcases hres with rfl | rfl | rfl
  · exact ⟨.list [], .list [], .lst (SqL.of hp) .nil, .lst (SqL.of hl) .nil, by decide +kernel, by decide +kernel, q⟩
  · exact ⟨.list [.int (-22)], .list [], .lst (SqL.of hp) (.cons (.int _) .nil), .lst (SqL.of hl) .nil, by decide +kernel, by decide +kernel, q⟩
  · exact ⟨.list [.int (-33)], .list [], .lst (SqL.of hp) (.cons (.int _) .nil), .lst (SqL.of hl) .nil, by decide +kernel, by decide +kernel, q⟩
theorem ref_nil {s : Circuit} {i : Nat} (h : refusal s i = []) : isCut s i = true ∧ isSteady s.breakage i = true := by
  unfold refusal at h
  split at h
  · rename_i c
    split at h
    · rename_i d
      exact ⟨c, d⟩
    · cases h
  · cases h
theorem told_no {s : Circuit} {i : Nat} {l : List Int} (h : ¬ refusal s i = []) : told s i l = refusal s i := by rw [told_eq, if_neg h]
theorem told_yes {s : Circuit} {i : Nat} {l : List Int} (h : refusal s i = []) : told s i l = l := by rw [told_eq, if_pos h]

section
variable {P : Program} {w : World} {K : PySem.W.Frag} {mg : Str → Option Value} {base : Heap} {C z aA aR tA tO tT : Addr}
theorem Pre.stAt {av : Addr} {H : Hp} {c b dx fe a l r : Addr} {n : Int} {s : Circuit} {k i : Nat} (p : Pre K C av H c b s k) (hf : H fe = some (.lst (natL s.feed))) (h : refusal s i = []) : StAt H b fe s.breakage s.feed i :=
  ⟨p.rows, hf, p.wf.wf, p.wf.fl, (cut_of (ref_nil h).1).1, (cut_of (ref_nil h).1).2, (ref_nil h).2⟩

abbrev s_tell_input : Stmt := topS 59
theorem sc_tell_input : FnScope ["circuit", "cut", "refusal"] ["circuit", "cut"] (defScope s_tell_input) := ⟨rfl, rfl, rfl, by decide +kernel, rfl, by decide +kernel, by decide +kernel⟩
theorem b_tell_input : Bnd "tell_input" "tell_input" s_tell_input ["circuit", "cut"] := fun _ _ _ _ _ _ us hl => match us, hl with | [_, _], _ => rfl
theorem body_tell_input (T : Txt K mg C z aA aR tA tO tT) (D_steady_refusal : DefOk P w K mg base "steady_refusal" 3 (sp_refusal K C)) (D_with_count : DefOk P w K mg base "with_count" 2 (sp_with_count K)) (D_steady_input : DefOk P w K mg base "steady_input" 5 (sp_steady_input K)) : Body P w K mg base "tell_input" s_tell_input ["circuit", "cut", "refusal"] 5 (sp_1 K C fun s i => (s, dInput s i)) := by
  intro f cdv A outer s H vs Q E hr h
  obtain ⟨c, b, av, st, kk, i, rfl, pre, k⟩ := h
  replace k : Done K C av c b st (dInput st i) H Q := k
  refine ⟨_, (pss_cons (ps_set (i := 2) sc_tell_input.nd rfl (Or.inl rfl) (pe_callD D_steady_refusal (hr.mono (by decide)) (by rfl) (pa_cons (pv 0) (pa_cons (pv 1) pa_nil))))
        (pss_cons (ps_if (pt_cmpR (op_neD hr.units) (pv 2) (pe_lst pa_nil) (nomark _)) (pss_one (ps_ret (pv 2))) pss_nil)
        (pss_one (ps_ret (pe_callD D_with_count (hr.mono (by decide)) (by rfl) (pa_cons (pe_callD D_steady_input (hr.mono (by decide)) (by rfl) (pa_cons (pe_fld (pv 0) rfl) (pa_cons (pe_fld (pv 0) rfl) (pa_cons (pv 1) pa_nil)))) pa_nil)))))), ?_⟩
  refine ⟨_, rfl, _, rfl, c, b, av, st, kk, i, rfl, pre, fun p H1 e1 n1 hp => ?_⟩
  refine ⟨_, rfl, Nat.zero_le _, fun l hl => ne_ref (refusal_is st i) ((same_new hl) _ _ hp) upd_same ⟨_, rfl, ite2 (fun cc => ?_) (fun cc => ?_)⟩⟩
  · have hn : ¬ refusal st i = [] := by simpa using cc
    unfold dInput at k
    rw [told_no hn] at k
    exact ⟨_, rfl, Done.ret k pre (e1.trans (same_new hl)) n1 ((same_new hl) _ _ hp) rfl⟩
  have hn : refusal st i = [] := by simpa using cc
  unfold dInput at k
  rw [told_yes hn] at k
  have s1 := e1.trans (same_new (o := .lst []) hl)
  have pre1 := pre.mono s1
  obtain ⟨dx, fe, a, l, r, bs, h1, h2, h3, h4, h5, h6, h7, h8, h9⟩ := id pre1.hC
  have S := pre1.stAt (dx := dx) (fe := fe) (a := a) (l := l) (r := r) (n := 0) h4 hn
  refine ⟨_, rfl, c, C, dx, _, _, rfl, h1, T.cl, T.a_breakage, cF_breakage _ _ _ _ _ _, _, rfl, c, C, dx, _, _, rfl, h1, T.cl, T.a_feed, cF_feed _ _ _ _ _ _, _, rfl, b, fe, st.breakage, st.feed, i, rfl, S, fun p2 H2 e2 n2 f2 => ?_⟩
  exact ⟨p2, _, rfl, f2, by rw [stIn_len (Nat.le_of_lt S.c2)]; exact S.wf.hi, fun q H3 e3 n3 h3 => Done.ret k pre ((s1.trans e2).trans e3) ((s1.trans e2).free n3) h3 rfl⟩
theorem at_tell_input {f : Addr} (h : Here K mg "tell_input" s_tell_input f) (T : Txt K mg C z aA aR tA tO tT) (D_steady_refusal : DefOk P w K mg base "steady_refusal" 3 (sp_refusal K C)) (D_with_count : DefOk P w K mg base "with_count" 2 (sp_with_count K)) (D_steady_input : DefOk P w K mg base "steady_input" 5 (sp_steady_input K)) : AtOk P w K mg base f 6 (sp_1 K C fun s i => (s, dInput s i)) :=
  mkAt h sc_tell_input b_tell_input (fun vs H Q E h => by obtain ⟨_, _, _, _, _, _, rfl, _⟩ := h; rfl) (body_tell_input T D_steady_refusal D_with_count D_steady_input)

abbrev s_tell_product : Stmt := topS 60
theorem sc_tell_product : FnScope ["circuit", "cut", "refusal"] ["circuit", "cut"] (defScope s_tell_product) := ⟨rfl, rfl, rfl, by decide +kernel, rfl, by decide +kernel, by decide +kernel⟩
theorem b_tell_product : Bnd "tell_product" "tell_product" s_tell_product ["circuit", "cut"] := fun _ _ _ _ _ _ us hl => match us, hl with | [_, _], _ => rfl
theorem body_tell_product (T : Txt K mg C z aA aR tA tO tT) (D_steady_refusal : DefOk P w K mg base "steady_refusal" 3 (sp_refusal K C)) (D_with_count : DefOk P w K mg base "with_count" 2 (sp_with_count K)) (D_steady_product : DefOk P w K mg base "steady_product" 6 (sp_steady_product K)) : Body P w K mg base "tell_product" s_tell_product ["circuit", "cut", "refusal"] 6 (sp_1 K C fun s i => (s, dProduct s i)) := by
  intro f cdv A outer s H vs Q E hr h
  obtain ⟨c, b, av, st, kk, i, rfl, pre, k⟩ := h
  replace k : Done K C av c b st (dProduct st i) H Q := k
  refine ⟨_, (pss_cons (ps_set (i := 2) sc_tell_product.nd rfl (Or.inl rfl) (pe_callD D_steady_refusal (hr.mono (by decide)) (by rfl) (pa_cons (pv 0) (pa_cons (pv 1) pa_nil))))
        (pss_cons (ps_if (pt_cmpR (op_neD hr.units) (pv 2) (pe_lst pa_nil) (nomark _)) (pss_one (ps_ret (pv 2))) pss_nil)
        (pss_one (ps_ret (pe_callD D_with_count (hr.mono (by decide)) (by rfl) (pa_cons (pe_callD D_steady_product (hr.mono (by decide)) (by rfl) (pa_cons (pe_fld (pv 0) rfl) (pa_cons (pe_fld (pv 0) rfl) (pa_cons (pv 1) pa_nil)))) pa_nil)))))), ?_⟩
  refine ⟨_, rfl, _, rfl, c, b, av, st, kk, i, rfl, pre, fun p H1 e1 n1 hp => ?_⟩
  refine ⟨_, rfl, Nat.zero_le _, fun l hl => ne_ref (refusal_is st i) ((same_new hl) _ _ hp) upd_same ⟨_, rfl, ite2 (fun cc => ?_) (fun cc => ?_)⟩⟩
  · have hn : ¬ refusal st i = [] := by simpa using cc
    unfold dProduct at k
    rw [told_no hn] at k
    exact ⟨_, rfl, Done.ret k pre (e1.trans (same_new hl)) n1 ((same_new hl) _ _ hp) rfl⟩
  have hn : refusal st i = [] := by simpa using cc
  unfold dProduct at k
  rw [told_yes hn] at k
  have s1 := e1.trans (same_new (o := .lst []) hl)
  have pre1 := pre.mono s1
  obtain ⟨dx, fe, a, l, r, bs, h1, h2, h3, h4, h5, h6, h7, h8, h9⟩ := id pre1.hC
  have S := pre1.stAt (dx := dx) (fe := fe) (a := a) (l := l) (r := r) (n := 0) h4 hn
  refine ⟨_, rfl, c, C, dx, _, _, rfl, h1, T.cl, T.a_breakage, cF_breakage _ _ _ _ _ _, _, rfl, c, C, dx, _, _, rfl, h1, T.cl, T.a_feed, cF_feed _ _ _ _ _ _, _, rfl, b, fe, st.breakage, st.feed, i, rfl, S, fun p2 H2 e2 n2 f2 => ?_⟩
  exact ⟨p2, _, rfl, f2, by rw [under_len, pass_len, stIn_len (Nat.le_of_lt S.c2)]; exact S.wf.hi, fun q H3 e3 n3 h3 => Done.ret k pre ((s1.trans e2).trans e3) ((s1.trans e2).free n3) h3 rfl⟩
theorem at_tell_product {f : Addr} (h : Here K mg "tell_product" s_tell_product f) (T : Txt K mg C z aA aR tA tO tT) (D_steady_refusal : DefOk P w K mg base "steady_refusal" 3 (sp_refusal K C)) (D_with_count : DefOk P w K mg base "with_count" 2 (sp_with_count K)) (D_steady_product : DefOk P w K mg base "steady_product" 6 (sp_steady_product K)) : AtOk P w K mg base f 7 (sp_1 K C fun s i => (s, dProduct s i)) :=
  mkAt h sc_tell_product b_tell_product (fun vs H Q E h => by obtain ⟨_, _, _, _, _, _, rfl, _⟩ := h; rfl) (body_tell_product T D_steady_refusal D_with_count D_steady_product)

abbrev s_tell_load : Stmt := topS 61
theorem sc_tell_load : FnScope ["circuit", "cut", "refusal"] ["circuit", "cut"] (defScope s_tell_load) := ⟨rfl, rfl, rfl, by decide +kernel, rfl, by decide +kernel, by decide +kernel⟩
theorem b_tell_load : Bnd "tell_load" "tell_load" s_tell_load ["circuit", "cut"] := fun _ _ _ _ _ _ us hl => match us, hl with | [_, _], _ => rfl
theorem body_tell_load (T : Txt K mg C z aA aR tA tO tT) (D_steady_refusal : DefOk P w K mg base "steady_refusal" 3 (sp_refusal K C)) (D_shown : DefOk P w K mg base "shown" 1 (sp_shown K)) (D_steady_load : DefOk P w K mg base "steady_load" 6 (sp_steady_load K)) : Body P w K mg base "tell_load" s_tell_load ["circuit", "cut", "refusal"] 6 (sp_1 K C fun s i => (s, dSLoad s i)) := by
  intro f cdv A outer s H vs Q E hr h
  obtain ⟨c, b, av, st, kk, i, rfl, pre, k⟩ := h
  replace k : Done K C av c b st (dSLoad st i) H Q := k
  refine ⟨_, (pss_cons (ps_set (i := 2) sc_tell_load.nd rfl (Or.inl rfl) (pe_callD D_steady_refusal (hr.mono (by decide)) (by rfl) (pa_cons (pv 0) (pa_cons (pv 1) pa_nil))))
        (pss_cons (ps_if (pt_cmpR (op_neD hr.units) (pv 2) (pe_lst pa_nil) (nomark _)) (pss_one (ps_ret (pv 2))) pss_nil)
        (pss_one (ps_ret (pe_op op_cat (pe_lst (pa_cons pe_int pa_nil)) (pe_callD D_shown (hr.mono (by decide)) (by rfl) (pa_cons (pe_lst (pa_cons (pe_callD D_steady_load (hr.mono (by decide)) (by rfl) (pa_cons (pe_fld (pv 0) rfl) (pa_cons (pe_fld (pv 0) rfl) (pa_cons (pv 1) pa_nil)))) pa_nil)) pa_nil))))))), ?_⟩
  refine ⟨_, rfl, _, rfl, c, b, av, st, kk, i, rfl, pre, fun p H1 e1 n1 hp => ?_⟩
  refine ⟨_, rfl, Nat.zero_le _, fun l hl => ne_ref (refusal_is st i) ((same_new hl) _ _ hp) upd_same ⟨_, rfl, ite2 (fun cc => ?_) (fun cc => ?_)⟩⟩
  · have hn : ¬ refusal st i = [] := by simpa using cc
    unfold dSLoad at k
    rw [told_no hn] at k
    exact ⟨_, rfl, Done.ret k pre (e1.trans (same_new hl)) n1 ((same_new hl) _ _ hp) rfl⟩
  have hn : refusal st i = [] := by simpa using cc
  unfold dSLoad at k
  rw [told_yes hn] at k
  refine ⟨(by show 1 ≤ sizeLine; decide), fun l0 hl0 => ?_⟩
  have s1 := (e1.trans (same_new (o := .lst []) hl)).trans (same_new (o := .lst [.int 0]) hl0)
  have pre1 := pre.mono s1
  obtain ⟨dx, fe, a, l, r, bs, h1, h2, h3, h4, h5, h6, h7, h8, h9⟩ := id pre1.hC
  have S := pre1.stAt (dx := dx) (fe := fe) (a := a) (l := l) (r := r) (n := 0) h4 hn
  refine ⟨_, rfl, c, C, dx, _, _, rfl, h1, T.cl, T.a_breakage, cF_breakage _ _ _ _ _ _, _, rfl, c, C, dx, _, _, rfl, h1, T.cl, T.a_feed, cF_feed _ _ _ _ _ _, _, rfl, b, fe, st.breakage, st.feed, i, rfl, S, fun p2 H2 e2 f2 => ?_⟩
  exact fin0 (e2 _ _ upd_same) f2 fun q3 H3 e3 n3 h3 => Done.ret k pre ((s1.trans e2).trans e3) ((s1.trans e2).free n3) h3 rfl
theorem at_tell_load {f : Addr} (h : Here K mg "tell_load" s_tell_load f) (T : Txt K mg C z aA aR tA tO tT) (D_steady_refusal : DefOk P w K mg base "steady_refusal" 3 (sp_refusal K C)) (D_shown : DefOk P w K mg base "shown" 1 (sp_shown K)) (D_steady_load : DefOk P w K mg base "steady_load" 6 (sp_steady_load K)) : AtOk P w K mg base f 7 (sp_1 K C fun s i => (s, dSLoad s i)) :=
  mkAt h sc_tell_load b_tell_load (fun vs H Q E h => by obtain ⟨_, _, _, _, _, _, rfl, _⟩ := h; rfl) (body_tell_load T D_steady_refusal D_shown D_steady_load)

abbrev s_load_ratio : Stmt := topS 62
theorem sc_load_ratio : FnScope ["circuit", "cut", "refusal"] ["circuit", "cut"] (defScope s_load_ratio) := ⟨rfl, rfl, rfl, by decide +kernel, rfl, by decide +kernel, by decide +kernel⟩
theorem b_load_ratio : Bnd "load_ratio" "load_ratio" s_load_ratio ["circuit", "cut"] := fun _ _ _ _ _ _ us hl => match us, hl with | [_, _], _ => rfl
theorem body_load_ratio (T : Txt K mg C z aA aR tA tO tT) (D_steady_refusal : DefOk P w K mg base "steady_refusal" 3 (sp_refusal K C)) (D_shown : DefOk P w K mg base "shown" 1 (sp_shown K)) (D_times : DefOk P w K mg base "times" 3 (sp_times K)) (D_steady_load : DefOk P w K mg base "steady_load" 6 (sp_steady_load K)) : Body P w K mg base "load_ratio" s_load_ratio ["circuit", "cut", "refusal"] 6 (sp_1 K C fun s i => (s, dRatio s i)) := by
  intro f cdv A outer s H vs Q E hr h
  obtain ⟨c, b, av, st, kk, i, rfl, pre, k⟩ := h
  replace k : Done K C av c b st (dRatio st i) H Q := k
  refine ⟨_, (pss_cons (ps_set (i := 2) sc_load_ratio.nd rfl (Or.inl rfl) (pe_callD D_steady_refusal (hr.mono (by decide)) (by rfl) (pa_cons (pv 0) (pa_cons (pv 1) pa_nil))))
        (pss_cons (ps_if (pt_cmpR (op_neD hr.units) (pv 2) (pe_lst pa_nil) (nomark _)) (pss_one (ps_ret (pv 2))) pss_nil)
        (pss_cons (ps_if (pt_cmpR op_eq (pe_callB (cr_sum rfl) (by rfl) T.n_sum (by decide +kernel) (pa_cons (pe_fld (pv 0) rfl) pa_nil)) pe_int (nomark _)) (pss_one (ps_ret (pe_lst (pa_cons (pe_gint T.c_NOTHING_THERE (by rfl)) pa_nil)))) pss_nil)
        (pss_one (ps_ret (pe_op op_cat (pe_lst (pa_cons pe_int pa_nil)) (pe_callD D_shown (hr.mono (by decide)) (by rfl) (pa_cons (pe_lst (pa_cons (pe_callD D_times (hr.mono (by decide)) (by rfl) (pa_cons (pe_callD D_steady_load (hr.mono (by decide)) (by rfl) (pa_cons (pe_fld (pv 0) rfl) (pa_cons (pe_fld (pv 0) rfl) (pa_cons (pv 1) pa_nil)))) (pa_cons pe_int (pa_cons (pe_callB (cr_sum rfl) (by rfl) T.n_sum (by decide +kernel) (pa_cons (pe_fld (pv 0) rfl) pa_nil)) pa_nil)))) pa_nil)) pa_nil)))))))), ?_⟩
  refine ⟨_, rfl, _, rfl, c, b, av, st, kk, i, rfl, pre, fun p H1 e1 n1 hp => ?_⟩
  refine ⟨_, rfl, Nat.zero_le _, fun l hl => ne_ref (refusal_is st i) ((same_new hl) _ _ hp) upd_same ⟨_, rfl, ite2 (fun cc => ?_) (fun cc => ?_)⟩⟩
  · have hn : ¬ refusal st i = [] := by simpa using cc
    unfold dRatio at k
    rw [told_no hn] at k
    exact ⟨_, rfl, Done.ret k pre (e1.trans (same_new hl)) n1 ((same_new hl) _ _ hp) rfl⟩
  have hn : refusal st i = [] := by simpa using cc
  unfold dRatio at k
  rw [told_yes hn] at k
  have s0 := e1.trans (same_new (o := .lst []) hl)
  have pre0 := pre.mono s0
  obtain ⟨dx0, fe0, a0, l0, r0, bs0, g1, g2, g3, g4, g5, g6, g7, g8, g9⟩ := id pre0.hC
  refine ⟨_, rfl, c, C, dx0, _, _, rfl, g1, T.cl, T.a_feed, cF_feed _ _ _ _ _ _, fe0, _, rfl, SqL.of g4, rfl, _, rfl, ite2 (fun cc => ?_) (fun cc => ?_)⟩
  · have e0 : st.feed.sum = 0 := by
      have q := of_decide_eq_true cc
      injection q with q
      rw [isum] at q
      omega
    rw [if_pos e0] at k
    exact ⟨(by show 1 ≤ sizeLine; decide), fun q hq => Done.ret k pre (s0.trans (same_new hq)) (s0.free hq) upd_same rfl⟩
  have e0 : ¬ st.feed.sum = 0 := fun q => cc (decide_eq_true (by rw [isum, q]; rfl))
  rw [if_neg e0] at k
  refine ⟨(by show 1 ≤ sizeLine; decide), fun l0 hl0 => ?_⟩
  have s1 := s0.trans (same_new (o := .lst [.int 0]) hl0)
  have pre1 := pre.mono s1
  obtain ⟨dx, fe, a, l, r, bs, h1, h2, h3, h4, h5, h6, h7, h8, h9⟩ := id pre1.hC
  have S := pre1.stAt (dx := dx) (fe := fe) (a := a) (l := l) (r := r) (n := 0) h4 hn
  refine ⟨_, rfl, c, C, dx, _, _, rfl, h1, T.cl, T.a_breakage, cF_breakage _ _ _ _ _ _, _, rfl, c, C, dx, _, _, rfl, h1, T.cl, T.a_feed, cF_feed _ _ _ _ _ _, _, rfl, b, fe, st.breakage, st.feed, i, rfl, S, fun p2 H2 e2 f2 => ?_⟩
  refine ⟨_, rfl, c, C, dx, _, _, rfl, e2 _ _ h1, T.cl, T.a_feed, cF_feed _ _ _ _ _ _, fe, _, rfl, SqL.of (e2 _ _ h4), ?_⟩
  have q1 := feed_sum pre.wf.fl
  have q2 := pre.wf.wf.hi
  refine ⟨p2, _, 1, st.feed.sum, by rw [isum]; rfl, f2, (stIn_sums S).all, by decide, by omega, Nat.lt_of_le_of_lt (by omega : st.feed.sum ≤ 500) (by decide), fun p3 H3 e3 f3 => ?_⟩
  exact fin0 ((e2.trans e3) _ _ upd_same) f3 fun q3 H4 e4 n4 h4 => Done.ret k pre ((s1.trans (e2.trans e3)).trans e4) ((s1.trans (e2.trans e3)).free n4) h4 rfl
theorem at_load_ratio {f : Addr} (h : Here K mg "load_ratio" s_load_ratio f) (T : Txt K mg C z aA aR tA tO tT) (D_steady_refusal : DefOk P w K mg base "steady_refusal" 3 (sp_refusal K C)) (D_shown : DefOk P w K mg base "shown" 1 (sp_shown K)) (D_times : DefOk P w K mg base "times" 3 (sp_times K)) (D_steady_load : DefOk P w K mg base "steady_load" 6 (sp_steady_load K)) : AtOk P w K mg base f 7 (sp_1 K C fun s i => (s, dRatio s i)) :=
  mkAt h sc_load_ratio b_load_ratio (fun vs H Q E h => by obtain ⟨_, _, _, _, _, _, rfl, _⟩ := h; rfl) (body_load_ratio T D_steady_refusal D_shown D_times D_steady_load)

abbrev s_simulate_rounds : Stmt := topS 63
theorem sc_simulate_rounds : FnScope ["circuit", "cut", "rounds"] ["circuit", "cut", "rounds"] (defScope s_simulate_rounds) := ⟨rfl, rfl, rfl, by decide +kernel, rfl, by decide +kernel, by decide +kernel⟩
theorem b_simulate_rounds : Bnd "simulate_rounds" "simulate_rounds" s_simulate_rounds ["circuit", "cut", "rounds"] := fun _ _ _ _ _ _ us hl => match us, hl with | [_, _, _], _ => rfl
theorem body_simulate_rounds (T : Txt K mg C z aA aR tA tO tT) (D_is_cut : DefOk P w K mg base "is_cut" 2 (sp_is_cut K C)) (D_shown : DefOk P w K mg base "shown" 1 (sp_shown K)) (D_rounds_done : DefOk P w K mg base "rounds_done" 6 (sp_rounds_done K)) : Body P w K mg base "simulate_rounds" s_simulate_rounds ["circuit", "cut", "rounds"] 6 (sp_2 K C fun s i j => (s, dRounds s i j)) := by
  intro f cdv A outer s H vs Q E hr h
  obtain ⟨c, b, av, st, kk, i, j, rfl, pre, k⟩ := h
  replace k : Done K C av c b st (dRounds st i j) H Q := k
  refine ⟨_, (pss_cons (ps_if (PW.pt (pw_or (pt_not (pt_val (pe_callD D_is_cut (hr.mono (by decide)) (by rfl) (pa_cons (pv 0) (pa_cons (pv 1) pa_nil))))) (pw_or1 (pt_cmpR op_gt (pv 2) (pe_gint T.c_MOST_TURNS (by rfl)) (nomark _))))) (pss_one (ps_ret (pe_lst (pa_cons (pe_gint T.c_BAD_ARGUMENT (by rfl)) pa_nil)))) pss_nil)
        (pss_one (ps_ret (pe_op op_cat (pe_lst (pa_cons pe_int pa_nil)) (pe_callD D_shown (hr.mono (by decide)) (by rfl) (pa_cons (pe_callD D_rounds_done (hr.mono (by decide)) (by rfl) (pa_cons (pe_fld (pv 0) rfl) (pa_cons (pe_fld (pv 0) rfl) (pa_cons (pv 1) (pa_cons (pv 2) pa_nil))))) pa_nil)))))), ?_⟩
  refine ⟨_, rfl, _, rfl, c, b, av, st, i, rfl, pre.hC, _, rfl, ite2 (fun cc => iteT ?_) (fun cc => ?_)⟩
  · have hi : isCut st i = false := by simpa using cc
    unfold dRounds at k
    rw [if_neg (fun q => by rw [q.1] at hi; cases hi)] at k
    exact ⟨(by show 1 ≤ sizeLine; decide), fun q hq => Done.ret k pre (same_new hq) hq upd_same rfl⟩
  have hi : isCut st i = true := by simpa using cc
  refine ⟨_, rfl, _, _, rfl, rfl, _, rfl, ite2 (fun cc => ?_) (fun cc => ?_)⟩
  · have hj : (12 : Int) < (j : Int) := of_decide_eq_true cc
    unfold dRounds at k
    rw [if_neg (fun q => by have := q.2; omega)] at k
    exact ⟨(by show 1 ≤ sizeLine; decide), fun q hq => Done.ret k pre (same_new hq) hq upd_same rfl⟩
  have hj : ¬ (12 : Int) < (j : Int) := fun q => cc (decide_eq_true q)
  unfold dRounds at k
  rw [if_pos ⟨hi, by omega⟩] at k
  refine ⟨(by show 1 ≤ sizeLine; decide), fun l0 hl0 => ?_⟩
  have s1 := same_new (o := .lst [.int 0]) hl0
  have pre1 := pre.mono s1
  obtain ⟨dx, fe, a, l, r, bs, h1, h2, h3, h4, h5, h6, h7, h8, h9⟩ := id pre1.hC
  refine ⟨_, rfl, c, C, dx, _, _, rfl, h1, T.cl, T.a_breakage, cF_breakage _ _ _ _ _ _, _, rfl, c, C, dx, _, _, rfl, h1, T.cl, T.a_feed, cF_feed _ _ _ _ _ _, _, rfl, _, rfl, b, fe, st.breakage, st.feed, i, j, rfl, pre1.rows, h4, pre.wf.wf, pre.wf.fl, by omega, rdOk pre.wf.wf pre.wf.fl i, fun p q r H2 e2 hp hq hr2 => ?_⟩
  refine ⟨p, [q, r], [_, _], rfl, .inr hp, ⟨hq, hr2, trivial⟩, (by show 2 ≤ 5; decide), fun q2 H3 e3 n3 h3 => ?_⟩
  refine ⟨l0, q2, _, _, rfl, rfl, (e2.trans e3) _ _ upd_same, h3, nums_len2 _ (by show 2 ≤ 5; decide) 1 (by decide), fun p3 hp3 => ?_⟩
  exact Done.ret k pre (((s1.trans e2).trans e3).trans (same_new hp3)) (((s1.trans e2).trans e3).free hp3) upd_same rfl
theorem at_simulate_rounds {f : Addr} (h : Here K mg "simulate_rounds" s_simulate_rounds f) (T : Txt K mg C z aA aR tA tO tT) (D_is_cut : DefOk P w K mg base "is_cut" 2 (sp_is_cut K C)) (D_shown : DefOk P w K mg base "shown" 1 (sp_shown K)) (D_rounds_done : DefOk P w K mg base "rounds_done" 6 (sp_rounds_done K)) : AtOk P w K mg base f 7 (sp_2 K C fun s i j => (s, dRounds s i j)) :=
  mkAt h sc_simulate_rounds b_simulate_rounds (fun vs H Q E h => by obtain ⟨_, _, _, _, _, _, _, rfl, _⟩ := h; rfl) (body_simulate_rounds T D_is_cut D_shown D_rounds_done)

abbrev s_totals : Stmt := topS 64
theorem sc_totals : FnScope ["circuit"] ["circuit"] (defScope s_totals) := ⟨rfl, rfl, rfl, by decide +kernel, rfl, by decide +kernel, by decide +kernel⟩
theorem b_totals : Bnd "totals" "totals" s_totals ["circuit"] := fun _ _ _ _ _ _ us hl => match us, hl with | [_], _ => rfl
theorem body_totals (T : Txt K mg C z aA aR tA tO tT) (M_present : MethOk P w K mg base C "present" 5 (sp_M_present K C)) (D_shown : DefOk P w K mg base "shown" 1 (sp_shown K)) : Body P w K mg base "totals" s_totals ["circuit"] 5 (sp_0 K C fun s => (s, dTotals s)) := by
  intro f cdv A outer s H vs Q E hr h
  obtain ⟨c, b, av, st, kk, rfl, pre, k⟩ := h
  replace k : Done K C av c b st (dTotals st) H Q := k
  obtain ⟨dx0, fe0, a0, l0, r0, bs0, g1, g2, g3, g4, g5, g6, g7, g8, g9⟩ := id pre.hC
  refine ⟨_, (pss_one (ps_ret (pe_op op_cat (pe_lst (pa_cons (pe_fld (pv 0) rfl) pa_nil)) (pe_callD D_shown (hr.mono (by decide)) (by rfl) (pa_cons (pe_lst (pa_cons (pe_fld (pv 0) rfl) (pa_cons (pe_fld (pv 0) rfl) (pa_cons (pe_methD0 M_present (pv 0) T.cl (hr.mono (by decide))) pa_nil)))) pa_nil))))), ?_⟩
  refine ⟨_, rfl, c, C, dx0, _, _, rfl, g1, T.cl, T.a_pass_count, cF_pass_count _ _ _ _ _ _, (by show 1 ≤ sizeLine; decide), fun l1 hl1 => ?_⟩
  have s1 := same_new (o := .lst [.int ((st.passes : Nat) : Int)]) hl1
  have pre1 := pre.mono s1
  obtain ⟨dx, fe, a, l, r, bs, h1, h2, h3, h4, h5, h6, h7, h8, h9⟩ := id pre1.hC
  refine ⟨_, rfl, c, C, dx, _, _, rfl, h1, T.cl, T.a_loaded, cF_loaded _ _ _ _ _ _, _, rfl, c, C, dx, _, _, rfl, h1, T.cl, T.a_removed, cF_removed _ _ _ _ _ _, _, rfl, c, dx, _, rfl, h1, cF_no_present _ _ _ _ _ _, c, b, av, st, kk, rfl, pre1.hC, pre1.wf, pre1.hk, fun p H2 e2 f2 => ?_⟩
  refine ⟨(by show 3 ≤ sizeLine; decide), fun l2 hl2 => ?_⟩
  have s2 := same_new (o := .lst [.ref l, .ref r, .ref p]) hl2
  refine ⟨l2, [l, r, p], [st.loaded, st.removed, st.amounts.sum], rfl, .inl upd_same, ⟨h6.mono (e2.trans s2), h7.mono (e2.trans s2), f2.mono s2, trivial⟩, (by show 3 ≤ 5; decide), fun q2 H3 e3 n3 h3 => ?_⟩
  refine ⟨l1, q2, _, _, rfl, rfl, ((e2.trans s2).trans e3) _ _ upd_same, h3, nums_len2 _ (by show 3 ≤ 5; decide) 1 (by decide), fun p3 hp3 => ?_⟩
  have s9 := s1.trans ((e2.trans s2).trans e3)
  exact Done.ret k pre (s9.trans (same_new hp3)) (s9.free hp3) upd_same rfl
theorem at_totals {f : Addr} (h : Here K mg "totals" s_totals f) (T : Txt K mg C z aA aR tA tO tT) (M_present : MethOk P w K mg base C "present" 5 (sp_M_present K C)) (D_shown : DefOk P w K mg base "shown" 1 (sp_shown K)) : AtOk P w K mg base f 6 (sp_0 K C fun s => (s, dTotals s)) :=
  mkAt h sc_totals b_totals (fun vs H Q E h => by obtain ⟨_, _, _, _, _, rfl, _⟩ := h; rfl) (body_totals T M_present D_shown)

abbrev s_passes_needed : Stmt := topS 65
theorem sc_passes_needed : FnScope ["circuit", "num", "den", "found"] ["circuit", "num", "den"] (defScope s_passes_needed) := ⟨rfl, rfl, rfl, by decide +kernel, rfl, by decide +kernel, by decide +kernel⟩
theorem b_passes_needed : Bnd "passes_needed" "passes_needed" s_passes_needed ["circuit", "num", "den"] := fun _ _ _ _ _ _ us hl => match us, hl with | [_, _, _], _ => rfl
theorem body_passes_needed (T : Txt K mg C z aA aR tA tO tT) (M_present : MethOk P w K mg base C "present" 5 (sp_M_present K C)) (M_passes_needed : MethOk P w K mg base C "passes_needed" 6 (sp_M_passes_needed K C)) : Body P w K mg base "passes_needed" s_passes_needed ["circuit", "num", "den", "found"] 6 (sp_2 K C fun s i j => (s, dNeeded s i j)) := by
  intro f cdv A outer s H vs Q E hr h
  obtain ⟨c, b, av, st, kk, m, d, rfl, pre, k⟩ := h
  replace k : Done K C av c b st (dNeeded st m d) H Q := k
  obtain ⟨dx, fe, a, l, r, bs, h1, h2, h3, h4, h5, h6, h7, h8, h9⟩ := id pre.hC
  refine ⟨_, (pss_cons (ps_if (PW.pt (pw_or (pt_not (pt_chain op_le op_le pe_int (pv 2) (pe_gint T.c_MOST_SHARE (by rfl)))) (pw_or1 (pt_cmpR op_gt (pv 1) (pv 2) (nomark _))))) (pss_one (ps_ret (pe_lst (pa_cons (pe_gint T.c_BAD_ARGUMENT (by rfl)) pa_nil)))) pss_nil)
        (pss_cons (ps_if (pt_cmpR op_eq (pe_ix ix_tup (pe_methD0 M_present (pv 0) T.cl (hr.mono (by decide))) pe_int (fun _ _ => rfl)) pe_int (nomark _)) (pss_one (ps_ret (pe_lst (pa_cons (pe_gint T.c_NOTHING_THERE (by rfl)) pa_nil)))) pss_nil)
        (pss_cons (ps_set (i := 3) sc_passes_needed.nd rfl (Or.inl rfl) (pe_methD M_passes_needed (pv 0) T.cl (hr.mono (by decide)) (pa_cons (pv 1) (pa_cons (pv 2) pa_nil))))
        (pss_one (ps_ret (pe_ifExp (pt_cmpR op_le (pv 3) (pe_gint T.c_MOST_TURNS (by rfl)) (nomark _)) (pe_lst (pa_cons (pv 3) pa_nil)) (pe_lst (pa_cons (pe_gint T.c_NO_SUCH (by rfl)) pa_nil)))))))), ?_⟩
  have bad : ¬ ((1 ≤ d ∧ d ≤ 100) ∧ m ≤ d) → [V.int (-22)].length ≤ sizeLine ∧ ∀ p, H p = none → Q (.ref p) (upd H p (.lst [.int (-22)])) := fun hn => by
    unfold dNeeded at k
    rw [if_neg hn] at k
    exact ⟨(by show 1 ≤ sizeLine; decide), fun q hq => Done.ret k pre (same_new hq) hq upd_same rfl⟩
  refine ⟨_, rfl, _, _, rfl, rfl, _, rfl, ite2 (fun c1 => ?_) (fun c1 => ?_)⟩
  rotate_left
  · have hd : ¬ (1 : Int) ≤ (d : Int) := fun q => c1 (decide_eq_true q)
    refine ⟨_, rfl, iteT (iteT ?_)⟩
    exact bad (by omega)
  have hd1 : (1 : Int) ≤ (d : Int) := of_decide_eq_true c1
  refine ⟨_, _, rfl, rfl, _, rfl, ite2 (fun c2 => iteT ?_) (fun c2 => ?_)⟩
  · have hd : ¬ (d : Int) ≤ 100 := by simpa using c2
    exact bad (by omega)
  have hd2 : (d : Int) ≤ 100 := by simpa using c2
  refine ⟨_, rfl, _, rfl, _, _, rfl, rfl, _, rfl, ite2 (fun c3 => ?_) (fun c3 => ?_)⟩
  · have hd : (d : Int) < (m : Int) := of_decide_eq_true c3
    exact bad (by omega)
  have hm : ¬ (d : Int) < (m : Int) := fun q => c3 (decide_eq_true q)
  unfold dNeeded at k
  rw [if_pos ⟨⟨by omega, by omega⟩, by omega⟩] at k
  refine ⟨_, rfl, c, dx, _, rfl, h1, cF_no_present _ _ _ _ _ _, c, b, av, st, kk, rfl, pre.hC, pre.wf, pre.hk, fun p1 H1 e1 f1 => ?_⟩
  refine ⟨p1, _, _, _, rfl, rfl, f1, at_of (j := 0) rfl rfl, rfl, _, rfl, ite2 (fun c4 => ?_) (fun c4 => ?_)⟩
  · have e0 : st.amounts.sum.num.toNat = 0 := by
      have q := of_decide_eq_true c4
      injection q with q
      omega
    rw [if_pos e0] at k
    exact ⟨(by show 1 ≤ sizeLine; decide), fun q hq => Done.ret k pre (e1.trans (same_new hq)) (e1.free hq) upd_same rfl⟩
  have e0 : ¬ st.amounts.sum.num.toNat = 0 := fun q => c4 (decide_eq_true (by rw [q]; rfl))
  rw [if_neg e0] at k
  have pre1 := pre.mono e1
  refine ⟨_, rfl, c, dx, _, rfl, e1 _ _ h1, cF_no_passes_needed _ _ _ _ _ _, _, rfl, _, rfl, c, b, av, st, kk, m, d, rfl, pre1.hC, pre1.wf, pre1.hk, by omega, by omega, by omega, fun H2 e2 => ?_⟩
  have s2 := e1.trans e2
  refine ⟨_, rfl, _, _, rfl, rfl, _, rfl, ite2 (fun c5 => ?_) (fun c5 => ?_)⟩
  · have q5 : ((needed st m d : Nat) : Int) ≤ 12 := of_decide_eq_true c5
    rw [if_pos (by omega)] at k
    exact ⟨_, rfl, (by show 1 ≤ sizeLine; decide), fun q hq => Done.ret k pre (s2.trans (same_new hq)) (s2.free hq) upd_same rfl⟩
  · have q5 : ¬ ((needed st m d : Nat) : Int) ≤ 12 := fun q => c5 (decide_eq_true q)
    rw [if_neg (by omega)] at k
    exact ⟨(by show 1 ≤ sizeLine; decide), fun q hq => Done.ret k pre (s2.trans (same_new hq)) (s2.free hq) upd_same rfl⟩
theorem at_passes_needed {f : Addr} (h : Here K mg "passes_needed" s_passes_needed f) (T : Txt K mg C z aA aR tA tO tT) (M_present : MethOk P w K mg base C "present" 5 (sp_M_present K C)) (M_passes_needed : MethOk P w K mg base C "passes_needed" 6 (sp_M_passes_needed K C)) : AtOk P w K mg base f 7 (sp_2 K C fun s i j => (s, dNeeded s i j)) :=
  mkAt h sc_passes_needed b_passes_needed (fun vs H Q E h => by obtain ⟨_, _, _, _, _, _, _, rfl, _⟩ := h; rfl) (body_passes_needed T M_present M_passes_needed)

abbrev s_coarsest_cut : Stmt := topS 66
theorem sc_coarsest_cut : FnScope ["circuit", "num", "den", "found"] ["circuit", "num", "den"] (defScope s_coarsest_cut) := ⟨rfl, rfl, rfl, by decide +kernel, rfl, by decide +kernel, by decide +kernel⟩
theorem b_coarsest_cut : Bnd "coarsest_cut" "coarsest_cut" s_coarsest_cut ["circuit", "num", "den"] := fun _ _ _ _ _ _ us hl => match us, hl with | [_, _, _], _ => rfl
theorem body_coarsest_cut (T : Txt K mg C z aA aR tA tO tT) (D_coarsest : DefOk P w K mg base "coarsest" 7 (sp_coarsest K)) : Body P w K mg base "coarsest_cut" s_coarsest_cut ["circuit", "num", "den", "found"] 7 (sp_2 K C fun s i j => (s, dCoarse s i j)) := by
  intro f cdv A outer s H vs Q E hr h
  obtain ⟨c, b, av, st, kk, m, d, rfl, pre, k⟩ := h
  replace k : Done K C av c b st (dCoarse st m d) H Q := k
  obtain ⟨dx, fe, a, l, r, bs, h1, h2, h3, h4, h5, h6, h7, h8, h9⟩ := id pre.hC
  refine ⟨_, (pss_cons (ps_if (PW.pt (pw_or (pt_cmpR op_gt (pv 1) (pe_gint T.c_MOST_LOAD (by rfl)) (nomark _)) (pw_or1 (pt_not (pt_chain op_le op_le pe_int (pv 2) (pe_gint T.c_MOST_LOAD_PART (by rfl))))))) (pss_one (ps_ret (pe_lst (pa_cons (pe_gint T.c_BAD_ARGUMENT (by rfl)) pa_nil)))) pss_nil)
        (pss_cons (ps_set (i := 3) sc_coarsest_cut.nd rfl (Or.inl rfl) (pe_callD D_coarsest (hr.mono (by decide)) (by rfl) (pa_cons (pe_fld (pv 0) rfl) (pa_cons (pe_fld (pv 0) rfl) (pa_cons (pe_tup (pa_cons (pv 1) (pa_cons (pv 2) pa_nil))) pa_nil)))))
        (pss_one (ps_ret (pe_ifExp (pt_cmpR op_gt (pv 3) pe_int (nomark _)) (pe_lst (pa_cons (pv 3) pa_nil)) (pe_lst (pa_cons (pe_gint T.c_NO_SUCH (by rfl)) pa_nil))))))), ?_⟩
  have bad : ¬ (m ≤ 999 ∧ (1 ≤ d ∧ d ≤ 99)) → [V.int (-22)].length ≤ sizeLine ∧ ∀ p, H p = none → Q (.ref p) (upd H p (.lst [.int (-22)])) := fun hn => by
    unfold dCoarse at k
    rw [if_neg hn] at k
    exact ⟨(by show 1 ≤ sizeLine; decide), fun q hq => Done.ret k pre (same_new hq) hq upd_same rfl⟩
  refine ⟨_, rfl, _, _, rfl, rfl, _, rfl, ite2 (fun c1 => iteT ?_) (fun c1 => ?_)⟩
  · have hd : (999 : Int) < (m : Int) := of_decide_eq_true c1
    exact bad (by omega)
  have hm : ¬ (999 : Int) < (m : Int) := fun q => c1 (decide_eq_true q)
  refine ⟨_, rfl, _, _, rfl, rfl, _, rfl, ite2 (fun c2 => ?_) (fun c2 => ?_)⟩
  rotate_left
  · have hd : ¬ (1 : Int) ≤ (d : Int) := fun q => c2 (decide_eq_true q)
    refine ⟨_, rfl, iteT ?_⟩
    exact bad (by omega)
  have hd1 : (1 : Int) ≤ (d : Int) := of_decide_eq_true c2
  refine ⟨_, _, rfl, rfl, _, rfl, ite2 (fun c3 => ?_) (fun c3 => ?_)⟩
  · have hd : ¬ (d : Int) ≤ 99 := by simpa using c3
    exact bad (by omega)
  have hd2 : (d : Int) ≤ 99 := by simpa using c3
  unfold dCoarse at k
  rw [if_pos ⟨by omega, by omega, by omega⟩] at k
  refine ⟨_, rfl, c, C, dx, _, _, rfl, h1, T.cl, T.a_breakage, cF_breakage _ _ _ _ _ _, _, rfl, c, C, dx, _, _, rfl, h1, T.cl, T.a_feed, cF_feed _ _ _ _ _ _, _, rfl, _, rfl, (by show 2 ≤ sizeLine; decide), fun t ht => ?_⟩
  have s1 := same_new (o := .tup [.int (m : Int), .int (d : Int)]) ht
  refine ⟨b, fe, t, st.breakage, st.feed, m, d, rfl, (pre.rows).mono s1, s1 _ _ h4, upd_same, pre.wf.wf, pre.wf.fl, Nat.lt_of_le_of_lt (by omega : m ≤ 999) (by decide), Nat.lt_of_le_of_lt (by omega : d ≤ 99) (by decide), fun H2 e2 => ?_⟩
  have s2 := s1.trans e2
  refine ⟨_, rfl, _, _, rfl, rfl, _, rfl, ite2 (fun c5 => ?_) (fun c5 => ?_)⟩
  · have q5 : (0 : Int) < ((coarse st.breakage st.feed m d : Nat) : Int) := of_decide_eq_true c5
    rw [if_pos (by omega)] at k
    exact ⟨_, rfl, (by show 1 ≤ sizeLine; decide), fun q hq => Done.ret k pre (s2.trans (same_new hq)) (s2.free hq) upd_same rfl⟩
  · have q5 : ¬ (0 : Int) < ((coarse st.breakage st.feed m d : Nat) : Int) := fun q => c5 (decide_eq_true q)
    rw [if_neg (by omega)] at k
    exact ⟨(by show 1 ≤ sizeLine; decide), fun q hq => Done.ret k pre (s2.trans (same_new hq)) (s2.free hq) upd_same rfl⟩
theorem at_coarsest_cut {f : Addr} (h : Here K mg "coarsest_cut" s_coarsest_cut f) (T : Txt K mg C z aA aR tA tO tT) (D_coarsest : DefOk P w K mg base "coarsest" 7 (sp_coarsest K)) : AtOk P w K mg base f 8 (sp_2 K C fun s i j => (s, dCoarse s i j)) :=
  mkAt h sc_coarsest_cut b_coarsest_cut (fun vs H Q E h => by obtain ⟨_, _, _, _, _, _, _, rfl, _⟩ := h; rfl) (body_coarsest_cut T D_coarsest)

abbrev s_get_feed : Stmt := topS 67
theorem sc_get_feed : FnScope ["circuit"] ["circuit"] (defScope s_get_feed) := ⟨rfl, rfl, rfl, by decide +kernel, rfl, by decide +kernel, by decide +kernel⟩
theorem b_get_feed : Bnd "get_feed" "get_feed" s_get_feed ["circuit"] := fun _ _ _ _ _ _ us hl => match us, hl with | [_], _ => rfl
theorem body_get_feed (T : Txt K mg C z aA aR tA tO tT) (M_class_count : MethOk P w K mg base C "class_count" 1 (sp_M_class_count K C)) : Body P w K mg base "get_feed" s_get_feed ["circuit"] 1 (sp_0 K C fun s => (s, dFeed s)) := by
  intro f cdv A outer s H vs Q E hr h
  obtain ⟨c, b, av, st, kk, rfl, pre, k⟩ := h
  replace k : Done K C av c b st (dFeed st) H Q := k
  obtain ⟨dx, fe, a, l, r, bs, h1, h2, h3, h4, h5, h6, h7, h8, h9⟩ := id pre.hC
  refine ⟨_, (pss_one (ps_ret (pe_op op_cat (pe_lst (pa_cons (pe_methD0 M_class_count (pv 0) T.cl (hr.mono (by decide))) pa_nil)) (pe_fld (pv 0) rfl)))), ?_⟩
  refine ⟨_, rfl, c, dx, _, rfl, h1, cF_no_class_count _ _ _ _ _ _, c, b, av, st, rfl, pre.hC, (by show 1 ≤ sizeLine; decide), fun l1 hl1 => ?_⟩
  have s1 := same_new (o := .lst [.int ((st.feed.length : Nat) : Int)]) hl1
  refine ⟨_, rfl, c, C, dx, _, _, rfl, s1 _ _ h1, T.cl, T.a_feed, cF_feed _ _ _ _ _ _, l1, fe, _, _, rfl, rfl, upd_same, s1 _ _ h4, ?_, fun p hp => Done.ret k pre (s1.trans (same_new hp)) (s1.free hp) upd_same rfl⟩
  rw [natL_len]
  have := pre.wf.wf.hi
  exact Nat.le_trans (by show 1 + st.feed.length ≤ 7; omega : _ ≤ 7) (by decide)
theorem at_get_feed {f : Addr} (h : Here K mg "get_feed" s_get_feed f) (T : Txt K mg C z aA aR tA tO tT) (M_class_count : MethOk P w K mg base C "class_count" 1 (sp_M_class_count K C)) : AtOk P w K mg base f 2 (sp_0 K C fun s => (s, dFeed s)) :=
  mkAt h sc_get_feed b_get_feed (fun vs H Q E h => by obtain ⟨_, _, _, _, _, rfl, _⟩ := h; rfl) (body_get_feed T M_class_count)
end
end Gs
end P_GsB10
section P_GsB11
set_option Elab.async false
set_option linter.all false
set_option maxRecDepth 100000
set_option maxHeartbeats 4000000
/-! GsB11: a call done. -/
namespace Gs
open PySem PySem.Spec PyProof.Rows L2
open Kp408 (Circuit)
/-- the tables of the top -/
structure Tabs (P : Program) (w : World) (K : PySem.W.Frag) (mg : Str → Option Value) (base : Heap) (C tA tO tT : Addr) : Prop where
  kA : KTab K tA
  kO : KTab K tO
  kT : KTab K tT
  a4 : ∃ f, tabAt K tA 4 = some (.ref f) ∧ AtOk P w K mg base f 8 (sp_0 K C dLoad)
  a5 : ∃ f, tabAt K tA 5 = some (.ref f) ∧ AtOk P w K mg base f 8 (sp_0 K C dGrind)
  a7 : ∃ f, tabAt K tA 7 = some (.ref f) ∧ AtOk P w K mg base f 8 (sp_0 K C (fun s => (s, cnt s.amounts)))
  a16 : ∃ f, tabAt K tA 16 = some (.ref f) ∧ AtOk P w K mg base f 8 (sp_0 K C (fun s => (s, dTotals s)))
  a19 : ∃ f, tabAt K tA 19 = some (.ref f) ∧ AtOk P w K mg base f 8 (sp_0 K C (fun s => (s, dFeed s)))
  o2 : ∃ f, tabAt K tO 2 = some (.ref f) ∧ AtOk P w K mg base f 8 (sp_1 K C (fun s i => (s, dGetBreakage s i)))
  o6 : ∃ f, tabAt K tO 6 = some (.ref f) ∧ AtOk P w K mg base f 8 (sp_1 K C dRemove)
  o8 : ∃ f, tabAt K tO 8 = some (.ref f) ∧ AtOk P w K mg base f 8 (sp_1 K C (fun s i => (s, dUpTo s i)))
  o9 : ∃ f, tabAt K tO 9 = some (.ref f) ∧ AtOk P w K mg base f 8 (sp_1 K C (fun s i => (s, dPreview s i)))
  o10 : ∃ f, tabAt K tO 10 = some (.ref f) ∧ AtOk P w K mg base f 8 (sp_1 K C (fun s i => (s, dHas s i)))
  o11 : ∃ f, tabAt K tO 11 = some (.ref f) ∧ AtOk P w K mg base f 8 (sp_1 K C (fun s i => (s, dInput s i)))
  o12 : ∃ f, tabAt K tO 12 = some (.ref f) ∧ AtOk P w K mg base f 8 (sp_1 K C (fun s i => (s, dProduct s i)))
  o13 : ∃ f, tabAt K tO 13 = some (.ref f) ∧ AtOk P w K mg base f 8 (sp_1 K C (fun s i => (s, dSLoad s i)))
  o14 : ∃ f, tabAt K tO 14 = some (.ref f) ∧ AtOk P w K mg base f 8 (sp_1 K C (fun s i => (s, dRatio s i)))
  t15 : ∃ f, tabAt K tT 15 = some (.ref f) ∧ AtOk P w K mg base f 8 (sp_2 K C (fun s i j => (s, dRounds s i j)))
  t17 : ∃ f, tabAt K tT 17 = some (.ref f) ∧ AtOk P w K mg base f 8 (sp_2 K C (fun s i j => (s, dNeeded s i j)))
  t18 : ∃ f, tabAt K tT 18 = some (.ref f) ∧ AtOk P w K mg base f 8 (sp_2 K C (fun s i j => (s, dCoarse s i j)))
  nA2 : tabAt K tA 2 = none
  nA6 : tabAt K tA 6 = none
  nA8 : tabAt K tA 8 = none
  nA9 : tabAt K tA 9 = none
  nA10 : tabAt K tA 10 = none
  nA11 : tabAt K tA 11 = none
  nA12 : tabAt K tA 12 = none
  nA13 : tabAt K tA 13 = none
  nA14 : tabAt K tA 14 = none
  nA15 : tabAt K tA 15 = none
  nA17 : tabAt K tA 17 = none
  nA18 : tabAt K tA 18 = none
  nO15 : tabAt K tO 15 = none
  nO17 : tabAt K tO 17 = none
  nO18 : tabAt K tO 18 = none
/-- which table serves a call -/
def InA (P : Program) (w : World) (K : PySem.W.Frag) (mg : Str → Option Value) (base : Heap) (C tA : Addr) (n : Nat) (as r : List Nat) : Prop := ∃ (f : Addr) (g : Circuit → Circuit × List Int), tabAt K tA (n : Int) = some (.ref f) ∧ AtOk P w K mg base f 8 (sp_0 K C g) ∧ ∀ s, dCall s n as r = g s
def InO (P : Program) (w : World) (K : PySem.W.Frag) (mg : Str → Option Value) (base : Heap) (C tA tO : Addr) (n : Nat) (as r : List Nat) : Prop := tabAt K tA (n : Int) = none ∧ ∃ (f : Addr) (g : Circuit → Nat → Circuit × List Int) (i : Nat), as = [i] ∧ tabAt K tO (n : Int) = some (.ref f) ∧ AtOk P w K mg base f 8 (sp_1 K C g) ∧ ∀ s, dCall s n as r = g s i
def InT (P : Program) (w : World) (K : PySem.W.Frag) (mg : Str → Option Value) (base : Heap) (C tA tO tT : Addr) (n : Nat) (as r : List Nat) : Prop := tabAt K tA (n : Int) = none ∧ tabAt K tO (n : Int) = none ∧ ∃ (f : Addr) (g : Circuit → Nat → Nat → Circuit × List Int) (i j : Nat), as = [i, j] ∧ tabAt K tT (n : Int) = some (.ref f) ∧ AtOk P w K mg base f 8 (sp_2 K C g) ∧ ∀ s, dCall s n as r = g s i j
theorem len0 {as : List Nat} (h : as.length = 0) : as = [] := List.length_eq_zero_iff.mp h
theorem len1 {as : List Nat} (h : as.length = 1) : ∃ i, as = [i] := match as, h with | [i], _ => ⟨i, rfl⟩
theorem len2 {as : List Nat} (h : as.length = 2) : ∃ i j, as = [i, j] := match as, h with | [i, j], _ => ⟨i, j, rfl⟩
theorem classify {P : Program} {w : World} {K : PySem.W.Frag} {mg : Str → Option Value} {base : Heap} {C tA tO tT : Addr} (B : Tabs P w K mg base C tA tO tT) {c : Cl} (h : c.Ok) (h0 : c.num ≠ 0) (h1 : c.num ≠ 1) (h3 : c.num ≠ 3) :
    InA P w K mg base C tA c.num c.as c.rw ∨ InO P w K mg base C tA tO c.num c.as c.rw ∨ InT P w K mg base C tA tO tT c.num c.as c.rw := by
  obtain ⟨n, as, r⟩ := c
  obtain ⟨hn, ha, _, _⟩ := h
  dsimp only at hn ha h0 h1 h3 ⊢
  have cs : n = 2 ∨ n = 4 ∨ n = 5 ∨ n = 6 ∨ n = 7 ∨ n = 8 ∨ n = 9 ∨ n = 10 ∨ n = 11 ∨ n = 12 ∨ n = 13 ∨ n = 14 ∨ n = 15 ∨ n = 16 ∨ n = 17 ∨ n = 18 ∨ n = 19 := by omega
  rcases cs with rfl | rfl | rfl | rfl | rfl | rfl | rfl | rfl | rfl | rfl | rfl | rfl | rfl | rfl | rfl | rfl | rfl
  · obtain ⟨i, rfl⟩ := len1 ha
    obtain ⟨f, h1, h2⟩ := B.o2
    exact .inr (.inl ⟨B.nA2, f, _, i, rfl, h1, h2, fun _ => rfl⟩)
  · obtain rfl := len0 ha
    obtain ⟨f, h1, h2⟩ := B.a4
    exact .inl ⟨f, _, h1, h2, fun _ => rfl⟩
  · obtain rfl := len0 ha
    obtain ⟨f, h1, h2⟩ := B.a5
    exact .inl ⟨f, _, h1, h2, fun _ => rfl⟩
  · obtain ⟨i, rfl⟩ := len1 ha
    obtain ⟨f, h1, h2⟩ := B.o6
    exact .inr (.inl ⟨B.nA6, f, _, i, rfl, h1, h2, fun _ => rfl⟩)
  · obtain rfl := len0 ha
    obtain ⟨f, h1, h2⟩ := B.a7
    exact .inl ⟨f, _, h1, h2, fun _ => rfl⟩
  · obtain ⟨i, rfl⟩ := len1 ha
    obtain ⟨f, h1, h2⟩ := B.o8
    exact .inr (.inl ⟨B.nA8, f, _, i, rfl, h1, h2, fun _ => rfl⟩)
  · obtain ⟨i, rfl⟩ := len1 ha
    obtain ⟨f, h1, h2⟩ := B.o9
    exact .inr (.inl ⟨B.nA9, f, _, i, rfl, h1, h2, fun _ => rfl⟩)
  · obtain ⟨i, rfl⟩ := len1 ha
    obtain ⟨f, h1, h2⟩ := B.o10
    exact .inr (.inl ⟨B.nA10, f, _, i, rfl, h1, h2, fun _ => rfl⟩)
  · obtain ⟨i, rfl⟩ := len1 ha
    obtain ⟨f, h1, h2⟩ := B.o11
    exact .inr (.inl ⟨B.nA11, f, _, i, rfl, h1, h2, fun _ => rfl⟩)
  · obtain ⟨i, rfl⟩ := len1 ha
    obtain ⟨f, h1, h2⟩ := B.o12
    exact .inr (.inl ⟨B.nA12, f, _, i, rfl, h1, h2, fun _ => rfl⟩)
  · obtain ⟨i, rfl⟩ := len1 ha
    obtain ⟨f, h1, h2⟩ := B.o13
    exact .inr (.inl ⟨B.nA13, f, _, i, rfl, h1, h2, fun _ => rfl⟩)
  · obtain ⟨i, rfl⟩ := len1 ha
    obtain ⟨f, h1, h2⟩ := B.o14
    exact .inr (.inl ⟨B.nA14, f, _, i, rfl, h1, h2, fun _ => rfl⟩)
  · obtain ⟨i, j, rfl⟩ := len2 ha
    obtain ⟨f, h1, h2⟩ := B.t15
    exact .inr (.inr ⟨B.nA15, B.nO15, f, _, i, j, rfl, h1, h2, fun _ => rfl⟩)
  · obtain rfl := len0 ha
    obtain ⟨f, h1, h2⟩ := B.a16
    exact .inl ⟨f, _, h1, h2, fun _ => rfl⟩
  · obtain ⟨i, j, rfl⟩ := len2 ha
    obtain ⟨f, h1, h2⟩ := B.t17
    exact .inr (.inr ⟨B.nA17, B.nO17, f, _, i, j, rfl, h1, h2, fun _ => rfl⟩)
  · obtain ⟨i, j, rfl⟩ := len2 ha
    obtain ⟨f, h1, h2⟩ := B.t18
    exact .inr (.inr ⟨B.nA18, B.nO18, f, _, i, j, rfl, h1, h2, fun _ => rfl⟩)
  · obtain rfl := len0 ha
    obtain ⟨f, h1, h2⟩ := B.a19
    exact .inl ⟨f, _, h1, h2, fun _ => rfl⟩

def sp_do_call (K : PySem.W.Frag) (C : Addr) : Sp := fun vs H Q _ => ∃ (c b av pa pr : Addr) (s : Circuit) (k : Nat) (cl : Cl), vs = [.ref c, .int ((cl.num : Nat) : Int), .ref pa, .ref pr] ∧ Pre K C av H c b s k ∧ H pa = some (.lst (natL cl.as)) ∧ H pr = some (.lst (natL cl.rw)) ∧ cl.Ok ∧ cl.num ≠ 0 ∧
  Done K C av c b (dCall s cl.num cl.as cl.rw).1 (dCall s cl.num cl.as cl.rw).2 H Q
theorem ite_t {c : Bool} {A B : Prop} (h : c = true) (a : A) : if c = true then A else B := by
  rw [if_pos h]
  exact a
theorem ite_f {c : Bool} {A B : Prop} (h : c = false) (b : B) : if c = true then A else B := by
  rw [h, if_neg Bool.false_ne_true]
  exact b
theorem intNe {m n : Nat} (h : ¬ m = n) : decide (V.int (m : Int) = V.int (n : Int)) = false := by rw [decV]; exact decide_eq_false h
section
variable {P : Program} {w : World} {K : PySem.W.Frag} {mg : Str → Option Value} {base : Heap} {C z aA aR tA tO tT : Addr}
abbrev s_do_call : Stmt := topS 71
theorem sc_do_call : FnScope ["circuit", "number", "arguments", "row", "deed"] ["circuit", "number", "arguments", "row"] (defScope s_do_call) := ⟨rfl, rfl, rfl, by decide +kernel, rfl, by decide +kernel, by decide +kernel⟩
theorem b_do_call : Bnd "do_call" "do_call" s_do_call ["circuit", "number", "arguments", "row"] := fun _ _ _ _ _ _ us hl => match us, hl with | [_, _, _, _], _ => rfl
theorem body_do_call (T : Txt K mg C z aA aR tA tO tT) (B : Tabs P w K mg base C tA tO tT) (D_set_breakage : DefOk P w K mg base "set_breakage" 3 (sp_set_breakage K C)) (D_set_feed : DefOk P w K mg base "set_feed" 2 (sp_set_feed K C)) :
    Body P w K mg base "do_call" s_do_call ["circuit", "number", "arguments", "row", "deed"] 8 (sp_do_call K C) := by
  intro f cdv A outer s H vs Q E hr h
  obtain ⟨c, b, av, pa, pr, st, kk, cl, rfl, pre, hpa, hpr, ok, h0, k⟩ := h
  have AS : ∀ (f : Addr) (sp : Sp), AtOk P w K mg base f 8 sp → AtOk P w K mg base f 8 sp := fun _ _ h => h
  refine ⟨_, (pss_cons (ps_if (pt_cmpR op_eq (pv 1) pe_int (nomark _)) (pss_one (ps_ret (pe_callD D_set_breakage (hr.mono (by decide)) (by rfl) (pa_cons (pv 0) (pa_cons (pe_ix (r := rIxL K) ix_list (pv 2) pe_int (fun _ _ => rfl)) (pa_cons (pv 3) pa_nil)))))) pss_nil)
        (pss_cons (ps_if (pt_cmpR op_eq (pv 1) pe_int (nomark _)) (pss_one (ps_ret (pe_callD D_set_feed (hr.mono (by decide)) (by rfl) (pa_cons (pv 0) (pa_cons (pv 3) pa_nil))))) pss_nil)
        (pss_cons (ps_if (pt_cmpR op_inTab (pv 1) (pe_gref T.g_ALONE (by rfl)) (by rfl)) (pss_cons (ps_set (i := 4) sc_do_call.nd rfl (Or.inl rfl) (pe_ix ix_tab (pe_gref T.g_ALONE (by rfl)) (pv 1) (fun _ _ => rfl)))
        (pss_one (ps_ret (pe_callH (i := 4) AS (hr.mono (by decide)) rfl (Or.inl rfl) (pa_cons (pv 0) pa_nil))))) pss_nil)
        (pss_cons (ps_if (pt_cmpR op_inTab (pv 1) (pe_gref T.g_WITH_ONE (by rfl)) (by rfl)) (pss_cons (ps_set (i := 4) sc_do_call.nd rfl (Or.inl rfl) (pe_ix ix_tab (pe_gref T.g_WITH_ONE (by rfl)) (pv 1) (fun _ _ => rfl)))
        (pss_one (ps_ret (pe_callH (i := 4) AS (hr.mono (by decide)) rfl (Or.inl rfl) (pa_cons (pv 0) (pa_cons (pe_ix (r := rIxL K) ix_list (pv 2) pe_int (fun _ _ => rfl)) pa_nil)))))) pss_nil)
        (pss_cons (ps_set (i := 4) sc_do_call.nd rfl (Or.inl rfl) (pe_ix ix_tab (pe_gref T.g_WITH_TWO (by rfl)) (pv 1) (fun _ _ => rfl)))
        (pss_one (ps_ret (pe_callH (i := 4) AS (hr.mono (by decide)) rfl (Or.inl rfl) (pa_cons (pv 0) (pa_cons (pe_ix (r := rIxL K) ix_list (pv 2) pe_int (fun _ _ => rfl)) (pa_cons (pe_ix (r := rIxL K) ix_list (pv 2) pe_int (fun _ _ => rfl)) pa_nil))))))))))), ?_⟩
  refine ⟨_, rfl, rfl, _, rfl, ite2 (fun c1 => ?_) (fun c1 => ?_)⟩
  · -- set_breakage
    have e1 : cl.num = 1 := by
      have q := of_decide_eq_true c1
      injection q with q
      omega
    obtain ⟨n, as, r⟩ := cl
    obtain ⟨hn, ha, _, h8⟩ := ok
    dsimp only at e1 ha hpa hpr k h8 ⊢
    subst e1
    obtain ⟨i, rfl⟩ := len1 ha
    exact ⟨_, rfl, _, rfl, pa, _, _, _, rfl, rfl, SqL.of hpa, at_of (j := 0) rfl rfl, _, rfl, c, b, av, pr, st, kk, i, r, rfl, pre, hpr, h8, k⟩
  have n1 : cl.num ≠ 1 := fun q => c1 (by rw [q]; decide +kernel)
  refine ⟨_, rfl, rfl, _, rfl, ite2 (fun c3 => ?_) (fun c3 => ?_)⟩
  · -- set_feed
    have e1 : cl.num = 3 := by
      have q := of_decide_eq_true c3
      injection q with q
      omega
    obtain ⟨n, as, r⟩ := cl
    obtain ⟨hn, ha, _, h8⟩ := ok
    dsimp only at e1 ha hpa hpr k h8 ⊢
    subst e1
    obtain rfl := len0 ha
    exact ⟨_, rfl, _, rfl, c, b, av, pr, st, kk, r, rfl, pre, hpr, h8, k⟩
  have n3 : cl.num ≠ 3 := fun q => c3 (by rw [q]; decide +kernel)
  rcases classify B ok h0 n1 n3 with ⟨f, g, e1, hf, eg⟩ | ⟨eA, f, g, i, ea, e1, hf, eg⟩ | ⟨eA, eO, f, g, i, j, ea, e1, hf, eg⟩
  · rw [eg] at k
    have s1 : (tabAt K tA ((cl.num : Nat) : Int)).isSome = true := by rw [e1]; rfl
    refine ⟨_, rfl, tA, _, rfl, rfl, B.kA, _, rfl, ite_t s1 ?_⟩
    refine ⟨_, rfl, tA, _, .ref f, _, rfl, rfl, B.kA, e1, rfl, ?_⟩
    exact ⟨f, _, rfl, hf, _, rfl, c, b, av, st, kk, rfl, pre, k⟩
  · rw [eg] at k
    rw [ea] at hpa
    have sA : (tabAt K tA ((cl.num : Nat) : Int)).isSome = false := by rw [eA]; rfl
    refine ⟨_, rfl, tA, _, rfl, rfl, B.kA, _, rfl, ite_f sA ?_⟩
    have s1 : (tabAt K tO ((cl.num : Nat) : Int)).isSome = true := by rw [e1]; rfl
    refine ⟨_, rfl, tO, _, rfl, rfl, B.kO, _, rfl, ite_t s1 ?_⟩
    refine ⟨_, rfl, tO, _, .ref f, _, rfl, rfl, B.kO, e1, rfl, ?_⟩
    exact ⟨f, _, rfl, hf, _, rfl, _, rfl, pa, _, _, _, rfl, rfl, SqL.of hpa, at_of (j := 0) rfl rfl, c, b, av, st, kk, i, rfl, pre, k⟩
  · rw [eg] at k
    rw [ea] at hpa
    have sA : (tabAt K tA ((cl.num : Nat) : Int)).isSome = false := by rw [eA]; rfl
    refine ⟨_, rfl, tA, _, rfl, rfl, B.kA, _, rfl, ite_f sA ?_⟩
    have sO : (tabAt K tO ((cl.num : Nat) : Int)).isSome = false := by rw [eO]; rfl
    refine ⟨_, rfl, tO, _, rfl, rfl, B.kO, _, rfl, ite_f sO ?_⟩
    refine ⟨_, rfl, tT, _, .ref f, _, rfl, rfl, B.kT, e1, rfl, ?_⟩
    exact ⟨f, _, rfl, hf, _, rfl, _, rfl, pa, _, _, _, rfl, rfl, SqL.of hpa, at_of (j := 0) rfl rfl, _, rfl, pa, _, _, _, rfl, rfl, SqL.of hpa, at_of (j := 1) rfl rfl, c, b, av, st, kk, i, j, rfl, pre, k⟩
theorem def_do_call {f : Addr} (h : Here K mg "do_call" s_do_call f) (T : Txt K mg C z aA aR tA tO tT) (B : Tabs P w K mg base C tA tO tT) (D_set_breakage : DefOk P w K mg base "set_breakage" 3 (sp_set_breakage K C)) (D_set_feed : DefOk P w K mg base "set_feed" 2 (sp_set_feed K C)) : DefOk P w K mg base "do_call" 9 (sp_do_call K C) :=
  mkDef h sc_do_call b_do_call (fun vs H Q E h => by obtain ⟨_, _, _, _, _, _, _, _, rfl, _⟩ := h; rfl) (body_do_call T B D_set_breakage D_set_feed)
end
end Gs
end P_GsB11
section P_GsB12
set_option Elab.async false
set_option linter.all false
set_option maxRecDepth 100000
set_option maxHeartbeats 4000000
/-! GsB12: calls are read. -/
namespace Gs
open PySem PySem.Spec PyProof.Rows L2
open Kp408 (Circuit)
/-! ### the calls in the heap -/
def CallAt (H : Hp) (av : List Addr) (q : Addr) (c : Cl) : Prop := ∃ pa pr : Addr, H q = some (.tup [.int ((c.num : Nat) : Int), .ref pa, .ref pr]) ∧ H pa = some (.lst (natL c.as)) ∧ H pr = some (.lst (natL c.rw)) ∧ pa ∉ av ∧ pr ∉ av
theorem CallAt.mono {H H' : Hp} {av : List Addr} {q : Addr} {c : Cl} (e : Same H H') (h : CallAt H av q c) : CallAt H' av q c := by
  obtain ⟨pa, pr, h1, h2, h3, h4⟩ := h
  exact ⟨pa, pr, e _ _ h1, e _ _ h2, e _ _ h3, h4⟩
def CallsAt (H : Hp) (av : List Addr) : List Addr → List Cl → Prop
  | [], [] => True
  | q :: qs, c :: cs => CallAt H av q c ∧ CallsAt H av qs cs
  | _, _ => False
theorem CallsAt.imp {H H' : Hp} {av : List Addr} (hk : ∀ q c, CallAt H av q c → CallAt H' av q c) : ∀ {qs : List Addr} {cs : List Cl}, CallsAt H av qs cs → CallsAt H' av qs cs
  | [], [], _ => trivial
  | _ :: _, _ :: _, ⟨h, r⟩ => ⟨hk _ _ h, CallsAt.imp hk r⟩
theorem CallsAt.mono {H H' : Hp} {av : List Addr} (e : Same H H') {qs : List Addr} {cs : List Cl} (h : CallsAt H av qs cs) : CallsAt H' av qs cs := h.imp fun _ _ q => q.mono e
theorem CallsAt.len {H : Hp} {av : List Addr} : ∀ {qs : List Addr} {cs : List Cl}, CallsAt H av qs cs → qs.length = cs.length
  | [], [], _ => rfl
  | _ :: _, _ :: _, ⟨_, r⟩ => congrArg (· + 1) (CallsAt.len r)
theorem CallsAt.snoc {H : Hp} {av : List Addr} : ∀ {qs : List Addr} {cs : List Cl} {q : Addr} {c : Cl}, CallsAt H av qs cs → CallAt H av q c → CallsAt H av (qs ++ [q]) (cs ++ [c])
  | [], [], _, _, _, h => ⟨h, trivial⟩
  | _ :: _, _ :: _, _, _, ⟨h, r⟩, q => ⟨h, CallsAt.snoc r q⟩
theorem CallsAt.get {H : Hp} {av : List Addr} : ∀ {qs : List Addr} {cs : List Cl} {i : Nat} {q : Addr}, CallsAt H av qs cs → qs[i]? = some q → ∃ c, cs[i]? = some c ∧ CallAt H av q c
  | [], [], i, q, _, h => by simp at h
  | _ :: _, c :: _, 0, q, ⟨h, _⟩, e => by
    cases e
    exact ⟨c, rfl, h⟩
  | _ :: qs, _ :: cs, i + 1, q, ⟨_, r⟩, e => by
    obtain ⟨c, h1, h2⟩ := CallsAt.get (i := i) r (by simpa using e)
    exact ⟨c, by simpa using h1, h2⟩
theorem CallAt.updL {H : Hp} {av : List Addr} {q D : Addr} {c : Cl} {o : HO} {us : List V} (hD : H D = some (.lst us)) (hm : D ∈ av) (h : CallAt H av q c) : CallAt (upd H D o) av q c := by
  obtain ⟨pa, pr, h1, h2, h3, h4, h5⟩ := h
  exact ⟨pa, pr, by rw [upd_ne (ne_of h1 hD (by intro z; cases z))]; exact h1, by rw [upd_ne (show pa ≠ D from fun e => h4 (by rw [e]; exact hm))]; exact h2, by rw [upd_ne (show pr ≠ D from fun e => h5 (by rw [e]; exact hm))]; exact h3, h4, h5⟩
theorem not_old {H : Hp} {av : List Addr} {p : Addr} (h : ∀ x ∈ av, ∃ o, H x = some o) (hp : H p = none) : p ∉ av := fun hm => by
  obtain ⟨o, ho⟩ := h p hm
  rw [hp] at ho
  cases ho

/-! ### places in a list -/
theorem cut_mid {A B D : List V} : cutV (A ++ (B ++ D)) (some ((A.length : Nat) : Int)) (some ((A.length + B.length : Nat) : Int)) = B := by
  unfold cutV
  rw [HT.sIx_nat, HT.sIx_nat, List.length_append, List.length_append, Nat.min_eq_left (by omega), Nat.min_eq_left (by omega), List.drop_left, show A.length + B.length - A.length = B.length by omega, List.take_left]
theorem at_mid {A D : List V} {x : V} : (A ++ (x :: D))[A.length]? = some x := by
  rw [List.getElem?_append_right (Nat.le_refl _), Nat.sub_self]
  rfl
theorem natL_eq (r : List Nat) : (toI r).map V.int = natL r := rfl
theorem arg_at {n : Nat} (h : n < 20) : ((([1, 1, 1, 0, 0, 0, 1, 0, 1, 1, 1, 1, 1, 1, 1, 2, 0, 2, 2, 0] : List Int).map V.int))[n]? = some (.int ((arity.getD n 0 : Nat) : Int)) := by
  have e : (([1, 1, 1, 0, 0, 0, 1, 0, 1, 1, 1, 1, 1, 1, 1, 2, 0, 2, 2, 0] : List Int).map V.int) = natL arity := rfl
  rw [e]
  refine natL_at ?_
  have h2 : n < arity.length := h
  rw [getD_in h2, List.getElem?_eq_getElem h2]
theorem row_test (n : Nat) : inV (.int (n : Int)) [.int 1, .int 3] = withRow n := by
  show (((1 : Int) == (n : Int)) || (((3 : Int) == (n : Int)) || false)) = (decide (n = 1) || decide (n = 3))
  have e1 : ((1 : Int) == (n : Int)) = decide (n = 1) := by
    rw [Bool.eq_iff_iff]
    simp only [beq_iff_eq, decide_eq_true_eq]
    omega
  have e3 : ((3 : Int) == (n : Int)) = decide (n = 3) := by
    rw [Bool.eq_iff_iff]
    simp only [beq_iff_eq, decide_eq_true_eq]
    omega
  rw [e1, e3, Bool.or_false]

def sp_read_call (K : PySem.W.Frag) : Sp := fun vs H Q _ => ∃ (a : Addr) (av : List Addr) (pre : List Int) (c : Cl) (t : List Int), vs = [.ref a, .int ((pre.length : Nat) : Int)] ∧ SqL K H a ((pre ++ (c.enc ++ t)).map V.int) ∧ c.Ok ∧ (∀ x ∈ av, ∃ o, H x = some o) ∧
  ∀ r q H', Same H H' → H' r = some (.tup [.ref q, .int ((pre.length + c.enc.length : Nat) : Int)]) → CallAt H' av q c → Q (.ref r) H'
def sp_read_calls (K : PySem.W.Frag) : Sp := fun vs H Q _ => ∃ (a : Addr) (av : List Addr) (cs : List Cl), vs = [.ref a] ∧ SqL K H a ((flat cs).map V.int) ∧ (∀ c ∈ cs, c.Ok) ∧ cs.length ≤ 100 ∧ (∀ x ∈ av, ∃ o, H x = some o) ∧
  ∀ D qs H', Same H H' → H D = none → H' D = some (.lst (qs.map V.ref)) → CallsAt H' (D :: av) qs cs → Q (.ref D) H'

section
variable {P : Program} {w : World} {K : PySem.W.Frag} {mg : Str → Option Value} {base : Heap} {C z aA aR tA tO tT : Addr}
abbrev s_read_call : Stmt := topS 75
theorem sc_read_call : FnScope ["calls", "place", "number", "behind", "arguments", "end"] ["calls", "place"] (defScope s_read_call) := ⟨rfl, rfl, rfl, by decide +kernel, rfl, by decide +kernel, by decide +kernel⟩
theorem b_read_call : Bnd "read_call" "read_call" s_read_call ["calls", "place"] := fun _ _ _ _ _ _ us hl => match us, hl with | [_, _], _ => rfl
theorem body_read_call (T : Txt K mg C z aA aR tA tO tT) : Body P w K mg base "read_call" s_read_call ["calls", "place", "number", "behind", "arguments", "end"] 0 (sp_read_call K) := by
  intro f cdv A outer s H vs Q E hr h
  obtain ⟨a, av, pre, c, t, rfl, hS, ok, hav, k⟩ := h
  obtain ⟨n, as, r⟩ := c
  obtain ⟨hn, ha, hr0, hr8⟩ := ok
  dsimp only at hn ha hr0 hr8
  refine ⟨_, (pss_cons (ps_set (i := 2) sc_read_call.nd rfl (Or.inl rfl) (pe_ix (r := rIxL K) ix_list (pv 0) (pv 1) (fun _ _ => rfl)))
        (pss_cons (ps_set (i := 3) sc_read_call.nd rfl (Or.inl rfl) (pe_op op_add (pe_op op_add (pv 1) pe_int) (pe_ix ix_tup (pe_gref T.g_ARGUMENTS (by rfl)) (pv 2) (fun _ _ => rfl))))
        (pss_cons (ps_set (i := 4) sc_read_call.nd rfl (Or.inl rfl) (pe_slice sl_list (pv 0) (po_some (pe_op op_add (pv 1) pe_int)) (po_some (pv 3))))
        (pss_cons (ps_if (pt_cmpR op_notIn_seq (pv 2) (pe_gref T.g_WITH_ROW (by rfl)) (by rfl)) (pss_one (ps_ret (pe_tup (pa_cons (pe_tup (pa_cons (pv 2) (pa_cons (pv 4) (pa_cons (pe_lst pa_nil) pa_nil)))) (pa_cons (pv 3) pa_nil))))) pss_nil)
        (pss_cons (ps_set (i := 5) sc_read_call.nd rfl (Or.inl rfl) (pe_op op_add (pe_op op_add (pv 3) pe_int) (pe_ix (r := rIxL K) ix_list (pv 0) (pv 3) (fun _ _ => rfl))))
        (pss_one (ps_ret (pe_tup (pa_cons (pe_tup (pa_cons (pv 2) (pa_cons (pv 4) (pa_cons (pe_slice sl_list (pv 0) (po_some (pe_op op_add (pv 3) pe_int)) (po_some (pv 5))) pa_nil)))) (pa_cons (pv 5) pa_nil)))))))))), ?_⟩
  -- the list by its parts
  have e1 : (pre ++ (Cl.enc ⟨n, as, r⟩ ++ t)).map V.int = pre.map V.int ++ (V.int (n : Int) :: (natL as ++ (Cl.tail ⟨n, as, r⟩ ++ t).map V.int)) := by
    unfold Cl.enc
    rw [List.map_append, List.cons_append, List.map_cons, List.append_assoc, List.map_append, natL_eq]
  have e2 : (pre ++ (Cl.enc ⟨n, as, r⟩ ++ t)).map V.int = (pre.map V.int ++ [V.int (n : Int)]) ++ (natL as ++ (Cl.tail ⟨n, as, r⟩ ++ t).map V.int) := by
    rw [e1, List.append_assoc]
    rfl
  have lp : (pre.map V.int).length = pre.length := List.length_map _
  have lp2 : (pre.map V.int ++ [V.int (n : Int)]).length = pre.length + 1 := by rw [List.length_append, lp]; rfl
  have la : (natL as).length = as.length := natL_len as
  have i0 : ((pre ++ (Cl.enc ⟨n, as, r⟩ ++ t)).map V.int)[pre.length]? = some (.int (n : Int)) := by
    rw [e1, ← lp]
    exact at_mid
  have c0 : cutV ((pre ++ (Cl.enc ⟨n, as, r⟩ ++ t)).map V.int) (some ((pre.length + 1 : Nat) : Int)) (some ((pre.length + 1 + as.length : Nat) : Int)) = natL as := by
    have q := cut_mid (A := pre.map V.int ++ [V.int (n : Int)]) (B := natL as) (D := (Cl.tail ⟨n, as, r⟩ ++ t).map V.int)
    rw [lp2, la] at q
    rw [e2]
    exact q
  have i1 := arg_at hn
  rw [← ha] at i1
  refine ⟨_, rfl, _, rfl, a, _, _, _, rfl, rfl, hS, at_of (j := pre.length) rfl i0, ?_⟩
  refine ⟨_, rfl, _, _, rfl, rfl, _, rfl, aA, _, _, _, rfl, rfl, T.argus _, at_of (j := n) rfl i1, _, _, rfl, rfl, ?_⟩
  refine ⟨_, rfl, _, rfl, _, _, rfl, rfl, _, rfl, _, rfl, _, rfl, a, _, rfl, hS, fun pa hpa => ?_⟩
  have c0' : cutV ((pre ++ (Cl.enc ⟨n, as, r⟩ ++ t)).map V.int) (some (((pre.length : Nat) : Int) + 1)) (some (((pre.length : Nat) : Int) + 1 + ((as.length : Nat) : Int))) = natL as := c0
  rw [c0']
  have s1 := same_new (o := .lst (natL as)) hpa
  have npa : pa ∉ av := not_old hav hpa
  have hav1 : ∀ x ∈ av, ∃ o, upd H pa (.lst (natL as)) x = some o := fun x hx => let ⟨o, ho⟩ := hav x hx; ⟨o, s1 _ _ ho⟩
  refine ⟨_, rfl, aR, _, rfl, .inr (T.rows _), rfl, rfl, _, rfl, ?_⟩
  show if (!inV (.int (n : Int)) [.int 1, .int 3]) = true then _ else _
  rw [row_test]
  cases hw : withRow n with
  | false =>
    have er := hr0 hw
    subst er
    refine iteT ?_
    refine ⟨_, rfl, _, rfl, Nat.zero_le _, fun pr hpr => ?_⟩
    have s2 := same_new (o := .lst []) hpr
    refine ⟨(by show 3 ≤ sizeLine; decide), fun q hq => ?_⟩
    have s3 := same_new (o := .tup [.int (n : Int), .ref pa, .ref pr]) hq
    refine ⟨_, rfl, (by show 2 ≤ sizeLine; decide), fun u hu => ?_⟩
    have s4 := same_new (o := .tup [.ref q, .int (((pre.length : Nat) : Int) + 1 + ((as.length : Nat) : Int))]) hu
    refine k u q _ (((s1.trans s2).trans s3).trans s4) ?_ ⟨pa, pr, s4 _ _ upd_same, ((s2.trans s3).trans s4) _ _ upd_same, (s3.trans s4) _ _ upd_same, npa, not_old hav1 hpr⟩
    rw [upd_same]
    have el : (Cl.enc ⟨n, as, []⟩).length = 1 + as.length := by
      unfold Cl.enc Cl.tail
      dsimp only
      rw [hw]
      simp
      omega
    rw [el]
    have : ((pre.length : Nat) : Int) + 1 + ((as.length : Nat) : Int) = ((pre.length + (1 + as.length) : Nat) : Int) := by omega
    show some (HO.tup [V.ref q, V.int (((pre.length : Nat) : Int) + 1 + ((as.length : Nat) : Int))]) = _
    rw [this]
  | true =>
    have ht : Cl.tail ⟨n, as, r⟩ = ((r.length : Nat) : Int) :: toI r := by
      unfold Cl.tail
      dsimp only
      rw [hw]
      rfl
    have e3 : (pre ++ (Cl.enc ⟨n, as, r⟩ ++ t)).map V.int = (pre.map V.int ++ [V.int (n : Int)] ++ natL as) ++ (V.int ((r.length : Nat) : Int) :: (natL r ++ t.map V.int)) := by
      rw [e2, ht, List.cons_append, List.map_cons, List.map_append, natL_eq, ← List.append_assoc]
    have lp3 : (pre.map V.int ++ [V.int (n : Int)] ++ natL as).length = pre.length + 1 + as.length := by rw [List.length_append, lp2, la]
    have e4 : (pre ++ (Cl.enc ⟨n, as, r⟩ ++ t)).map V.int = (pre.map V.int ++ [V.int (n : Int)] ++ natL as ++ [V.int ((r.length : Nat) : Int)]) ++ (natL r ++ t.map V.int) := by
      rw [e3, List.append_cons]
    have lp4 : (pre.map V.int ++ [V.int (n : Int)] ++ natL as ++ [V.int ((r.length : Nat) : Int)]).length = pre.length + 1 + as.length + 1 := by rw [List.length_append, lp3]; rfl
    have i2 : ((pre ++ (Cl.enc ⟨n, as, r⟩ ++ t)).map V.int)[pre.length + 1 + as.length]? = some (.int ((r.length : Nat) : Int)) := by
      rw [e3, ← lp3]
      exact at_mid
    have c1 : cutV ((pre ++ (Cl.enc ⟨n, as, r⟩ ++ t)).map V.int) (some ((pre.length + 1 + as.length + 1 : Nat) : Int)) (some ((pre.length + 1 + as.length + 1 + r.length : Nat) : Int)) = natL r := by
      have q := cut_mid (A := pre.map V.int ++ [V.int (n : Int)] ++ natL as ++ [V.int ((r.length : Nat) : Int)]) (B := natL r) (D := t.map V.int)
      rw [lp4, natL_len] at q
      rw [e4]
      exact q
    refine iteF ?_
    refine ⟨_, rfl, _, _, rfl, rfl, _, rfl, _, rfl, a, _, _, _, rfl, rfl, s1.seq hS, at_of (j := pre.length + 1 + as.length) rfl i2, _, _, rfl, rfl, ?_⟩
    refine ⟨_, rfl, _, rfl, _, rfl, _, rfl, _, _, rfl, rfl, _, rfl, _, rfl, _, rfl, a, _, rfl, s1.seq hS, fun pr hpr => ?_⟩
    have c1' : cutV ((pre ++ (Cl.enc ⟨n, as, r⟩ ++ t)).map V.int) (some (((pre.length : Nat) : Int) + 1 + ((as.length : Nat) : Int) + 1)) (some (((pre.length : Nat) : Int) + 1 + ((as.length : Nat) : Int) + 1 + ((r.length : Nat) : Int))) = natL r := c1
    rw [c1']
    have s2 := same_new (o := .lst (natL r)) hpr
    refine ⟨(by show 3 ≤ sizeLine; decide), fun q hq => ?_⟩
    have s3 := same_new (o := .tup [.int (n : Int), .ref pa, .ref pr]) hq
    refine ⟨_, rfl, (by show 2 ≤ sizeLine; decide), fun u hu => ?_⟩
    have s4 := same_new (o := .tup [.ref q, .int (((pre.length : Nat) : Int) + 1 + ((as.length : Nat) : Int) + 1 + ((r.length : Nat) : Int))]) hu
    refine k u q _ (((s1.trans s2).trans s3).trans s4) ?_ ⟨pa, pr, s4 _ _ upd_same, ((s2.trans s3).trans s4) _ _ upd_same, (s3.trans s4) _ _ upd_same, npa, not_old hav1 hpr⟩
    rw [upd_same]
    have el : (Cl.enc ⟨n, as, r⟩).length = 1 + as.length + 1 + r.length := by
      unfold Cl.enc
      rw [ht]
      simp
      omega
    rw [el]
    have : ((pre.length : Nat) : Int) + 1 + ((as.length : Nat) : Int) + 1 + ((r.length : Nat) : Int) = ((pre.length + (1 + as.length + 1 + r.length) : Nat) : Int) := by omega
    show some (HO.tup [V.ref q, V.int (((pre.length : Nat) : Int) + 1 + ((as.length : Nat) : Int) + 1 + ((r.length : Nat) : Int))]) = _
    rw [this]
theorem def_read_call {f : Addr} (h : Here K mg "read_call" s_read_call f) (T : Txt K mg C z aA aR tA tO tT) : DefOk P w K mg base "read_call" 1 (sp_read_call K) :=
  mkDef h sc_read_call b_read_call (fun vs H Q E h => by obtain ⟨_, _, _, _, _, rfl, _⟩ := h; rfl) (body_read_call T)

theorem flat_append (cs ds : List Cl) : flat (cs ++ ds) = flat cs ++ flat ds := List.flatMap_append
theorem flat_split {cs : List Cl} {i : Nat} {c : Cl} (h : cs[i]? = some c) : flat cs = flat (cs.take i) ++ (c.enc ++ flat (cs.drop (i + 1))) := by
  have e : cs = cs.take i ++ (c :: cs.drop (i + 1)) := by
    have hi := (List.getElem?_eq_some_iff.mp h).1
    have hc := (List.getElem?_eq_some_iff.mp h).2
    rw [← hc, ← List.drop_eq_getElem_cons hi, List.take_append_drop]
  conv => lhs; rw [e]
  rw [flat_append]
  rfl
theorem flat_take {cs : List Cl} {i : Nat} {c : Cl} (h : cs[i]? = some c) : (flat (cs.take (i + 1))).length = (flat (cs.take i)).length + c.enc.length := by
  rw [take_snoc h, flat_append, List.length_append]
  congr 1
  show (c.enc ++ []).length = _
  rw [List.append_nil]
abbrev s_read_calls : Stmt := topS 76
theorem sc_read_calls : FnScope ["calls", "found", "place", "call"] ["calls"] (defScope s_read_calls) := ⟨rfl, rfl, rfl, by decide +kernel, rfl, by decide +kernel, by decide +kernel⟩
theorem b_read_calls : Bnd "read_calls" "read_calls" s_read_calls ["calls"] := fun _ _ _ _ _ _ us hl => match us, hl with | [_], _ => rfl
theorem body_read_calls (T : Txt K mg C z aA aR tA tO tT) (D_read_call : DefOk P w K mg base "read_call" 1 (sp_read_call K)) : Body P w K mg base "read_calls" s_read_calls ["calls", "found", "place", "call"] 1 (sp_read_calls K) := by
  intro f cdv A outer s H vs Q E hr h
  obtain ⟨a, av, cs, rfl, hS, ok, hl, hav, k⟩ := h
  refine ⟨_, (pss_cons (ps_par (i := 1) (j := 2) (by rfl) sc_read_calls.nd rfl rfl (by decide) rfl rfl (pa_cons (pe_lst pa_nil) (pa_cons pe_int pa_nil)) (by rfl))
        (pss_cons (ps_while PassesOwn.never (pt_cmpR op_lt (pv 2) (pe_callB call_len_seq (by rfl) T.n_len PySem.boot_len (pa_cons (pv 0) pa_nil)) (nomark _)) (pss_cons (ps_asg (pe_callD D_read_call (hr.mono (by decide)) (by rfl) (pa_cons (pv 0) (pa_cons (pv 2) pa_nil))) (pg_tup rfl (pgs_cons (pg_name (i := 3) sc_read_calls.nd rfl (Or.inl rfl)) (pgs_cons (pg_name (i := 2) sc_read_calls.nd rfl (Or.inl rfl)) pgs_nil))))
        (pss_one (ps_expr (pe_bm PySem.F.plainAttrs_list PySem.F.slot_list_append PySem.F.type_list_append mt_append (pv 1) (pa_cons (pv 3) pa_nil))))))
        (pss_one (ps_ret (pv 1))))), ?_⟩
  refine ⟨Nat.zero_le _, fun D hD => ⟨_, _, rfl, ?_⟩⟩
  have s0 := same_new (o := .lst []) hD
  refine while_by (fun σ H' => ∃ (i : Nat) (qs : List Addr) (v : Option V), σ = [some (.ref a), some (.ref D), some (.int (((flat (cs.take i)).length : Nat) : Int)), v] ∧ i ≤ cs.length ∧ Same H H' ∧ H' D = some (.lst (qs.map V.ref)) ∧ CallsAt H' (D :: av) qs (cs.take i))
    (fun σ _ => match σ with | [_, _, some (.int p), _] => (flat cs).length - p.toNat | _ => 0) ⟨0, [], none, rfl, Nat.zero_le _, s0, upd_same, trivial⟩ ?_ ?_
  · rintro σ H' ⟨i, qs, v, rfl, hi, e, hD', hc⟩
    refine ⟨_, rfl, _, rfl, a, _, rfl, .inl (e.seq hS), _, _, rfl, rfl, _, rfl, ite2 (fun lt => ?_) (fun lt => ?_)⟩
    · rw [List.length_map] at lt
      have lt' : (((flat (cs.take i)).length : Nat) : Int) < (((flat cs).length : Nat) : Int) := of_decide_eq_true lt
      have hi' : i < cs.length := by
        by_cases x : i < cs.length
        · exact x
        · rw [List.take_of_length_le (by omega)] at lt'
          omega
      have hx : cs[i]? = some cs[i] := List.getElem?_eq_getElem hi'
      have sp := flat_split hx
      have hS' := e.seq hS
      rw [sp] at hS'
      refine ⟨_, rfl, _, rfl, a, D :: av, flat (cs.take i), cs[i], flat (cs.drop (i + 1)), rfl, hS', ok _ (List.getElem_mem hi'), fun x hx => ?_, fun r q H2 e2 hr2 hq => ?_⟩
      · rcases List.mem_cons.mp hx with rfl | hx
        · exact ⟨_, hD'⟩
        · obtain ⟨o, ho⟩ := hav x hx
          exact ⟨o, e _ _ ho⟩
      refine ⟨r, _, rfl, SqT.of hr2, rfl, _, _, rfl, _, _, rfl, rfl, ?_⟩
      have hD2 := e2 _ _ hD'
      have hle : qs.length ≤ 100 := by
        rw [hc.len, List.length_take]
        omega
      refine ⟨_, rfl, .inl ⟨rfl, _, SqL.of hD2⟩, _, rfl, D, _, _, rfl, rfl, hD2, (by rw [List.length_map]; exact Nat.lt_of_le_of_lt hle (by decide)), ?_⟩
      have ft := flat_take hx
      refine ⟨⟨i + 1, qs ++ [q], some (.ref q), ?_, hi', same_mut (e.trans e2) hD, by rw [upd_same, List.map_append]; rfl, ?_⟩, ?_⟩
      · rw [ft]
        rfl
      · rw [take_snoc hx]
        exact CallsAt.imp (fun q c h => h.updL hD2 List.mem_cons_self) ((hc.mono e2).snoc hq)
      · show (flat cs).length - (((flat (cs.take i)).length + cs[i].enc.length : Nat) : Int).toNat < (flat cs).length - (((flat (cs.take i)).length : Nat) : Int).toNat
        have le1 : 0 < cs[i].enc.length := Nat.succ_pos _
        omega
    · rw [List.length_map] at lt
      have lt' : ¬ (((flat (cs.take i)).length : Nat) : Int) < (((flat cs).length : Nat) : Int) := fun q => lt (decide_eq_true q)
      have hi' : i = cs.length := by
        by_cases x : i < cs.length
        · have hx : cs[i]? = some cs[i] := List.getElem?_eq_getElem x
          have sp := congrArg List.length (flat_split hx)
          rw [List.length_append, List.length_append] at sp
          have le1 : 0 < cs[i].enc.length := Nat.succ_pos _
          omega
        · omega
      rw [hi', List.take_length] at hc
      exact ⟨_, rfl, k D qs H' e hD hD' hc⟩
  · rintro σ H' Q1 Q2 hm ⟨v, e1, w1, e2, p, ys, e3, hq, i, j, e4, e5, c, e6, q⟩
    exact ⟨v, e1, w1, e2, p, ys, e3, hq, i, j, e4, e5, c, e6, hm _ _ q⟩
theorem def_read_calls {f : Addr} (h : Here K mg "read_calls" s_read_calls f) (T : Txt K mg C z aA aR tA tO tT) (D_read_call : DefOk P w K mg base "read_call" 1 (sp_read_call K)) : DefOk P w K mg base "read_calls" 2 (sp_read_calls K) :=
  mkDef h sc_read_calls b_read_calls (fun vs H Q E h => by obtain ⟨_, _, _, rfl, _⟩ := h; rfl) (body_read_calls T D_read_call)
end
end Gs
end P_GsB12
section P_GsB13
set_option Elab.async false
set_option linter.all false
set_option maxRecDepth 100000
set_option maxHeartbeats 4000000
/-! GsB13: the list of calls answered. -/
namespace Gs
open PySem PySem.Spec PyProof.Rows L2
open Kp408 (Circuit)
/-- a circuit, where there is one: its place, its matrix's place, what it is -/
abbrev OC := Option (Addr × Addr × Circuit)
def cvOf : OC → V
  | none => .non
  | some (c, _, _) => .ref c
def stOf (oc : OC) : Option Circuit := oc.map fun x => x.2.2
def CirO (K : PySem.W.Frag) (C av : Addr) (H : Hp) (oc : OC) : Prop := ∀ c b s, oc = some (c, b, s) → CirAt K C av H c b s
def KeepO (oc : OC) (H H' : Hp) : Prop := match oc with
  | none => Same H H'
  | some (c, b, _) => Keep c b H H'
theorem KeepO.of {oc : OC} {H H' : Hp} (e : Same H H') : KeepO oc H H' := match oc with
  | none => e
  | some _ => Keep.of e
theorem KeepO.trans {oc : OC} {H H1 H2 : Hp} (h1 : KeepO oc H H1) (h2 : KeepO oc H1 H2) : KeepO oc H H2 := match oc, h1, h2 with
  | none, h1, h2 => Same.trans h1 h2
  | some _, h1, h2 => Keep.trans h1 h2
theorem CirAt.bs {K : PySem.W.Frag} {C av : Addr} {H : Hp} {c b : Addr} {s : Circuit} {k : Nat} (h : CirAt K C av H c b s) (wf : WfS s k) : ∃ (q : Addr) (bs : List Addr) (us : List V), H b = some (.lst ((q :: bs).map V.ref)) ∧ H q = some (.lst us) := by
  obtain ⟨dx, f, a, l, r, bs, h1, h2, h3, h4, h5, h6, h7, h8, h9⟩ := h
  have hl := h3.len
  rw [wf.wf.len] at hl
  have h2' := wf.wf.lo
  cases bs with
  | nil =>
    rw [List.length_nil] at hl
    omega
  | cons q bs =>
    obtain ⟨p, g1, g2⟩ := h3.get (i := 0) (by rw [wf.wf.len]; omega)
    cases g1
    exact ⟨_, bs, _, h2, g2⟩
section
variable {K : PySem.W.Frag} {C av : Addr} {oc : OC} {H H' : Hp} {x : Addr} {k : Nat}
theorem keep_tup {us : List V} (h : KeepO oc H H') (hC : CirO K C av H oc) (hx : H x = some (.tup us)) : H' x = some (.tup us) := by
  cases oc with
  | none => exact h _ _ hx
  | some z =>
    obtain ⟨c, b, s⟩ := z
    obtain ⟨dx, f, a, l, r, bs, h1, h2, h3, h4, h5, h6, h7, h8, h9⟩ := hC c b s rfl
    exact h x _ hx (ne_of hx h1 (by intro e; cases e)) (ne_of hx h2 (by intro e; cases e))
theorem keep_nat {us : List Nat} (h : KeepO oc H H') (hC : CirO K C av H oc) (wf : WfO (stOf oc) k) (hx : H x = some (.lst (natL us))) : H' x = some (.lst (natL us)) := by
  cases oc with
  | none => exact h _ _ hx
  | some z =>
    obtain ⟨c, b, s⟩ := z
    obtain ⟨q, bs, vs, g1, g2⟩ := (hC c b s rfl).bs (wf s rfl)
    obtain ⟨dx, f, a, l, r, bs', h1, _⟩ := hC c b s rfl
    refine h x _ hx (ne_of hx h1 (by intro e; cases e)) (ne_of hx g1 fun e => ?_)
    injection e with e
    cases us with
    | nil => cases e
    | cons _ _ => cases e
theorem keep_refs {qs : List Addr} (h : KeepO oc H H') (hC : CirO K C av H oc) (wf : WfO (stOf oc) k) (hx : H x = some (.lst (qs.map V.ref))) (hq : ∀ q ∈ qs, ∃ us, H q = some (.tup us)) : H' x = some (.lst (qs.map V.ref)) := by
  cases oc with
  | none => exact h _ _ hx
  | some z =>
    obtain ⟨c, b, s⟩ := z
    obtain ⟨q, bs, vs, g1, g2⟩ := (hC c b s rfl).bs (wf s rfl)
    obtain ⟨dx, f, a, l, r, bs', h1, _⟩ := hC c b s rfl
    refine h x _ hx (ne_of hx h1 (by intro e; cases e)) (ne_of hx g1 fun e => ?_)
    injection e with e
    cases qs with
    | nil => cases e
    | cons q' qs =>
      obtain ⟨us, hu⟩ := hq q' List.mem_cons_self
      rw [List.map_cons, List.map_cons] at e
      injection e with e1 e2
      injection e1 with e1
      rw [e1, g2] at hu
      cases hu
theorem keep_av {o : HO} (h : KeepO oc H H') (hC : CirO K C av H oc) (hx : H av = some o) : H' av = some o := by
  cases oc with
  | none => exact h _ _ hx
  | some z =>
    obtain ⟨c, b, s⟩ := z
    obtain ⟨dx, f, a, l, r, bs, h1, h2, h3, h4, h5, h6, h7, ⟨v1, v2, _⟩, h9⟩ := hC c b s rfl
    exact h av _ hx v1.symm v2.symm
theorem keep_call {avs : List Addr} {q : Addr} {c : Cl} (h : KeepO oc H H') (hC : CirO K C av H oc) (wf : WfO (stOf oc) k) (hc : CallAt H avs q c) : CallAt H' avs q c := by
  obtain ⟨pa, pr, h1, h2, h3, h4⟩ := hc
  exact ⟨pa, pr, keep_tup h hC h1, keep_nat h hC wf h2, keep_nat h hC wf h3, h4⟩
theorem CallsAt.tups {avs : List Addr} : ∀ {qs : List Addr} {cs : List Cl}, CallsAt H avs qs cs → ∀ q ∈ qs, ∃ us, H q = some (.tup us)
  | [], [], _, q, hq => by cases hq
  | q0 :: _, _ :: _, ⟨⟨pa, pr, h1, _⟩, r⟩, q, hq => by
    rcases List.mem_cons.mp hq with rfl | hq
    · exact ⟨_, h1⟩
    · exact CallsAt.tups r q hq
theorem CirAt.updAv {o : HO} {c b : Addr} {s : Circuit} {us : List V} (ha : H av = some (.lst us)) (h : CirAt K C av H c b s) : CirAt K C av (upd H av o) c b s := by
  obtain ⟨dx, f, a, l, r, bs, h1, h2, h3, h4, h5, h6, h7, h8, h9⟩ := h
  have nt : ∀ xs, HO.lst us ≠ .tup xs := by
    intro xs e
    cases e
  have nf : ∀ ob u, HO.lst us ≠ .frz ob u := by
    intro ob u e
    cases e
  exact ⟨dx, f, a, l, r, bs, by rw [upd_ne h8.1]; exact h1, by rw [upd_ne h8.2.1]; exact h2, RowAll.upd h8.2.2.2.2 h3, by rw [upd_ne h8.2.2.1]; exact h4, h5.updO ha nt nf h8.2.2.2.1, Fr.upd ha nt nf h6, Fr.upd ha nt nf h7, h8, h9⟩
theorem CirO.updAv {o : HO} {us : List V} (ha : H av = some (.lst us)) (h : CirO K C av H oc) : CirO K C av (upd H av o) oc := fun c b s e => (h c b s e).updAv ha
end

def sp_created (K : PySem.W.Frag) (C : Addr) : Sp := fun vs H Q _ => ∃ (av : Addr) (oc : OC) (n : Nat), vs = [cvOf oc, .int (n : Int)] ∧ CirO K C av H oc ∧ (∃ o, H av = some o) ∧
  ∀ t q oc' H', Same H H' → H' t = some (.tup [cvOf oc', .ref q]) → CirO K C av H' oc' → (stOf oc', ([if 2 ≤ n ∧ n ≤ 5 then 0 else -22] : List Int)) = (if 2 ≤ n ∧ n ≤ 5 then (some (fresh n), [0]) else (stOf oc, [-22])) → H' q = some (.lst [.int (if 2 ≤ n ∧ n ≤ 5 then 0 else -22)]) → q ≠ av → Q (.ref t) H'
def sp_answered (K : PySem.W.Frag) (C : Addr) : Sp := fun vs H Q _ => ∃ (av pa pr : Addr) (oc : OC) (k : Nat) (cl : Cl), vs = [cvOf oc, .int ((cl.num : Nat) : Int), .ref pa, .ref pr] ∧ CirO K C av H oc ∧ (∃ o, H av = some o) ∧ WfO (stOf oc) k ∧ k ≤ 60 ∧ H pa = some (.lst (natL cl.as)) ∧ H pr = some (.lst (natL cl.rw)) ∧ cl.Ok ∧
  ∀ t q oc' H', KeepO oc H H' → H' t = some (.tup [cvOf oc', .ref q]) → CirO K C av H' oc' → stOf oc' = (dStep (stOf oc) cl).1 → H' q = some (.lst ((dStep (stOf oc) cl).2.map V.int)) → q ≠ av → Q (.ref t) H'
def sp_answers (K : PySem.W.Frag) : Sp := fun vs H Q _ => ∃ (a : Addr) (cs : List Cl), vs = [.ref a] ∧ SqL K H a ((flat cs).map V.int) ∧ (∀ c ∈ cs, c.Ok) ∧ cs.length ≤ 60 ∧
  ∀ D H', H' D = some (.lst ((outs none cs).map V.int)) → Q (.ref D) H'
theorem CirO.mono {K : PySem.W.Frag} {C av : Addr} {H H' : Hp} {oc : OC} (e : Same H H') (h : CirO K C av H oc) : CirO K C av H' oc := fun c b s q => (h c b s q).mono e

section
variable {P : Program} {w : World} {K : PySem.W.Frag} {mg : Str → Option Value} {base : Heap} {C z aA aR tA tO tT : Addr}
abbrev s_created : Stmt := topS 79
theorem sc_created : FnScope ["circuit", "class_count"] ["circuit", "class_count"] (defScope s_created) := ⟨rfl, rfl, rfl, by decide +kernel, rfl, by decide +kernel, by decide +kernel⟩
theorem b_created : Bnd "created" "created" s_created ["circuit", "class_count"] := fun _ _ _ _ _ _ us hl => match us, hl with | [_, _], _ => rfl
theorem body_created (T : Txt K mg C z aA aR tA tO tT) (D_init : MakeOk P w K mg base C 2 (sp_M_init K C)) : Body P w K mg base "created" s_created ["circuit", "class_count"] 3 (sp_created K C) := by
  intro f cdv A outer s H vs Q E hr h
  obtain ⟨av, oc, n, rfl, hC, ⟨oa, hav⟩, k⟩ := h
  refine ⟨_, (pss_cons (ps_if (pt_not (pt_chain op_le op_le (pe_gint T.c_LEAST_CLASSES (by rfl)) (pv 1) (pe_gint T.c_MOST_CLASSES (by rfl)))) (pss_one (ps_ret (pe_tup (pa_cons (pv 0) (pa_cons (pe_lst (pa_cons (pe_gint T.c_BAD_ARGUMENT (by rfl)) pa_nil)) pa_nil))))) pss_nil)
        (pss_one (ps_ret (pe_tup (pa_cons (pe_makeD D_init (hr.mono (by decide)) (by rfl) T.g_C (pa_cons (pv 1) pa_nil)) (pa_cons (pe_lst (pa_cons pe_int pa_nil)) pa_nil)))))), ?_⟩
  have bad : ¬ (2 ≤ n ∧ n ≤ 5) → [V.int (-22)].length ≤ sizeLine ∧ ∀ q, H q = none → [cvOf oc, V.ref q].length ≤ sizeLine ∧ ∀ t, (upd H q (.lst [.int (-22)])) t = none → Q (.ref t) (upd (upd H q (.lst [.int (-22)])) t (.tup [cvOf oc, .ref q])) := fun hn => by
    refine ⟨(by show 1 ≤ sizeLine; decide), fun q hq => ⟨(by show 2 ≤ sizeLine; decide), fun t ht => ?_⟩⟩
    have s1 := same_new (o := .lst [.int (-22)]) hq
    have s2 := same_new (o := .tup [cvOf oc, .ref q]) ht
    refine k t q oc _ (s1.trans s2) upd_same (hC.mono (s1.trans s2)) ?_ ?_ (ne_of_none hav hq).symm
    · rw [if_neg hn, if_neg hn]
    · rw [if_neg hn]
      exact s2 _ _ upd_same
  refine ⟨_, rfl, _, _, rfl, rfl, _, rfl, ite2 (fun c1 => ?_) (fun c1 => ?_)⟩
  rotate_left
  · have hd : ¬ (2 : Int) ≤ (n : Int) := fun q => c1 (decide_eq_true q)
    exact ⟨_, rfl, iteT ⟨_, rfl, bad (by omega)⟩⟩
  have hd1 : (2 : Int) ≤ (n : Int) := of_decide_eq_true c1
  refine ⟨_, _, rfl, rfl, _, rfl, ite2 (fun c2 => ?_) (fun c2 => ?_)⟩
  · have hd : ¬ (n : Int) ≤ 5 := by simpa using c2
    exact ⟨_, rfl, bad (by omega)⟩
  have hd2 : (n : Int) ≤ 5 := by simpa using c2
  have hn : 2 ≤ n ∧ n ≤ 5 := by omega
  refine ⟨_, rfl, fun x dx hx hdx hne => ?_⟩
  have nax : av ≠ x := ne_of_none hav hx
  have nad : av ≠ dx := ne_of_none hav hdx
  refine ⟨x, dx, av, n, rfl, upd_same, by omega, by omega, ⟨oa, by rw [upd_ne nax, upd_ne nad]; exact hav⟩, nax.symm, fun H1 b kp hC1 => ⟨rfl, ?_⟩⟩
  have s1 : Same H H1 := fun y o hy => by
    have nyx : y ≠ x := ne_of_none hy hx
    have nyd : y ≠ dx := ne_of_none hy hdx
    exact kp y o (by rw [upd_ne nyx, upd_ne nyd]; exact hy) nyx
  refine ⟨(by show 1 ≤ sizeLine; decide), fun q hq => ⟨(by show 2 ≤ sizeLine; decide), fun t ht => ?_⟩⟩
  have s2 := same_new (o := .lst [.int 0]) hq
  have s3 := same_new (o := .tup [.ref x, .ref q]) ht
  refine k t q (some (x, b, fresh n)) _ ((s1.trans s2).trans s3) upd_same ?_ ?_ ?_ (ne_of_none (s1 _ _ hav) hq).symm
  · intro c b' s' e
    cases e
    exact hC1.mono (s2.trans s3)
  · rw [if_pos hn, if_pos hn]
    rfl
  · rw [if_pos hn]
    exact s3 _ _ upd_same
theorem def_created {f : Addr} (h : Here K mg "created" s_created f) (T : Txt K mg C z aA aR tA tO tT) (D_init : MakeOk P w K mg base C 2 (sp_M_init K C)) : DefOk P w K mg base "created" 4 (sp_created K C) :=
  mkDef h sc_created b_created (fun vs H Q E h => by obtain ⟨_, _, _, rfl, _⟩ := h; rfl) (body_created T D_init)

theorem step_create (st : Option Circuit) (n : Nat) (r : List Nat) : dStep st ⟨0, [n], r⟩ = if 2 ≤ n ∧ n ≤ 5 then (some (fresh n), [0]) else (st, [-22]) := rfl
theorem step_none {c : Cl} (h : c.num ≠ 0) : dStep none c = (none, [-11]) := by
  unfold dStep
  split
  · rename_i e _
    exact absurd e h
  · rfl
  · rename_i q _
    cases q
theorem step_some {c : Cl} {s : Circuit} (h : c.num ≠ 0) : dStep (some s) c = (some (dCall s c.num c.as c.rw).1, (dCall s c.num c.as c.rw).2) := by
  unfold dStep
  split
  · rename_i e _
    exact absurd e h
  · rename_i q _
    cases q
  · rename_i q _
    cases q
    rfl
abbrev s_answered : Stmt := topS 80
theorem sc_answered : FnScope ["circuit", "number", "arguments", "row"] ["circuit", "number", "arguments", "row"] (defScope s_answered) := ⟨rfl, rfl, rfl, by decide +kernel, rfl, by decide +kernel, by decide +kernel⟩
theorem b_answered : Bnd "answered" "answered" s_answered ["circuit", "number", "arguments", "row"] := fun _ _ _ _ _ _ us hl => match us, hl with | [_, _, _, _], _ => rfl
theorem body_answered (T : Txt K mg C z aA aR tA tO tT) (D_created : DefOk P w K mg base "created" 4 (sp_created K C)) (D_do_call : DefOk P w K mg base "do_call" 9 (sp_do_call K C)) : Body P w K mg base "answered" s_answered ["circuit", "number", "arguments", "row"] 9 (sp_answered K C) := by
  intro f cdv A outer s H vs Q E hr h
  obtain ⟨av, pa, pr, oc, kk, cl, rfl, hC, ⟨oa, hav⟩, wf, hk, hpa, hpr, ok, k⟩ := h
  refine ⟨_, (pss_cons (ps_if (pt_cmpR op_eq (pv 1) (pe_gint T.c_CREATE (by rfl)) (nomark _)) (pss_one (ps_ret (pe_callD D_created (hr.mono (by decide)) (by rfl) (pa_cons (pv 0) (pa_cons (pe_ix (r := rIxL K) ix_list (pv 2) pe_int (fun _ _ => rfl)) pa_nil))))) pss_nil)
        (pss_cons (ps_if (pt_cmpR op_isN (pv 0) pe_non (nomark _)) (pss_one (ps_ret (pe_tup (pa_cons pe_non (pa_cons (pe_lst (pa_cons (pe_gint T.c_NO_CIRCUIT (by rfl)) pa_nil)) pa_nil))))) pss_nil)
        (pss_one (ps_ret (pe_tup (pa_cons (pv 0) (pa_cons (pe_callD D_do_call (hr.mono (by decide)) (by rfl) (pa_cons (pv 0) (pa_cons (pv 1) (pa_cons (pv 2) (pa_cons (pv 3) pa_nil))))) pa_nil))))))), ?_⟩
  refine ⟨_, rfl, rfl, _, rfl, ite2 (fun c0 => ?_) (fun c0 => ?_)⟩
  · -- create
    have e0 : cl.num = 0 := by
      have q := of_decide_eq_true c0
      injection q with q
      omega
    obtain ⟨n, as, r⟩ := cl
    obtain ⟨hn, ha, _, h8⟩ := ok
    dsimp only at e0 ha hpa hpr k ⊢
    subst e0
    obtain ⟨i, rfl⟩ := len1 ha
    rw [step_create] at k
    refine ⟨_, rfl, _, rfl, pa, _, _, _, rfl, rfl, SqL.of hpa, at_of (j := 0) rfl rfl, av, oc, i, rfl, hC, ⟨oa, hav⟩, fun t q oc' H' e ht hC' est hq nq => ?_⟩
    refine k t q oc' H' (KeepO.of e) ht hC' ?_ ?_ nq
    · rw [← est]
    · rw [← est]
      exact hq
  have n0 : cl.num ≠ 0 := fun q => c0 (by rw [q]; decide +kernel)
  cases oc with
  | none =>
    refine ⟨_, rfl, rfl, _, rfl, ite_t (by rfl) ?_⟩
    refine ⟨(by show 1 ≤ sizeLine; decide), fun q hq => ⟨(by show 2 ≤ sizeLine; decide), fun t ht => ?_⟩⟩
    have s1 := same_new (o := .lst [.int (-11)]) hq
    have s2 := same_new (o := .tup [.non, .ref q]) ht
    have e := step_none n0
    refine k t q none _ (s1.trans s2) upd_same (fun c b s h => by cases h) ?_ ?_ (ne_of_none hav hq).symm
    · show none = (dStep none cl).1
      rw [e]
    · show _ = some (HO.lst ((dStep none cl).2.map V.int))
      rw [e]
      exact s2 _ _ upd_same
  | some x =>
    obtain ⟨c, b, st⟩ := x
    have e := step_some (s := st) n0
    refine ⟨_, rfl, rfl, _, rfl, ite_f (by rfl) ?_⟩
    refine ⟨_, rfl, _, rfl, _, rfl, _, rfl, _, rfl, c, b, av, pa, pr, st, kk, cl, rfl, ⟨hC c b st rfl, ⟨oa, hav⟩, wf st rfl, hk⟩, hpa, hpr, ok, n0, fun q H1 kp hC1 hq nq => ?_⟩
    refine ⟨(by show 2 ≤ sizeLine; decide), fun t ht => ?_⟩
    have s2 := same_new (o := .tup [.ref c, .ref q]) ht
    refine k t q (some (c, b, (dCall st cl.num cl.as cl.rw).1)) _ (kp.trans (Keep.of s2)) upd_same ?_ ?_ ?_ nq
    · intro c' b' s' h
      cases h
      exact hC1.mono s2
    · show some (dCall st cl.num cl.as cl.rw).1 = (dStep (some st) cl).1
      rw [e]
    · show _ = some (HO.lst ((dStep (some st) cl).2.map V.int))
      rw [e]
      exact s2 _ _ hq
theorem def_answered {f : Addr} (h : Here K mg "answered" s_answered f) (T : Txt K mg C z aA aR tA tO tT) (D_created : DefOk P w K mg base "created" 4 (sp_created K C)) (D_do_call : DefOk P w K mg base "do_call" 9 (sp_do_call K C)) : DefOk P w K mg base "answered" 10 (sp_answered K C) :=
  mkDef h sc_answered b_answered (fun vs H Q E h => by obtain ⟨_, _, _, _, _, _, rfl, _⟩ := h; rfl) (body_answered T D_created D_do_call)

abbrev s_answers : Stmt := topS 81
theorem sc_answers : FnScope ["calls", "circuit", "found", "number", "arguments", "row", "numbers"] ["calls"] (defScope s_answers) := ⟨rfl, rfl, rfl, by decide +kernel, rfl, by decide +kernel, by decide +kernel⟩
theorem b_answers : Bnd "answers" "answers" s_answers ["calls"] := fun _ _ _ _ _ _ us hl => match us, hl with | [_], _ => rfl
theorem body_answers (T : Txt K mg C z aA aR tA tO tT) (D_read_calls : DefOk P w K mg base "read_calls" 2 (sp_read_calls K)) (D_answered : DefOk P w K mg base "answered" 10 (sp_answered K C)) : Body P w K mg base "answers" s_answers ["calls", "circuit", "found", "number", "arguments", "row", "numbers"] 10 (sp_answers K) := by
  intro f cdv A outer s H vs Q E hr h
  obtain ⟨a, cs, rfl, hS, ok, hl, k⟩ := h
  refine ⟨_, (pss_cons (ps_par (i := 1) (j := 2) (by rfl) sc_answers.nd rfl rfl (by decide) rfl rfl (pa_cons pe_non (pa_cons (pe_lst pa_nil) pa_nil)) (by rfl))
        (pss_cons (ps_for PassesOwn.never rfl (pi_list (pe_callD D_read_calls (hr.mono (by decide)) (by rfl) (pa_cons (pv 0) pa_nil))) (pg_tup rfl (pgs_cons (pg_name (i := 3) sc_answers.nd rfl (Or.inl rfl)) (pgs_cons (pg_name (i := 4) sc_answers.nd rfl (Or.inl rfl)) (pgs_cons (pg_name (i := 5) sc_answers.nd rfl (Or.inl rfl)) pgs_nil)))) (pss_cons (ps_asg (pe_callD D_answered (hr.mono (by decide)) (by rfl) (pa_cons (pv 1) (pa_cons (pv 3) (pa_cons (pv 4) (pa_cons (pv 5) pa_nil))))) (pg_tup rfl (pgs_cons (pg_name (i := 1) sc_answers.nd rfl (Or.inl rfl)) (pgs_cons (pg_name (i := 6) sc_answers.nd rfl (Or.inl rfl)) pgs_nil))))
        (pss_cons (ps_expr (pe_bm PySem.F.plainAttrs_list PySem.F.slot_list_append PySem.F.type_list_append mt_append (pv 2) (pa_cons (pe_callB call_len_seq (by rfl) T.n_len PySem.boot_len (pa_cons (pv 6) pa_nil)) pa_nil)))
        (pss_one (ps_expr (pe_bm PySem.F.plainAttrs_list PySem.F.slot_list_extend PySem.F.type_list_extend mt_extend (pv 2) (pa_cons (pv 6) pa_nil)))))))
        (pss_one (ps_ret (pv 2))))), ?_⟩
  refine ⟨Nat.zero_le _, fun fo hfo => ⟨_, _, rfl, ?_⟩⟩
  have s0 := same_new (o := .lst []) hfo
  refine ⟨_, rfl, a, [fo], cs, rfl, s0.seq hS, ok, by omega, fun x hx => ⟨.lst [], by rw [List.mem_singleton.mp hx]; exact upd_same⟩, fun D qs H1 e1 n1 hD hc => ?_⟩
  have hf1 := e1 _ _ (upd_same (H := H) (a := fo) (o := .lst []))
  have nDf : D ≠ fo := (ne_of_none upd_same n1).symm
  have nfD : fo ∈ [D, fo] := by simp
  refine ⟨D, rfl, ⟨_, SqL.of hD⟩, for_list (K := K) (a := D) (xs := qs.map V.ref) (fun i σ H' => ∃ (oc : OC) (v3 v4 v5 v6 : Option V), σ = [some (.ref a), some (cvOf oc), some (.ref fo), v3, v4, v5, v6] ∧ H' fo = some (.lst ((outs none (cs.take i)).map V.int)) ∧ H' D = some (.lst (qs.map V.ref)) ∧ CallsAt H' [D, fo] qs cs ∧ CirO K C fo H' oc ∧ stOf oc = after none (cs.take i))
    ⟨none, none, none, none, none, rfl, hf1, hD, hc, fun c b s h => (by cases h), rfl⟩ (fun i σ H' _ ⟨_, _, _, _, _, _, _, h, _⟩ => SqL.of h) ?_ ?_⟩
  · rintro i y σ H' hi ⟨oc, v3, v4, v5, v6, rfl, hf, hD', hc', hC, est⟩
    obtain ⟨q, hq, rfl⟩ : ∃ q, qs[i]? = some q ∧ y = V.ref q := by
      rw [List.getElem?_map] at hi
      cases e : qs[i]? with
      | none =>
        rw [e] at hi
        cases hi
      | some u =>
        rw [e] at hi
        exact ⟨u, rfl, (Option.some.inj hi).symm⟩
    obtain ⟨cl, hcl, pa, pr, h1, h2, h3, h4, h5⟩ := hc'.get hq
    have hi' : i < cs.length := (List.getElem?_eq_some_iff.mp hcl).1
    have wf0 : WfO (stOf oc) i := by
      rw [est]
      have w := wf_start (cs.take i)
      rw [List.length_take, Nat.min_eq_left (by omega)] at w
      exact w
    refine ⟨q, _, rfl, SqT.of h1, rfl, _, _, rfl, _, _, rfl, _, _, rfl, rfl, ?_⟩
    refine ⟨_, rfl, _, rfl, _, rfl, _, rfl, fo, pa, pr, oc, i, cl, rfl, hC, ⟨_, hf⟩, wf0, by omega, h2, h3, ok _ (List.mem_of_getElem? hcl), fun t r oc' H2 kp ht hC2 est2 hr2 nr => ?_⟩
    have hf2 := keep_av kp hC hf
    have hD2 := keep_refs kp hC wf0 hD' hc'.tups
    have hc2 : CallsAt H2 [D, fo] qs cs := hc'.imp fun _ _ q => keep_call kp hC wf0 q
    rw [est] at est2 hr2
    have rl : (dStep (after none (cs.take i)) cl).2.length ≤ 11 := dStep_len (k := i) (by rw [← est]; exact wf0) cl
    have ol : (outs none (cs.take i)).length ≤ 12 * 60 := by
      refine Nat.le_trans (outs_len (cs.take i) none 0 fun s e => by cases e) ?_
      rw [List.length_take]
      omega
    refine ⟨t, _, rfl, SqT.of ht, rfl, _, _, rfl, _, _, rfl, rfl, ?_⟩
    refine ⟨_, rfl, .inl ⟨rfl, _, SqL.of hf2⟩, _, rfl, r, _, rfl, .inl (SqL.of hr2), fo, _, _, rfl, rfl, hf2, (by rw [List.length_map]; exact Nat.lt_of_le_of_lt ol (by decide)), ?_⟩
    have hr3 : (upd H2 fo (.lst ((outs none (cs.take i)).map V.int ++ [.int ((((dStep (after none (cs.take i)) cl).2.map V.int).length : Nat) : Int)]))) r = some (.lst ((dStep (after none (cs.take i)) cl).2.map V.int)) := by
      rw [upd_ne nr]
      exact hr2
    refine ⟨_, rfl, .inl ⟨rfl, _, SqL.of upd_same⟩, _, rfl, fo, r, _, _, rfl, rfl, upd_same, hr3, ?_, ?_⟩
    · rw [List.length_append, List.length_map, List.length_map]
      refine Nat.le_trans (?_ : _ ≤ 12 * 60 + 1 + 11) (by decide)
      show (outs none (cs.take i)).length + 1 + (dStep (after none (cs.take i)) cl).2.length ≤ 12 * 60 + 1 + 11
      omega
    rw [upd_upd]
    refine ⟨oc', _, _, _, _, rfl, ?_, ?_, ?_, hC2.updAv hf2, ?_⟩
    · rw [upd_same, outs_take hcl, List.map_append, List.map_append, List.length_map]
      rfl
    · rw [upd_ne nDf]
      exact hD2
    · exact hc2.imp fun _ _ q => q.updL hf2 nfD
    · rw [est2, after_take hcl]
  · rintro σ H' ⟨oc, v3, v4, v5, v6, rfl, hf, hD', hc', hC, est⟩
    rw [List.length_map, hc'.len, List.take_length] at hf
    exact ⟨_, rfl, k fo H' hf⟩
theorem binds_answers {f : Addr} {fd : FuncData} (F : Fun K "answers" "answers" s_answers f fd) (s : Shared) (us : List Value) (hu : us.length = (["calls"] : List Str).length) : BindsTo s fd ⟨us, []⟩ ((["calls"] : List Str).zip us) := by
  obtain ⟨oc, od, kV, doc, pm, an, cdv, ct, osl, e, _⟩ := F.ex
  subst e
  exact .of_eq (b_answers kV doc pm an cdv ct us hu)
theorem fn_answers {f : Addr} {fd : FuncData} (F : Fun K "answers" "answers" s_answers f fd) (T : Txt K mg C z aA aR tA tO tT) (D_read_calls : DefOk P w K mg base "read_calls" 2 (sp_read_calls K)) (D_answered : DefOk P w K mg base "answered" 10 (sp_answered K C)) : FnOk P w K mg base CX0 11 f fd ["calls"] (sp_answers K) :=
  F.ok sc_answers (fun vs H Q E h => by obtain ⟨_, _, rfl, _⟩ := h; rfl) fun cdv A outer s H vs Q E hr h => body_answers T D_read_calls D_answered f cdv A outer s H vs Q E hr h
end
end Gs
end P_GsB13
section P_GsB14
set_option Elab.async false
set_option linter.all false
set_option maxRecDepth 100000
set_option maxHeartbeats 8000000
/-! GsB14: all defs together, from what the top has written. -/
namespace Gs
open PySem PySem.Spec PyProof.Rows L2
open Kp408 (Circuit)
def HereK (K : PySem.W.Frag) (x : Str) (st : Stmt) (f : Addr) : Prop := PySem.W.nsIn K mainGlobals x = some (some (.ref f)) ∧ ∃ fd, Fun K x x st f fd
theorem hereK_mk {K : PySem.W.Frag} {x : Str} {st : Stmt} {f : Addr} {oc : Value} {od an : Option Addr} {osl : Array (Option Value)} {kV doc pm cdv ct : Value} (a : PySem.W.nsIn K mainGlobals x = some (some (.ref f))) (l : K.lookup f = some ⟨oc, od, .func (PySem.W.fnOf x x (defArgs st) (defBody st) (defScope st) .none kV doc pm an cdv ct), osl⟩)
    (c : PySem.W.codeIn K cdv x = true) (k : PySem.W.keepIn K (.ref f) = true) : HereK K x st f := ⟨a, _, fun_mk l c k⟩
theorem HereK.here {K : PySem.W.Frag} {x : Str} {st : Stmt} {f : Addr} {h : Heap} {mg : Str → Option Value} (X : K.In h) (G : h.Ns mainGlobals mg) (H : HereK K x st f) : Here K mg x st f := ⟨PySem.W.mg_of X G H.1, H.2⟩
theorem hereM_mk {K : PySem.W.Frag} {C : Addr} {x q : Str} {st : Stmt} {f : Addr} {oc : Value} {od an : Option Addr} {osl : Array (Option Value)} {kV doc pm cdv ct : Value} (a : PySem.W.findIn K (.ref C) x = some (some (.ref f))) (i : PySem.W.isFn K (.ref f) = true) (l : K.lookup f = some ⟨oc, od, .func (PySem.W.fnOf x q (defArgs st) (defBody st) (defScope st) .none kV doc pm an cdv ct), osl⟩)
    (c : PySem.W.codeIn K cdv q = true) (k : PySem.W.keepIn K (.ref f) = true) : HereM K C x q st := ⟨f, _, ⟨a, i, k⟩, fun_mk l c k⟩
theorem hereI_mk {K : PySem.W.Frag} {C : Addr} {q : Str} {st : Stmt} {f : Addr} {oc : Value} {od an : Option Addr} {osl : Array (Option Value)} {kV doc pm cdv ct : Value} (mk : PySem.W.makesIn K C = true) (kc : PySem.W.keepIn K (.ref C) = true) (a : PySem.W.findIn K (.ref C) "__init__" = some (some (.ref f))) (i : PySem.W.isFn K (.ref f) = true) (l : K.lookup f = some ⟨oc, od, .func (PySem.W.fnOf "__init__" q (defArgs st) (defBody st) (defScope st) .none kV doc pm an cdv ct), osl⟩)
    (c : PySem.W.codeIn K cdv q = true) (k : PySem.W.keepIn K (.ref f) = true) : HereI K C q st := ⟨f, _, ⟨mk, a, i, kc⟩, fun_mk l c k⟩
theorem AtOk.mono {P : Program} {w : World} {K : PySem.W.Frag} {mg : Str → Option Value} {base : Heap} {f : Addr} {j k : Nat} {sp : Sp} (h : AtOk P w K mg base f j sp) (hjk : j ≤ k) : AtOk P w K mg base f k sp := by
  obtain ⟨fd, ps, h1, h2, F⟩ := h
  exact ⟨fd, ps, h1, h2, F.mono hjk⟩
def keysOkB (es : Array DictEntry) : Bool := es.toList.all fun e => match e.key with
  | .int k _ => decide (e.hash = hashInt k)
  | _ => false
theorem ktab_mk {K : PySem.W.Frag} {a : Addr} {es : Array DictEntry} {n : Nat} (l : K.lookup a = some ⟨.type "dict", none, .dict es n, #[]⟩) (s : (a == sysModules) = false) (h : keysOkB es = true) : KTab K a := by
  refine ⟨es, n, l, s, fun e he => ?_⟩
  unfold keysOkB at h
  rw [List.all_eq_true] at h
  have q := h e he
  split at q
  · rename_i k t hk
    exact ⟨k, t, hk, of_decide_eq_true q⟩
  · cases q
theorem tab_mk {K : PySem.W.Frag} {a : Addr} {es : Array DictEntry} {n : Nat} {i : Int} {r : Option Value} (l : K.lookup a = some ⟨.type "dict", none, .dict es n, #[]⟩) (h : findBy Value.isInt es i = r) : tabAt K a i = r := by
  unfold tabAt
  rw [l]
  exact h
theorem tup_mk {K : PySem.W.Frag} {a : Addr} {its : List Value} {n : Nat} {od : Option Addr} {sl : Array (Option Value)} {xs : List V} (l : K.lookup a = some ⟨.type "tuple", od, .seq its.toArray n, sl⟩) (hs : its.length ≤ 100) (hv : Vals xs its) (H : Hp) : SqT K H a xs :=
  .inr ⟨_, _, n, l, rfl, rfl, by rw [List.size_toArray]; exact Nat.le_trans hs (by decide), hv⟩

theorem all_mk {P : Program} {w : World} {K : PySem.W.Frag} {h : Heap} {mg : Str → Option Value} {fa : Addr} (X : K.In h) (G : h.Ns mainGlobals mg) (hfa : mg "answers" = some (.ref fa))
    {C z aA aR tA tO tT : Addr}
    {f_common f_ratio f_plus f_times f_total f_is_no_less f_shown f_unbroken f_is_row f_into_class f_one_pass f_passes_done f_whole_amounts f_undersize f_oversize f_together f_rounds_done f_are_small f_is_steady f_class_input f_steady_input f_steady_product f_steady_load f_coarsest f_is_class f_is_cut f_with_count f_set_breakage f_get_breakage f_set_feed f_load f_grind f_remove_finer f_get_amounts f_amount_up_to f_preview_grind f_steady_refusal f_has_steady_state f_tell_input f_tell_product f_tell_load f_load_ratio f_simulate_rounds f_totals f_passes_needed f_coarsest_cut f_get_feed f_do_call f_read_call f_read_calls f_created f_answered f_answers : Addr}
    {k_NO_CIRCUIT k_NO_CLASS k_BAD_ARGUMENT k_NO_SUCH k_NOTHING_THERE k_TOO_LARGE k_LEAST_CLASSES k_MOST_CLASSES k_MOST_PERCENT k_MOST_TURNS k_MOST_SHARE k_MOST_LOAD k_MOST_LOAD_PART k_BOUND k_CREATE : Tok}
    {esA esO esT : Array DictEntry} {nA nO nT nz nAr nR : Nat} {odz odA odR : Option Addr} {slz slA slR : Array (Option Value)}
    {tz0 tz1 tr0 tr1 ta0 ta1 ta2 ta3 ta4 ta5 ta6 ta7 ta8 ta9 ta10 ta11 ta12 ta13 ta14 ta15 ta16 ta17 ta18 ta19 : Tok}
    (h_common : HereK K "common" s_common f_common)
    (h_ratio : HereK K "ratio" s_ratio f_ratio)
    (h_plus : HereK K "plus" s_plus f_plus)
    (h_times : HereK K "times" s_times f_times)
    (h_total : HereK K "total" s_total f_total)
    (h_is_no_less : HereK K "is_no_less" s_is_no_less f_is_no_less)
    (h_shown : HereK K "shown" s_shown f_shown)
    (h_unbroken : HereK K "unbroken" s_unbroken f_unbroken)
    (h_is_row : HereK K "is_row" s_is_row f_is_row)
    (h_into_class : HereK K "into_class" s_into_class f_into_class)
    (h_one_pass : HereK K "one_pass" s_one_pass f_one_pass)
    (h_passes_done : HereK K "passes_done" s_passes_done f_passes_done)
    (h_whole_amounts : HereK K "whole_amounts" s_whole_amounts f_whole_amounts)
    (h_undersize : HereK K "undersize" s_undersize f_undersize)
    (h_oversize : HereK K "oversize" s_oversize f_oversize)
    (h_together : HereK K "together" s_together f_together)
    (h_rounds_done : HereK K "rounds_done" s_rounds_done f_rounds_done)
    (h_are_small : HereK K "are_small" s_are_small f_are_small)
    (h_is_steady : HereK K "is_steady" s_is_steady f_is_steady)
    (h_class_input : HereK K "class_input" s_class_input f_class_input)
    (h_steady_input : HereK K "steady_input" s_steady_input f_steady_input)
    (h_steady_product : HereK K "steady_product" s_steady_product f_steady_product)
    (h_steady_load : HereK K "steady_load" s_steady_load f_steady_load)
    (h_coarsest : HereK K "coarsest" s_coarsest f_coarsest)
    (h_is_class : HereK K "is_class" s_is_class f_is_class)
    (h_is_cut : HereK K "is_cut" s_is_cut f_is_cut)
    (h_with_count : HereK K "with_count" s_with_count f_with_count)
    (h_set_breakage : HereK K "set_breakage" s_set_breakage f_set_breakage)
    (h_get_breakage : HereK K "get_breakage" s_get_breakage f_get_breakage)
    (h_set_feed : HereK K "set_feed" s_set_feed f_set_feed)
    (h_load : HereK K "load" s_load f_load)
    (h_grind : HereK K "grind" s_grind f_grind)
    (h_remove_finer : HereK K "remove_finer" s_remove_finer f_remove_finer)
    (h_get_amounts : HereK K "get_amounts" s_get_amounts f_get_amounts)
    (h_amount_up_to : HereK K "amount_up_to" s_amount_up_to f_amount_up_to)
    (h_preview_grind : HereK K "preview_grind" s_preview_grind f_preview_grind)
    (h_steady_refusal : HereK K "steady_refusal" s_steady_refusal f_steady_refusal)
    (h_has_steady_state : HereK K "has_steady_state" s_has_steady_state f_has_steady_state)
    (h_tell_input : HereK K "tell_input" s_tell_input f_tell_input)
    (h_tell_product : HereK K "tell_product" s_tell_product f_tell_product)
    (h_tell_load : HereK K "tell_load" s_tell_load f_tell_load)
    (h_load_ratio : HereK K "load_ratio" s_load_ratio f_load_ratio)
    (h_simulate_rounds : HereK K "simulate_rounds" s_simulate_rounds f_simulate_rounds)
    (h_totals : HereK K "totals" s_totals f_totals)
    (h_passes_needed : HereK K "passes_needed" s_passes_needed f_passes_needed)
    (h_coarsest_cut : HereK K "coarsest_cut" s_coarsest_cut f_coarsest_cut)
    (h_get_feed : HereK K "get_feed" s_get_feed f_get_feed)
    (h_do_call : HereK K "do_call" s_do_call f_do_call)
    (h_read_call : HereK K "read_call" s_read_call f_read_call)
    (h_read_calls : HereK K "read_calls" s_read_calls f_read_calls)
    (h_created : HereK K "created" s_created f_created)
    (h_answered : HereK K "answered" s_answered f_answered)
    (h_answers : HereK K "answers" s_answers f_answers)
    (aC : PySem.W.nsIn K mainGlobals "Circuit" = some (some (.ref C)))
    (h_init : HereI K C "Circuit.__init__" s_Circuit_init)
    (h_Circuit_class_count : HereM K C "class_count" "Circuit.class_count" s_Circuit_class_count)
    (h_Circuit_put_row : HereM K C "put_row" "Circuit.put_row" s_Circuit_put_row)
    (h_Circuit_put_feed : HereM K C "put_feed" "Circuit.put_feed" s_Circuit_put_feed)
    (h_Circuit_load : HereM K C "load" "Circuit.load" s_Circuit_load)
    (h_Circuit_grind : HereM K C "grind" "Circuit.grind" s_Circuit_grind)
    (h_Circuit_remove_finer : HereM K C "remove_finer" "Circuit.remove_finer" s_Circuit_remove_finer)
    (h_Circuit_present : HereM K C "present" "Circuit.present" s_Circuit_present)
    (h_Circuit_passes_needed : HereM K C "passes_needed" "Circuit.passes_needed" s_Circuit_passes_needed)
    (c_NO_CIRCUIT : PySem.W.nsIn K mainGlobals "NO_CIRCUIT" = some (some (.int (-11) k_NO_CIRCUIT)))
    (c_NO_CLASS : PySem.W.nsIn K mainGlobals "NO_CLASS" = some (some (.int (-2) k_NO_CLASS)))
    (c_BAD_ARGUMENT : PySem.W.nsIn K mainGlobals "BAD_ARGUMENT" = some (some (.int (-22) k_BAD_ARGUMENT)))
    (c_NO_SUCH : PySem.W.nsIn K mainGlobals "NO_SUCH" = some (some (.int (-33) k_NO_SUCH)))
    (c_NOTHING_THERE : PySem.W.nsIn K mainGlobals "NOTHING_THERE" = some (some (.int (-6) k_NOTHING_THERE)))
    (c_TOO_LARGE : PySem.W.nsIn K mainGlobals "TOO_LARGE" = some (some (.int (-75) k_TOO_LARGE)))
    (c_LEAST_CLASSES : PySem.W.nsIn K mainGlobals "LEAST_CLASSES" = some (some (.int 2 k_LEAST_CLASSES)))
    (c_MOST_CLASSES : PySem.W.nsIn K mainGlobals "MOST_CLASSES" = some (some (.int 5 k_MOST_CLASSES)))
    (c_MOST_PERCENT : PySem.W.nsIn K mainGlobals "MOST_PERCENT" = some (some (.int 100 k_MOST_PERCENT)))
    (c_MOST_TURNS : PySem.W.nsIn K mainGlobals "MOST_TURNS" = some (some (.int 12 k_MOST_TURNS)))
    (c_MOST_SHARE : PySem.W.nsIn K mainGlobals "MOST_SHARE" = some (some (.int 100 k_MOST_SHARE)))
    (c_MOST_LOAD : PySem.W.nsIn K mainGlobals "MOST_LOAD" = some (some (.int 999 k_MOST_LOAD)))
    (c_MOST_LOAD_PART : PySem.W.nsIn K mainGlobals "MOST_LOAD_PART" = some (some (.int 99 k_MOST_LOAD_PART)))
    (c_BOUND : PySem.W.nsIn K mainGlobals "BOUND" = some (some (.int 1000000000000000000000000000000 k_BOUND)))
    (c_CREATE : PySem.W.nsIn K mainGlobals "CREATE" = some (some (.int 0 k_CREATE)))
    (g_ZERO : PySem.W.nsIn K mainGlobals "ZERO" = some (some (.ref z)))
    (g_ARGUMENTS : PySem.W.nsIn K mainGlobals "ARGUMENTS" = some (some (.ref aA)))
    (g_WITH_ROW : PySem.W.nsIn K mainGlobals "WITH_ROW" = some (some (.ref aR)))
    (g_ALONE : PySem.W.nsIn K mainGlobals "ALONE" = some (some (.ref tA)))
    (g_WITH_ONE : PySem.W.nsIn K mainGlobals "WITH_ONE" = some (some (.ref tO)))
    (g_WITH_TWO : PySem.W.nsIn K mainGlobals "WITH_TWO" = some (some (.ref tT)))
    (lZ : K.lookup z = some ⟨.type "tuple", odz, .seq [Value.int 0 tz0, Value.int 1 tz1].toArray nz, slz⟩)
    (lAr : K.lookup aA = some ⟨.type "tuple", odA, .seq [Value.int 1 ta0, Value.int 1 ta1, Value.int 1 ta2, Value.int 0 ta3, Value.int 0 ta4, Value.int 0 ta5, Value.int 1 ta6, Value.int 0 ta7, Value.int 1 ta8, Value.int 1 ta9, Value.int 1 ta10, Value.int 1 ta11, Value.int 1 ta12, Value.int 1 ta13, Value.int 1 ta14, Value.int 2 ta15, Value.int 0 ta16, Value.int 2 ta17, Value.int 2 ta18, Value.int 0 ta19].toArray nAr, slA⟩)
    (lR : K.lookup aR = some ⟨.type "tuple", odR, .seq [Value.int 1 tr0, Value.int 3 tr1].toArray nR, slR⟩)
    (lA : K.lookup tA = some ⟨.type "dict", none, .dict esA nA, #[]⟩)
    (sA : (tA == sysModules) = false)
    (qA : keysOkB esA = true)
    (lO : K.lookup tO = some ⟨.type "dict", none, .dict esO nO, #[]⟩)
    (sO : (tO == sysModules) = false)
    (qO : keysOkB esO = true)
    (lT : K.lookup tT = some ⟨.type "dict", none, .dict esT nT, #[]⟩)
    (sT : (tT == sysModules) = false)
    (qT : keysOkB esT = true)
    (eA4 : findBy Value.isInt esA 4 = some (.ref f_load))
    (eA5 : findBy Value.isInt esA 5 = some (.ref f_grind))
    (eA7 : findBy Value.isInt esA 7 = some (.ref f_get_amounts))
    (eA16 : findBy Value.isInt esA 16 = some (.ref f_totals))
    (eA19 : findBy Value.isInt esA 19 = some (.ref f_get_feed))
    (eO2 : findBy Value.isInt esO 2 = some (.ref f_get_breakage))
    (eO6 : findBy Value.isInt esO 6 = some (.ref f_remove_finer))
    (eO8 : findBy Value.isInt esO 8 = some (.ref f_amount_up_to))
    (eO9 : findBy Value.isInt esO 9 = some (.ref f_preview_grind))
    (eO10 : findBy Value.isInt esO 10 = some (.ref f_has_steady_state))
    (eO11 : findBy Value.isInt esO 11 = some (.ref f_tell_input))
    (eO12 : findBy Value.isInt esO 12 = some (.ref f_tell_product))
    (eO13 : findBy Value.isInt esO 13 = some (.ref f_tell_load))
    (eO14 : findBy Value.isInt esO 14 = some (.ref f_load_ratio))
    (eT15 : findBy Value.isInt esT 15 = some (.ref f_simulate_rounds))
    (eT17 : findBy Value.isInt esT 17 = some (.ref f_passes_needed))
    (eT18 : findBy Value.isInt esT 18 = some (.ref f_coarsest_cut))
    (nA2 : findBy Value.isInt esA 2 = none)
    (nA6 : findBy Value.isInt esA 6 = none)
    (nA8 : findBy Value.isInt esA 8 = none)
    (nA9 : findBy Value.isInt esA 9 = none)
    (nA10 : findBy Value.isInt esA 10 = none)
    (nA11 : findBy Value.isInt esA 11 = none)
    (nA12 : findBy Value.isInt esA 12 = none)
    (nA13 : findBy Value.isInt esA 13 = none)
    (nA14 : findBy Value.isInt esA 14 = none)
    (nA15 : findBy Value.isInt esA 15 = none)
    (nA17 : findBy Value.isInt esA 17 = none)
    (nA18 : findBy Value.isInt esA 18 = none)
    (nO15 : findBy Value.isInt esO 15 = none)
    (nO17 : findBy Value.isInt esO 17 = none)
    (nO18 : findBy Value.isInt esO 18 = none)
    (n_len : PySem.W.nsIn K mainGlobals "len" = some none)
    (n_sum : PySem.W.nsIn K mainGlobals "sum" = some none)
    (n_all : PySem.W.nsIn K mainGlobals "all" = some none)
    (n_any : PySem.W.nsIn K mainGlobals "any" = some none)
    (n_list : PySem.W.nsIn K mainGlobals "list" = some none)
    (n_int : PySem.W.nsIn K mainGlobals "int" = some none)
    (n_range : PySem.W.nsIn K mainGlobals "range" = some none)
    (n_enumerate : PySem.W.nsIn K mainGlobals "enumerate" = some none)
    (n_zip : PySem.W.nsIn K mainGlobals "zip" = some none)
    (pg : PySem.W.plainGet K C Str.empty = true)
    (hd : PySem.W.hasDictIn K C = true)
    (po : PySem.W.plainOver K C = true)
    (sa : PySem.W.findIn K (.ref C) "__setattr__" = some (some (.builtin "object.__setattr__")))
    (at_breakage : PySem.W.findIn K (.ref C) "breakage" = some none)
    (at_feed : PySem.W.findIn K (.ref C) "feed" = some none)
    (at_amounts : PySem.W.findIn K (.ref C) "amounts" = some none)
    (at_loaded : PySem.W.findIn K (.ref C) "loaded" = some none)
    (at_removed : PySem.W.findIn K (.ref C) "removed" = some none)
    (at_pass_count : PySem.W.findIn K (.ref C) "pass_count" = some none) :
    ∃ fd : FuncData, (∀ (s : Shared) (us : List Value), us.length = (["calls"] : List Str).length → BindsTo s fd ⟨us, []⟩ ((["calls"] : List Str).zip us)) ∧ ∀ base : Heap, K.In base → base.Ns mainGlobals mg → FnOk P w K mg base CX0 11 fa fd ["calls"] (sp_answers K) := by
  have e := hfa.symm.trans (PySem.W.mg_of X G h_answers.1)
  cases e
  have T : Txt K mg C z aA aR tA tO tT := {
    c_NO_CIRCUIT := ⟨_, PySem.W.mg_of X G c_NO_CIRCUIT⟩
    c_NO_CLASS := ⟨_, PySem.W.mg_of X G c_NO_CLASS⟩
    c_BAD_ARGUMENT := ⟨_, PySem.W.mg_of X G c_BAD_ARGUMENT⟩
    c_NO_SUCH := ⟨_, PySem.W.mg_of X G c_NO_SUCH⟩
    c_NOTHING_THERE := ⟨_, PySem.W.mg_of X G c_NOTHING_THERE⟩
    c_TOO_LARGE := ⟨_, PySem.W.mg_of X G c_TOO_LARGE⟩
    c_LEAST_CLASSES := ⟨_, PySem.W.mg_of X G c_LEAST_CLASSES⟩
    c_MOST_CLASSES := ⟨_, PySem.W.mg_of X G c_MOST_CLASSES⟩
    c_MOST_PERCENT := ⟨_, PySem.W.mg_of X G c_MOST_PERCENT⟩
    c_MOST_TURNS := ⟨_, PySem.W.mg_of X G c_MOST_TURNS⟩
    c_MOST_SHARE := ⟨_, PySem.W.mg_of X G c_MOST_SHARE⟩
    c_MOST_LOAD := ⟨_, PySem.W.mg_of X G c_MOST_LOAD⟩
    c_MOST_LOAD_PART := ⟨_, PySem.W.mg_of X G c_MOST_LOAD_PART⟩
    c_BOUND := ⟨k_BOUND, by rw [PySem.W.mg_of X G c_BOUND]; unfold bnd; rfl⟩
    c_CREATE := ⟨_, PySem.W.mg_of X G c_CREATE⟩
    g_ZERO := PySem.W.mg_of X G g_ZERO
    g_ARGUMENTS := PySem.W.mg_of X G g_ARGUMENTS
    g_WITH_ROW := PySem.W.mg_of X G g_WITH_ROW
    g_ALONE := PySem.W.mg_of X G g_ALONE
    g_WITH_ONE := PySem.W.mg_of X G g_WITH_ONE
    g_WITH_TWO := PySem.W.mg_of X G g_WITH_TWO
    g_C := PySem.W.mg_of X G aC
    zero := tup_mk lZ (by show 2 ≤ 100; decide) (.cons ⟨_, rfl⟩ (.cons ⟨_, rfl⟩ .nil))
    argus := tup_mk lAr (by show 20 ≤ 100; decide) (.cons ⟨_, rfl⟩ (.cons ⟨_, rfl⟩ (.cons ⟨_, rfl⟩ (.cons ⟨_, rfl⟩ (.cons ⟨_, rfl⟩ (.cons ⟨_, rfl⟩ (.cons ⟨_, rfl⟩ (.cons ⟨_, rfl⟩ (.cons ⟨_, rfl⟩ (.cons ⟨_, rfl⟩ (.cons ⟨_, rfl⟩ (.cons ⟨_, rfl⟩ (.cons ⟨_, rfl⟩ (.cons ⟨_, rfl⟩ (.cons ⟨_, rfl⟩ (.cons ⟨_, rfl⟩ (.cons ⟨_, rfl⟩ (.cons ⟨_, rfl⟩ (.cons ⟨_, rfl⟩ (.cons ⟨_, rfl⟩ .nil))))))))))))))))))))
    rows := tup_mk lR (by show 2 ≤ 100; decide) (.cons ⟨_, rfl⟩ (.cons ⟨_, rfl⟩ .nil))
    n_len := PySem.W.mg_none_of X G n_len
    n_sum := PySem.W.mg_none_of X G n_sum
    n_all := PySem.W.mg_none_of X G n_all
    n_any := PySem.W.mg_none_of X G n_any
    n_list := PySem.W.mg_none_of X G n_list
    n_int := PySem.W.mg_none_of X G n_int
    n_range := PySem.W.mg_none_of X G n_range
    n_enumerate := PySem.W.mg_none_of X G n_enumerate
    n_zip := PySem.W.mg_none_of X G n_zip
    cl := ⟨pg, hd, po, sa⟩
    a_breakage := at_breakage
    a_feed := at_feed
    a_amounts := at_amounts
    a_loaded := at_loaded
    a_removed := at_removed
    a_pass_count := at_pass_count
  }
  obtain ⟨_, fd, F⟩ := h_answers
  refine ⟨fd, binds_answers F, fun base _ _ => ?_⟩
  have D_common := def_common (P := P) (w := w) (base := base) (h_common.here X G)
  have D_ratio := def_ratio (P := P) (w := w) (base := base) (h_ratio.here X G) D_common
  have D_plus := def_plus (P := P) (w := w) (base := base) (h_plus.here X G) D_ratio
  have D_times := def_times (P := P) (w := w) (base := base) (h_times.here X G) D_ratio
  have D_total := def_total (P := P) (w := w) (base := base) (h_total.here X G) T D_plus
  have D_is_no_less := def_is_no_less (P := P) (w := w) (base := base) (h_is_no_less.here X G)
  have D_shown := def_shown (P := P) (w := w) (base := base) (h_shown.here X G)
  have D_unbroken := def_unbroken (P := P) (w := w) (base := base) (h_unbroken.here X G) T
  have D_is_row := def_is_row (P := P) (w := w) (base := base) (h_is_row.here X G) T
  have D_into_class := def_into_class (P := P) (w := w) (base := base) (h_into_class.here X G) T D_plus D_times
  have D_one_pass := def_one_pass (P := P) (w := w) (base := base) (h_one_pass.here X G) T D_into_class
  have D_passes_done := def_passes_done (P := P) (w := w) (base := base) (h_passes_done.here X G) T D_one_pass
  have D_whole_amounts := def_whole_amounts (P := P) (w := w) (base := base) (h_whole_amounts.here X G)
  have D_undersize := def_undersize (P := P) (w := w) (base := base) (h_undersize.here X G) T
  have D_oversize := def_oversize (P := P) (w := w) (base := base) (h_oversize.here X G) T
  have D_together := def_together (P := P) (w := w) (base := base) (h_together.here X G) T D_plus
  have D_rounds_done := def_rounds_done (P := P) (w := w) (base := base) (h_rounds_done.here X G) T D_plus D_total D_one_pass D_together D_whole_amounts D_undersize D_oversize
  have D_are_small := def_are_small (P := P) (w := w) (base := base) (h_are_small.here X G) T
  have D_init := def_M_init (P := P) (w := w) (base := base) h_init T D_unbroken
  have M_class_count := def_M_class_count (P := P) (w := w) (base := base) h_Circuit_class_count T
  have M_put_row := def_M_put_row (P := P) (w := w) (base := base) h_Circuit_put_row T
  have M_put_feed := def_M_put_feed (P := P) (w := w) (base := base) h_Circuit_put_feed T
  have M_load := def_M_load (P := P) (w := w) (base := base) h_Circuit_load T D_plus D_together D_whole_amounts D_are_small
  have M_grind := def_M_grind (P := P) (w := w) (base := base) h_Circuit_grind T D_one_pass D_are_small
  have M_remove_finer := def_M_remove_finer (P := P) (w := w) (base := base) h_Circuit_remove_finer T D_plus D_total D_undersize D_oversize
  have M_present := def_M_present (P := P) (w := w) (base := base) h_Circuit_present T D_total
  have M_passes_needed := def_M_passes_needed (P := P) (w := w) (base := base) h_Circuit_passes_needed T M_present D_times D_is_no_less D_one_pass
  have D_is_steady := def_is_steady (P := P) (w := w) (base := base) (h_is_steady.here X G) T
  have D_class_input := def_class_input (P := P) (w := w) (base := base) (h_class_input.here X G) T D_plus D_times
  have D_steady_input := def_steady_input (P := P) (w := w) (base := base) (h_steady_input.here X G) T D_class_input
  have D_steady_product := def_steady_product (P := P) (w := w) (base := base) (h_steady_product.here X G) D_steady_input D_one_pass D_undersize
  have D_steady_load := def_steady_load (P := P) (w := w) (base := base) (h_steady_load.here X G) D_steady_input D_total
  have D_coarsest := def_coarsest (P := P) (w := w) (base := base) (h_coarsest.here X G) T D_is_steady D_is_no_less D_steady_load
  have D_is_class := def_is_class (P := P) (w := w) (base := base) (h_is_class.here X G) T M_class_count
  have D_is_cut := def_is_cut (P := P) (w := w) (base := base) (h_is_cut.here X G) T M_class_count
  have D_with_count := def_with_count (P := P) (w := w) (base := base) (h_with_count.here X G) T D_shown
  have D_set_breakage := def_set_breakage (P := P) (w := w) (base := base) (h_set_breakage.here X G) T D_is_class D_is_row M_put_row
  have A_get_breakage := at_get_breakage (P := P) (w := w) (base := base) (h_get_breakage.here X G) T D_is_class
  have D_set_feed := def_set_feed (P := P) (w := w) (base := base) (h_set_feed.here X G) T M_class_count M_put_feed
  have A_load := at_load (P := P) (w := w) (base := base) (h_load.here X G) T M_load D_with_count
  have A_grind := at_grind (P := P) (w := w) (base := base) (h_grind.here X G) T M_grind D_with_count
  have A_remove_finer := at_remove_finer (P := P) (w := w) (base := base) (h_remove_finer.here X G) T D_is_cut M_remove_finer D_shown
  have A_get_amounts := at_get_amounts (P := P) (w := w) (base := base) (h_get_amounts.here X G) T D_with_count
  have A_amount_up_to := at_amount_up_to (P := P) (w := w) (base := base) (h_amount_up_to.here X G) T D_is_class D_total D_shown
  have A_preview_grind := at_preview_grind (P := P) (w := w) (base := base) (h_preview_grind.here X G) T D_passes_done D_with_count
  have D_steady_refusal := def_steady_refusal (P := P) (w := w) (base := base) (h_steady_refusal.here X G) T D_is_cut D_is_steady
  have A_has_steady_state := at_has_steady_state (P := P) (w := w) (base := base) (h_has_steady_state.here X G) T D_is_cut D_is_steady
  have A_tell_input := at_tell_input (P := P) (w := w) (base := base) (h_tell_input.here X G) T D_steady_refusal D_with_count D_steady_input
  have A_tell_product := at_tell_product (P := P) (w := w) (base := base) (h_tell_product.here X G) T D_steady_refusal D_with_count D_steady_product
  have A_tell_load := at_tell_load (P := P) (w := w) (base := base) (h_tell_load.here X G) T D_steady_refusal D_shown D_steady_load
  have A_load_ratio := at_load_ratio (P := P) (w := w) (base := base) (h_load_ratio.here X G) T D_steady_refusal D_shown D_times D_steady_load
  have A_simulate_rounds := at_simulate_rounds (P := P) (w := w) (base := base) (h_simulate_rounds.here X G) T D_is_cut D_shown D_rounds_done
  have A_totals := at_totals (P := P) (w := w) (base := base) (h_totals.here X G) T M_present D_shown
  have A_passes_needed := at_passes_needed (P := P) (w := w) (base := base) (h_passes_needed.here X G) T M_present M_passes_needed
  have A_coarsest_cut := at_coarsest_cut (P := P) (w := w) (base := base) (h_coarsest_cut.here X G) T D_coarsest
  have A_get_feed := at_get_feed (P := P) (w := w) (base := base) (h_get_feed.here X G) T M_class_count
  have B : Tabs P w K mg base C tA tO tT := {
      kA := ktab_mk lA sA qA
      kO := ktab_mk lO sO qO
      kT := ktab_mk lT sT qT
      a4 := ⟨_, tab_mk lA eA4, AtOk.mono A_load (by decide)⟩
      a5 := ⟨_, tab_mk lA eA5, AtOk.mono A_grind (by decide)⟩
      a7 := ⟨_, tab_mk lA eA7, AtOk.mono A_get_amounts (by decide)⟩
      a16 := ⟨_, tab_mk lA eA16, AtOk.mono A_totals (by decide)⟩
      a19 := ⟨_, tab_mk lA eA19, AtOk.mono A_get_feed (by decide)⟩
      o2 := ⟨_, tab_mk lO eO2, AtOk.mono A_get_breakage (by decide)⟩
      o6 := ⟨_, tab_mk lO eO6, AtOk.mono A_remove_finer (by decide)⟩
      o8 := ⟨_, tab_mk lO eO8, AtOk.mono A_amount_up_to (by decide)⟩
      o9 := ⟨_, tab_mk lO eO9, AtOk.mono A_preview_grind (by decide)⟩
      o10 := ⟨_, tab_mk lO eO10, AtOk.mono A_has_steady_state (by decide)⟩
      o11 := ⟨_, tab_mk lO eO11, AtOk.mono A_tell_input (by decide)⟩
      o12 := ⟨_, tab_mk lO eO12, AtOk.mono A_tell_product (by decide)⟩
      o13 := ⟨_, tab_mk lO eO13, AtOk.mono A_tell_load (by decide)⟩
      o14 := ⟨_, tab_mk lO eO14, AtOk.mono A_load_ratio (by decide)⟩
      t15 := ⟨_, tab_mk lT eT15, AtOk.mono A_simulate_rounds (by decide)⟩
      t17 := ⟨_, tab_mk lT eT17, AtOk.mono A_passes_needed (by decide)⟩
      t18 := ⟨_, tab_mk lT eT18, AtOk.mono A_coarsest_cut (by decide)⟩
      nA2 := tab_mk lA nA2
      nA6 := tab_mk lA nA6
      nA8 := tab_mk lA nA8
      nA9 := tab_mk lA nA9
      nA10 := tab_mk lA nA10
      nA11 := tab_mk lA nA11
      nA12 := tab_mk lA nA12
      nA13 := tab_mk lA nA13
      nA14 := tab_mk lA nA14
      nA15 := tab_mk lA nA15
      nA17 := tab_mk lA nA17
      nA18 := tab_mk lA nA18
      nO15 := tab_mk lO nO15
      nO17 := tab_mk lO nO17
      nO18 := tab_mk lO nO18
    }
  have D_do_call := def_do_call (P := P) (w := w) (base := base) (h_do_call.here X G) T B D_set_breakage D_set_feed
  have D_read_call := def_read_call (P := P) (w := w) (base := base) (h_read_call.here X G) T
  have D_read_calls := def_read_calls (P := P) (w := w) (base := base) (h_read_calls.here X G) T D_read_call
  have D_created := def_created (P := P) (w := w) (base := base) (h_created.here X G) T D_init
  have D_answered := def_answered (P := P) (w := w) (base := base) (h_answered.here X G) T D_created D_do_call
  exact fn_answers F T D_read_calls D_answered
end Gs
end P_GsB14
section P_End
set_option Elab.async false
set_option linter.all false
set_option maxRecDepth 100000
open PySem PySem.W PyProof.Rows
set_option maxRecDepth 100000 in
set_option maxHeartbeats 0 in
theorem PySem.Challenge.cw_sievemill_s01_answers_holds : PySem.Challenge.rw_sievemill_s01_answers.Holds := by
  w_on; k_headS; (case hw => exact ⟨[.list [.int 4]], by decide +kernel, by decide +kernel⟩)
  k_fillS
  refine L2.walk_specK (r := PySem.Challenge.rw_sievemill_s01_answers) (k := 11) (CX := L2.CX0) (ps := ["calls"]) (sp := Gs.sp_answers) (by decide +kernel) rfl rfl ⟨rfl, by decide, by decide⟩ (fun w h Y => PySem.W.kIn_of Y) ?F ?S (fun _ _ _ _ z => z)
  case F =>
    intro w mg fa h Y KX G hmg
    refine' Gs.all_mk KX G hmg ?h_common ?h_ratio ?h_plus ?h_times ?h_total ?h_is_no_less ?h_shown ?h_unbroken ?h_is_row ?h_into_class ?h_one_pass ?h_passes_done ?h_whole_amounts ?h_undersize ?h_oversize ?h_together ?h_rounds_done ?h_are_small ?h_is_steady ?h_class_input ?h_steady_input ?h_steady_product ?h_steady_load ?h_coarsest ?h_is_class ?h_is_cut ?h_with_count ?h_set_breakage ?h_get_breakage ?h_set_feed ?h_load ?h_grind ?h_remove_finer ?h_get_amounts ?h_amount_up_to ?h_preview_grind ?h_steady_refusal ?h_has_steady_state ?h_tell_input ?h_tell_product ?h_tell_load ?h_load_ratio ?h_simulate_rounds ?h_totals ?h_passes_needed ?h_coarsest_cut ?h_get_feed ?h_do_call ?h_read_call ?h_read_calls ?h_created ?h_answered ?h_answers ?aC ?h_init ?h_Circuit_class_count ?h_Circuit_put_row ?h_Circuit_put_feed ?h_Circuit_load ?h_Circuit_grind ?h_Circuit_remove_finer ?h_Circuit_present ?h_Circuit_passes_needed ?c_NO_CIRCUIT ?c_NO_CLASS ?c_BAD_ARGUMENT ?c_NO_SUCH ?c_NOTHING_THERE ?c_TOO_LARGE ?c_LEAST_CLASSES ?c_MOST_CLASSES ?c_MOST_PERCENT ?c_MOST_TURNS ?c_MOST_SHARE ?c_MOST_LOAD ?c_MOST_LOAD_PART ?c_BOUND ?c_CREATE ?g_ZERO ?g_ARGUMENTS ?g_WITH_ROW ?g_ALONE ?g_WITH_ONE ?g_WITH_TWO ?lZ ?lAr ?lR ?lA ?sA ?qA ?lO ?sO ?qO ?lT ?sT ?qT ?eA4 ?eA5 ?eA7 ?eA16 ?eA19 ?eO2 ?eO6 ?eO8 ?eO9 ?eO10 ?eO11 ?eO12 ?eO13 ?eO14 ?eT15 ?eT17 ?eT18 ?nA2 ?nA6 ?nA8 ?nA9 ?nA10 ?nA11 ?nA12 ?nA13 ?nA14 ?nA15 ?nA17 ?nA18 ?nO15 ?nO17 ?nO18 ?n_len ?n_sum ?n_all ?n_any ?n_list ?n_int ?n_range ?n_enumerate ?n_zip ?pg ?hd ?po ?sa ?at_breakage ?at_feed ?at_amounts ?at_loaded ?at_removed ?at_pass_count
    (case h_common => (refine' Gs.hereK_mk ?a ?l ?c ?k; (case a => k_is); (case l => k_is); (case c => k_is); (case k => k_is)))
    (case h_ratio => (refine' Gs.hereK_mk ?a ?l ?c ?k; (case a => k_is); (case l => k_is); (case c => k_is); (case k => k_is)))
    (case h_plus => (refine' Gs.hereK_mk ?a ?l ?c ?k; (case a => k_is); (case l => k_is); (case c => k_is); (case k => k_is)))
    (case h_times => (refine' Gs.hereK_mk ?a ?l ?c ?k; (case a => k_is); (case l => k_is); (case c => k_is); (case k => k_is)))
    (case h_total => (refine' Gs.hereK_mk ?a ?l ?c ?k; (case a => k_is); (case l => k_is); (case c => k_is); (case k => k_is)))
    (case h_is_no_less => (refine' Gs.hereK_mk ?a ?l ?c ?k; (case a => k_is); (case l => k_is); (case c => k_is); (case k => k_is)))
    (case h_shown => (refine' Gs.hereK_mk ?a ?l ?c ?k; (case a => k_is); (case l => k_is); (case c => k_is); (case k => k_is)))
    (case h_unbroken => (refine' Gs.hereK_mk ?a ?l ?c ?k; (case a => k_is); (case l => k_is); (case c => k_is); (case k => k_is)))
    (case h_is_row => (refine' Gs.hereK_mk ?a ?l ?c ?k; (case a => k_is); (case l => k_is); (case c => k_is); (case k => k_is)))
    (case h_into_class => (refine' Gs.hereK_mk ?a ?l ?c ?k; (case a => k_is); (case l => k_is); (case c => k_is); (case k => k_is)))
    (case h_one_pass => (refine' Gs.hereK_mk ?a ?l ?c ?k; (case a => k_is); (case l => k_is); (case c => k_is); (case k => k_is)))
    (case h_passes_done => (refine' Gs.hereK_mk ?a ?l ?c ?k; (case a => k_is); (case l => k_is); (case c => k_is); (case k => k_is)))
    (case h_whole_amounts => (refine' Gs.hereK_mk ?a ?l ?c ?k; (case a => k_is); (case l => k_is); (case c => k_is); (case k => k_is)))
    (case h_undersize => (refine' Gs.hereK_mk ?a ?l ?c ?k; (case a => k_is); (case l => k_is); (case c => k_is); (case k => k_is)))
    (case h_oversize => (refine' Gs.hereK_mk ?a ?l ?c ?k; (case a => k_is); (case l => k_is); (case c => k_is); (case k => k_is)))
    (case h_together => (refine' Gs.hereK_mk ?a ?l ?c ?k; (case a => k_is); (case l => k_is); (case c => k_is); (case k => k_is)))
    (case h_rounds_done => (refine' Gs.hereK_mk ?a ?l ?c ?k; (case a => k_is); (case l => k_is); (case c => k_is); (case k => k_is)))
    (case h_are_small => (refine' Gs.hereK_mk ?a ?l ?c ?k; (case a => k_is); (case l => k_is); (case c => k_is); (case k => k_is)))
    (case h_is_steady => (refine' Gs.hereK_mk ?a ?l ?c ?k; (case a => k_is); (case l => k_is); (case c => k_is); (case k => k_is)))
    (case h_class_input => (refine' Gs.hereK_mk ?a ?l ?c ?k; (case a => k_is); (case l => k_is); (case c => k_is); (case k => k_is)))
    (case h_steady_input => (refine' Gs.hereK_mk ?a ?l ?c ?k; (case a => k_is); (case l => k_is); (case c => k_is); (case k => k_is)))
    (case h_steady_product => (refine' Gs.hereK_mk ?a ?l ?c ?k; (case a => k_is); (case l => k_is); (case c => k_is); (case k => k_is)))
    (case h_steady_load => (refine' Gs.hereK_mk ?a ?l ?c ?k; (case a => k_is); (case l => k_is); (case c => k_is); (case k => k_is)))
    (case h_coarsest => (refine' Gs.hereK_mk ?a ?l ?c ?k; (case a => k_is); (case l => k_is); (case c => k_is); (case k => k_is)))
    (case h_is_class => (refine' Gs.hereK_mk ?a ?l ?c ?k; (case a => k_is); (case l => k_is); (case c => k_is); (case k => k_is)))
    (case h_is_cut => (refine' Gs.hereK_mk ?a ?l ?c ?k; (case a => k_is); (case l => k_is); (case c => k_is); (case k => k_is)))
    (case h_with_count => (refine' Gs.hereK_mk ?a ?l ?c ?k; (case a => k_is); (case l => k_is); (case c => k_is); (case k => k_is)))
    (case h_set_breakage => (refine' Gs.hereK_mk ?a ?l ?c ?k; (case a => k_is); (case l => k_is); (case c => k_is); (case k => k_is)))
    (case h_get_breakage => (refine' Gs.hereK_mk ?a ?l ?c ?k; (case a => k_is); (case l => k_is); (case c => k_is); (case k => k_is)))
    (case h_set_feed => (refine' Gs.hereK_mk ?a ?l ?c ?k; (case a => k_is); (case l => k_is); (case c => k_is); (case k => k_is)))
    (case h_load => (refine' Gs.hereK_mk ?a ?l ?c ?k; (case a => k_is); (case l => k_is); (case c => k_is); (case k => k_is)))
    (case h_grind => (refine' Gs.hereK_mk ?a ?l ?c ?k; (case a => k_is); (case l => k_is); (case c => k_is); (case k => k_is)))
    (case h_remove_finer => (refine' Gs.hereK_mk ?a ?l ?c ?k; (case a => k_is); (case l => k_is); (case c => k_is); (case k => k_is)))
    (case h_get_amounts => (refine' Gs.hereK_mk ?a ?l ?c ?k; (case a => k_is); (case l => k_is); (case c => k_is); (case k => k_is)))
    (case h_amount_up_to => (refine' Gs.hereK_mk ?a ?l ?c ?k; (case a => k_is); (case l => k_is); (case c => k_is); (case k => k_is)))
    (case h_preview_grind => (refine' Gs.hereK_mk ?a ?l ?c ?k; (case a => k_is); (case l => k_is); (case c => k_is); (case k => k_is)))
    (case h_steady_refusal => (refine' Gs.hereK_mk ?a ?l ?c ?k; (case a => k_is); (case l => k_is); (case c => k_is); (case k => k_is)))
    (case h_has_steady_state => (refine' Gs.hereK_mk ?a ?l ?c ?k; (case a => k_is); (case l => k_is); (case c => k_is); (case k => k_is)))
    (case h_tell_input => (refine' Gs.hereK_mk ?a ?l ?c ?k; (case a => k_is); (case l => k_is); (case c => k_is); (case k => k_is)))
    (case h_tell_product => (refine' Gs.hereK_mk ?a ?l ?c ?k; (case a => k_is); (case l => k_is); (case c => k_is); (case k => k_is)))
    (case h_tell_load => (refine' Gs.hereK_mk ?a ?l ?c ?k; (case a => k_is); (case l => k_is); (case c => k_is); (case k => k_is)))
    (case h_load_ratio => (refine' Gs.hereK_mk ?a ?l ?c ?k; (case a => k_is); (case l => k_is); (case c => k_is); (case k => k_is)))
    (case h_simulate_rounds => (refine' Gs.hereK_mk ?a ?l ?c ?k; (case a => k_is); (case l => k_is); (case c => k_is); (case k => k_is)))
    (case h_totals => (refine' Gs.hereK_mk ?a ?l ?c ?k; (case a => k_is); (case l => k_is); (case c => k_is); (case k => k_is)))
    (case h_passes_needed => (refine' Gs.hereK_mk ?a ?l ?c ?k; (case a => k_is); (case l => k_is); (case c => k_is); (case k => k_is)))
    (case h_coarsest_cut => (refine' Gs.hereK_mk ?a ?l ?c ?k; (case a => k_is); (case l => k_is); (case c => k_is); (case k => k_is)))
    (case h_get_feed => (refine' Gs.hereK_mk ?a ?l ?c ?k; (case a => k_is); (case l => k_is); (case c => k_is); (case k => k_is)))
    (case h_do_call => (refine' Gs.hereK_mk ?a ?l ?c ?k; (case a => k_is); (case l => k_is); (case c => k_is); (case k => k_is)))
    (case h_read_call => (refine' Gs.hereK_mk ?a ?l ?c ?k; (case a => k_is); (case l => k_is); (case c => k_is); (case k => k_is)))
    (case h_read_calls => (refine' Gs.hereK_mk ?a ?l ?c ?k; (case a => k_is); (case l => k_is); (case c => k_is); (case k => k_is)))
    (case h_created => (refine' Gs.hereK_mk ?a ?l ?c ?k; (case a => k_is); (case l => k_is); (case c => k_is); (case k => k_is)))
    (case h_answered => (refine' Gs.hereK_mk ?a ?l ?c ?k; (case a => k_is); (case l => k_is); (case c => k_is); (case k => k_is)))
    (case h_answers => (refine' Gs.hereK_mk ?a ?l ?c ?k; (case a => k_is); (case l => k_is); (case c => k_is); (case k => k_is)))
    (case aC => k_is)
    (case h_init => (refine' Gs.hereI_mk ?zm ?zq ?a ?i ?l ?c ?k; (case zm => k_is); (case zq => k_is); (case a => k_is); (case i => k_is); (case l => k_is); (case c => k_is); (case k => k_is)))
    (case h_Circuit_class_count => (refine' Gs.hereM_mk ?a ?i ?l ?c ?k; (case a => k_is); (case i => k_is); (case l => k_is); (case c => k_is); (case k => k_is)))
    (case h_Circuit_put_row => (refine' Gs.hereM_mk ?a ?i ?l ?c ?k; (case a => k_is); (case i => k_is); (case l => k_is); (case c => k_is); (case k => k_is)))
    (case h_Circuit_put_feed => (refine' Gs.hereM_mk ?a ?i ?l ?c ?k; (case a => k_is); (case i => k_is); (case l => k_is); (case c => k_is); (case k => k_is)))
    (case h_Circuit_load => (refine' Gs.hereM_mk ?a ?i ?l ?c ?k; (case a => k_is); (case i => k_is); (case l => k_is); (case c => k_is); (case k => k_is)))
    (case h_Circuit_grind => (refine' Gs.hereM_mk ?a ?i ?l ?c ?k; (case a => k_is); (case i => k_is); (case l => k_is); (case c => k_is); (case k => k_is)))
    (case h_Circuit_remove_finer => (refine' Gs.hereM_mk ?a ?i ?l ?c ?k; (case a => k_is); (case i => k_is); (case l => k_is); (case c => k_is); (case k => k_is)))
    (case h_Circuit_present => (refine' Gs.hereM_mk ?a ?i ?l ?c ?k; (case a => k_is); (case i => k_is); (case l => k_is); (case c => k_is); (case k => k_is)))
    (case h_Circuit_passes_needed => (refine' Gs.hereM_mk ?a ?i ?l ?c ?k; (case a => k_is); (case i => k_is); (case l => k_is); (case c => k_is); (case k => k_is)))
    (case c_NO_CIRCUIT => k_is)
    (case c_NO_CLASS => k_is)
    (case c_BAD_ARGUMENT => k_is)
    (case c_NO_SUCH => k_is)
    (case c_NOTHING_THERE => k_is)
    (case c_TOO_LARGE => k_is)
    (case c_LEAST_CLASSES => k_is)
    (case c_MOST_CLASSES => k_is)
    (case c_MOST_PERCENT => k_is)
    (case c_MOST_TURNS => k_is)
    (case c_MOST_SHARE => k_is)
    (case c_MOST_LOAD => k_is)
    (case c_MOST_LOAD_PART => k_is)
    (case c_BOUND => k_is)
    (case c_CREATE => k_is)
    (case g_ZERO => k_is)
    (case g_ARGUMENTS => k_is)
    (case g_WITH_ROW => k_is)
    (case g_ALONE => k_is)
    (case g_WITH_ONE => k_is)
    (case g_WITH_TWO => k_is)
    (case lZ => k_is)
    (case lAr => k_is)
    (case lR => k_is)
    (case lA => k_is)
    (case sA => decide +kernel)
    (case qA => decide +kernel)
    (case lO => k_is)
    (case sO => decide +kernel)
    (case qO => decide +kernel)
    (case lT => k_is)
    (case sT => decide +kernel)
    (case qT => decide +kernel)
    (case eA4 => decide +kernel)
    (case eA5 => decide +kernel)
    (case eA7 => decide +kernel)
    (case eA16 => decide +kernel)
    (case eA19 => decide +kernel)
    (case eO2 => decide +kernel)
    (case eO6 => decide +kernel)
    (case eO8 => decide +kernel)
    (case eO9 => decide +kernel)
    (case eO10 => decide +kernel)
    (case eO11 => decide +kernel)
    (case eO12 => decide +kernel)
    (case eO13 => decide +kernel)
    (case eO14 => decide +kernel)
    (case eT15 => decide +kernel)
    (case eT17 => decide +kernel)
    (case eT18 => decide +kernel)
    (case nA2 => decide +kernel)
    (case nA6 => decide +kernel)
    (case nA8 => decide +kernel)
    (case nA9 => decide +kernel)
    (case nA10 => decide +kernel)
    (case nA11 => decide +kernel)
    (case nA12 => decide +kernel)
    (case nA13 => decide +kernel)
    (case nA14 => decide +kernel)
    (case nA15 => decide +kernel)
    (case nA17 => decide +kernel)
    (case nA18 => decide +kernel)
    (case nO15 => decide +kernel)
    (case nO17 => decide +kernel)
    (case nO18 => decide +kernel)
    (case n_len => k_is)
    (case n_sum => k_is)
    (case n_all => k_is)
    (case n_any => k_is)
    (case n_list => k_is)
    (case n_int => k_is)
    (case n_range => k_is)
    (case n_enumerate => k_is)
    (case n_zip => k_is)
    (case pg => k_is)
    (case hd => k_is)
    (case po => k_is)
    (case sa => k_is)
    (case at_breakage => k_is)
    (case at_feed => k_is)
    (case at_amounts => k_is)
    (case at_loaded => k_is)
    (case at_removed => k_is)
    (case at_pass_count => k_is)
  case S =>
    intro K H xs a hO hwi hask hx
    cases hx with
    | cons h1 h2 =>
      cases h2
      cases h1 with
      | lst hs ha =>
        have e := L2.ints_dw a.1 _ ha
        subst e
        obtain ⟨cs, ok, hl, hf, hr⟩ := Gs.law a.1 hask
        refine ⟨_, cs, rfl, ?_, ok, hl, fun D H' hD => ?_⟩
        · rw [← hf]
          exact hs
        · rw [← hr] at hD
          exact .lst (L2.SqL.of hD) (L2.dw_ints _)
end P_End
