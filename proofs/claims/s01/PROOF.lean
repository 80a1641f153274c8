import PyProof.Rows.All
import Wide.All
import OpenK.AllK
import Wide.FinOn
import PyProof.EqAt
import PyProof.EqKinds
import PyProof.TupleCall
import Open.SpecLaws
import KE.OsGo
import PySem.Challenge.RW_haltdays_s01_answers
import HandS.ForSpec
import HandS.Comp
import HandS.Iter
import HandS.Walk
import HandS.Wide
import HandS.Style
import HandS.CallLocal
import HandS.TryOnly
set_option Elab.async false
set_option linter.all false
set_option maxRecDepth 100000
set_option maxHeartbeats 2000000
namespace Hd
open Kqk5

/-! ### sizes of fractions -/
def Fit (k : Nat) (r : Rat) : Prop := r.num.natAbs < 2 ^ k ∧ r.den < 2 ^ k
theorem Fit.mono {j k : Nat} {r : Rat} (h : Fit j r) (l : j ≤ k) : Fit k r :=
  ⟨Nat.lt_of_lt_of_le h.1 (Nat.pow_le_pow_right (by decide) l), Nat.lt_of_lt_of_le h.2 (Nat.pow_le_pow_right (by decide) l)⟩
theorem mk_num (n : Int) {d : Nat} (hd : d ≠ 0) : (mkRat n d).num = n / (n.natAbs.gcd d : Nat) := by
  unfold mkRat
  rw [dif_neg hd, Rat.num_normalize]
theorem mk_den (n : Int) {d : Nat} (hd : d ≠ 0) : (mkRat n d).den = d / n.natAbs.gcd d := by
  unfold mkRat
  rw [dif_neg hd, Rat.den_normalize]
theorem natAbs_ediv_le (n : Int) (g : Nat) (h : (g : Int) ∣ n) : (n / (g : Int)).natAbs ≤ n.natAbs := by
  rw [Int.natAbs_ediv_of_dvd h, Int.natAbs_natCast]
  exact Nat.div_le_self _ _
theorem gcd_dvd (n : Int) (d : Nat) : ((n.natAbs.gcd d : Nat) : Int) ∣ n := by
  rw [← Int.dvd_natAbs, Int.ofNat_dvd]
  exact Nat.gcd_dvd_left _ _
theorem fit_mk {k : Nat} {n : Int} {d : Nat} (hd : d ≠ 0) (h1 : n.natAbs < 2 ^ k) (h2 : d < 2 ^ k) : Fit k (mkRat n d) := by
  refine ⟨?_, ?_⟩
  · rw [mk_num n hd]
    exact Nat.lt_of_le_of_lt (natAbs_ediv_le _ _ (gcd_dvd n d)) h1
  · rw [mk_den n hd]
    exact Nat.lt_of_le_of_lt (Nat.div_le_self _ _) h2
theorem mul_lt {x y a b : Nat} (h1 : x < 2 ^ a) (h2 : y < 2 ^ b) : x * y < 2 ^ (a + b) := by
  rw [Nat.pow_add]
  exact Nat.mul_lt_mul'' h1 h2
theorem nmul_lt {x y : Int} {a b : Nat} (h1 : x.natAbs < 2 ^ a) (h2 : y.natAbs < 2 ^ b) : (x * y).natAbs < 2 ^ (a + b) := by
  rw [Int.natAbs_mul]
  exact mul_lt h1 h2
theorem two_lt (k : Nat) {x y : Nat} (h1 : x < 2 ^ k) (h2 : y < 2 ^ k) : x + y < 2 ^ (k + 1) := by
  rw [Nat.pow_succ]; omega
theorem add_num {a b : Nat} {x y : Rat} (h1 : Fit a x) (h2 : Fit b y) : (x.num * (y.den : Int) + y.num * (x.den : Int)).natAbs < 2 ^ (a + b + 1) := by
  have e1 : (x.num * (y.den : Int)).natAbs < 2 ^ (a + b) := nmul_lt h1.1 (by rw [Int.natAbs_natCast]; exact h2.2)
  have e2 : (y.num * (x.den : Int)).natAbs < 2 ^ (a + b) := by
    rw [Nat.add_comm a b]
    exact nmul_lt h2.1 (by rw [Int.natAbs_natCast]; exact h1.2)
  exact Nat.lt_of_le_of_lt (Int.natAbs_add_le _ _) (two_lt _ e1 e2)
theorem sub_num {a b : Nat} {x y : Rat} (h1 : Fit a x) (h2 : Fit b y) : (x.num * (y.den : Int) - y.num * (x.den : Int)).natAbs < 2 ^ (a + b + 1) := by
  have e1 : (x.num * (y.den : Int)).natAbs < 2 ^ (a + b) := nmul_lt h1.1 (by rw [Int.natAbs_natCast]; exact h2.2)
  have e2 : (y.num * (x.den : Int)).natAbs < 2 ^ (a + b) := by
    rw [Nat.add_comm a b]
    exact nmul_lt h2.1 (by rw [Int.natAbs_natCast]; exact h1.2)
  exact Nat.lt_of_le_of_lt (Int.natAbs_sub_le _ _) (two_lt _ e1 e2)
theorem den2_ne (x y : Rat) : x.den * y.den ≠ 0 := Nat.ne_of_gt (Nat.mul_pos x.den_pos y.den_pos)
theorem den2_lt {a b : Nat} {x y : Rat} (h1 : Fit a x) (h2 : Fit b y) : x.den * y.den < 2 ^ (a + b) := mul_lt h1.2 h2.2
theorem fit_add {a b : Nat} {x y : Rat} (h1 : Fit a x) (h2 : Fit b y) : Fit (a + b + 1) (x + y) := by
  rw [Rat.add_def']
  exact fit_mk (den2_ne x y) (add_num h1 h2) (Nat.lt_of_lt_of_le (den2_lt h1 h2) (Nat.pow_le_pow_right (by decide) (by omega)))
theorem fit_sub {a b : Nat} {x y : Rat} (h1 : Fit a x) (h2 : Fit b y) : Fit (a + b + 1) (x - y) := by
  rw [Rat.sub_def']
  exact fit_mk (den2_ne x y) (sub_num h1 h2) (Nat.lt_of_lt_of_le (den2_lt h1 h2) (Nat.pow_le_pow_right (by decide) (by omega)))
theorem fit_mul {a b : Nat} {x y : Rat} (h1 : Fit a x) (h2 : Fit b y) : Fit (a + b) (x * y) := by
  rw [Rat.mul_def']
  exact fit_mk (den2_ne x y) (nmul_lt h1.1 h2.1) (den2_lt h1 h2)
theorem fit_nat {k n : Nat} (h0 : 0 < k) (h : n < 2 ^ k) : Fit k (n : Rat) := by
  refine ⟨?_, ?_⟩
  · show ((n : Int)).natAbs < _
    rw [Int.natAbs_natCast]; exact h
  · show 1 < _
    exact Nat.one_lt_two_pow (by omega)
theorem fit_zero {k : Nat} (h0 : 0 < k) : Fit k (0 : Rat) := fit_nat (n := 0) h0 (Nat.two_pow_pos k)
theorem fit_one {k : Nat} (h0 : 0 < k) : Fit k (1 : Rat) := fit_nat (n := 1) h0 (Nat.one_lt_two_pow (by omega))

/-! ### days -/
structure DayOk (d : Day) : Prop where
  gain : d.gain ≤ 1000
  den1 : 1 ≤ d.denominator
  den : d.denominator ≤ 100
  num : d.numerator ≤ d.denominator
  cost : d.cost ≤ 10000
theorem dayOk_of {g a b c : Nat} (h : isDay g a b c = true) : DayOk ⟨g, a, b, c⟩ := by
  unfold isDay at h
  simp only [Bool.and_eq_true, decide_eq_true_eq] at h
  exact ⟨h.1.1.1.1, h.1.1.1.2, h.1.1.2, h.1.2, h.2⟩
def worth (d : Day) (r : Rat) : Rat := quietProbability d * ((d.gain : Rat) + r) - eventProbability d * (d.cost : Rat)
theorem event_mk (d : Day) : mkRat (d.numerator : Int) d.denominator = eventProbability d := by
  rw [Rat.mkRat_eq_div]; rfl
theorem den_ne {d : Day} (h : DayOk d) : (d.denominator : Rat) ≠ 0 := by
  intro z
  have := Rat.natCast_eq_zero_iff.mp z
  have := h.den1
  omega
theorem quiet_mk {d : Day} (h : DayOk d) : mkRat ((d.denominator : Int) - (d.numerator : Int)) d.denominator = quietProbability d := by
  rw [Rat.mkRat_eq_div]
  unfold quietProbability eventProbability
  rw [Rat.intCast_sub]
  show ((d.denominator : Rat) - (d.numerator : Rat)) / (d.denominator : Rat) = _
  rw [Rat.div_def, Rat.sub_eq_add_neg, Rat.add_mul, Rat.mul_inv_cancel _ (den_ne h), Rat.neg_mul, ← Rat.sub_eq_add_neg, ← Rat.div_def]
theorem fit_event {d : Day} (h : DayOk d) : Fit 7 (eventProbability d) := by
  have h1 := h.den1; have h2 := h.den; have h3 := h.num
  rw [← event_mk]
  exact fit_mk (by omega) (by rw [Int.natAbs_natCast]; omega) (by omega)
theorem fit_quiet {d : Day} (h : DayOk d) : Fit 7 (quietProbability d) := by
  have h1 := h.den1; have h2 := h.den; have h3 := h.num
  rw [← quiet_mk h]
  exact fit_mk (by omega) (by omega) (by omega)
theorem fit_gain {d : Day} (h : DayOk d) : Fit 10 (d.gain : Rat) := fit_nat (by decide) (by have := h.gain; omega)
theorem fit_cost {d : Day} (h : DayOk d) : Fit 14 (d.cost : Rat) := fit_nat (by decide) (by have := h.cost; omega)
theorem fit_sum {d : Day} (h : DayOk d) {k : Nat} {r : Rat} (hr : Fit k r) : Fit (k + 11) ((d.gain : Rat) + r) := (fit_add (fit_gain h) hr).mono (by omega)
theorem fit_qpart {d : Day} (h : DayOk d) {k : Nat} {r : Rat} (hr : Fit k r) : Fit (k + 18) (quietProbability d * ((d.gain : Rat) + r)) := (fit_mul (fit_quiet h) (fit_sum h hr)).mono (by omega)
theorem fit_epart {d : Day} (h : DayOk d) : Fit 21 (eventProbability d * (d.cost : Rat)) := fit_mul (fit_event h) (fit_cost h)
theorem fit_worth {d : Day} (h : DayOk d) {k : Nat} {r : Rat} (hr : Fit k r) : Fit (k + 40) (worth d r) := (fit_sub (fit_qpart h hr) (fit_epart h)).mono (by omega)
theorem single_worth (d : Day) : worth d 0 = singleDayValue d := by
  unfold worth singleDayValue
  rw [Rat.add_zero]

/-! ### values -/
def pick (w : Rat) : Rat := if w < 0 then 0 else w
theorem value_cons (d : Day) (r : List Day) : value (d :: r) = pick (worth d (value r)) := by
  show (if 0 < worth d (value r) then worth d (value r) else 0) = _
  unfold pick
  by_cases h : 0 < worth d (value r)
  · rw [if_pos h, if_neg fun z => Rat.not_le.mpr h (Rat.le_of_lt z)]
  · rw [if_neg h]
    by_cases z : worth d (value r) < 0
    · rw [if_pos z]
    · rw [if_neg z]
      exact Rat.le_antisymm (Rat.not_lt.mp z) (Rat.not_lt.mp h)
theorem fit_pick {k : Nat} (h0 : 0 < k) {w : Rat} (h : Fit k w) : Fit k (pick w) := by
  unfold pick
  split
  · exact fit_zero h0
  · exact h
theorem fit_value : ∀ {l : List Day}, (∀ d ∈ l, DayOk d) → Fit (40 * l.length + 1) (value l)
  | [], _ => fit_zero (by omega)
  | d :: r, h => by
    rw [value_cons]
    refine fit_pick (by omega) ?_
    exact (fit_worth (h d List.mem_cons_self) (fit_value fun e he => h e (List.mem_cons_of_mem _ he))).mono (by simp only [List.length_cons]; omega)
/-- the plan value of all days -/
def planAll : List Day → Rat
  | [] => 0
  | d :: r => worth d (planAll r)
theorem fit_plan : ∀ {l : List Day}, (∀ d ∈ l, DayOk d) → Fit (40 * l.length + 1) (planAll l)
  | [], _ => fit_zero (by omega)
  | d :: r, h => (fit_worth (h d List.mem_cons_self) (fit_plan fun e he => h e (List.mem_cons_of_mem _ he))).mono (by simp only [List.length_cons]; omega)
theorem plan_take : ∀ (k : Nat) (l : List Day), planAll (l.take k) = planValue k l
  | 0, l => by cases l <;> rfl
  | k + 1, [] => rfl
  | k + 1, d :: r => by
    show worth d (planAll (r.take k)) = worth d (planValue k r)
    rw [plan_take k r]
theorem plan_zero (l : List Day) : planValue 0 l = 0 := by cases l <;> rfl
/-- the best count among the first ones -/
def bestUpTo (l : List Day) (n : Nat) : Nat := (List.range n).foldl (fun best count => if planValue best l < planValue count l then count else best) 0
theorem best_is (l : List Day) : bestCount l = bestUpTo l (l.length + 1) := rfl
theorem best_one (l : List Day) : bestUpTo l 1 = 0 := by
  show (if planValue 0 l < planValue 0 l then 0 else 0) = 0
  split <;> rfl
theorem best_more (l : List Day) (n : Nat) : bestUpTo l (n + 1) = if planValue (bestUpTo l n) l < planValue n l then n else bestUpTo l n := by
  unfold bestUpTo
  rw [List.range_succ, List.foldl_append]
  rfl
theorem best_lt (l : List Day) : ∀ n, 0 < n → bestUpTo l n < n
  | 0, h => absurd h (by decide)
  | 1, _ => by rw [best_one]; decide
  | n + 2, _ => by
    rw [best_more]
    have := best_lt l (n + 1) (by omega)
    split <;> omega
/-! ### stopping rules -/
theorem look_le : ∀ l : List Day, lookaheadCount l ≤ l.length
  | [] => Nat.le_refl _
  | d :: r => by
    unfold lookaheadCount
    have := look_le r
    split <;> simp only [List.length_cons] <;> omega
theorem look_before : ∀ (l : List Day) (i : Nat) (d : Day), l[i]? = some d → i < lookaheadCount l → 0 < singleDayValue d
  | [], i, d, h, _ => by simp at h
  | e :: r, 0, d, h, hi => by
    have q : e = d := Option.some.inj h
    subst q
    unfold lookaheadCount at hi
    by_cases c : 0 < singleDayValue e
    · exact c
    · rw [if_neg c] at hi; omega
  | e :: r, i + 1, d, h, hi => by
    unfold lookaheadCount at hi
    by_cases c : 0 < singleDayValue e
    · rw [if_pos c] at hi
      exact look_before r i d h (by omega)
    · rw [if_neg c] at hi; omega
/-- the first that is not worthwhile alone -/
theorem look_at : ∀ (l : List Day) (i : Nat) (d : Day), l[i]? = some d → (∀ j e, j < i → l[j]? = some e → 0 < singleDayValue e) → ¬ 0 < singleDayValue d → lookaheadCount l = i
  | [], i, d, h, _, _ => by simp at h
  | e :: r, 0, d, h, _, c => by
    have q : e = d := Option.some.inj h
    subst q
    unfold lookaheadCount
    rw [if_neg c]
  | e :: r, i + 1, d, h, b, c => by
    unfold lookaheadCount
    rw [if_pos (b 0 e (by omega) rfl), look_at r i d h (fun j f hj hf => b (j + 1) f (by omega) hf) c]
theorem look_all : ∀ (l : List Day), (∀ (j : Nat) (e : Day), l[j]? = some e → 0 < singleDayValue e) → lookaheadCount l = l.length
  | [], _ => rfl
  | e :: r, b => by
    unfold lookaheadCount
    rw [if_pos (b 0 e rfl), look_all r fun j f hf => b (j + 1) f hf]
    rfl
theorem mono_is : ∀ l : List Day, isMonotone l = !((l.drop (lookaheadCount l)).any fun d => decide (0 < singleDayValue d))
  | [] => rfl
  | d :: r => by
    unfold isMonotone lookaheadCount
    by_cases c : 0 < singleDayValue d
    · rw [if_pos c, if_pos c, mono_is r]; rfl
    · rw [if_neg c, if_neg c, List.drop_zero, List.any_cons, decide_eq_false c, Bool.false_or]
      induction r with
      | nil => rfl
      | cons e s ih =>
        rw [List.all_cons, List.any_cons, ih, Bool.not_or]
        congr 1
        by_cases z : 0 < singleDayValue e
        · rw [decide_eq_true z, decide_eq_false (Rat.not_le.mpr z)]; rfl
        · rw [decide_eq_false z, decide_eq_true (Rat.not_lt.mp z)]; rfl
theorem quiet_step (l : List Day) (i : Nat) (d : Day) (h : l[i]? = some d) : (l.take (i + 1)).foldl (fun p d => p * quietProbability d) 1 = (l.take i).foldl (fun p d => p * quietProbability d) 1 * quietProbability d := by
  rw [List.take_add_one, h, List.foldl_append]
  rfl
theorem fit_allq : ∀ (l : List Day) (k : Nat) (r : Rat), 0 < k → Fit k r → (∀ d ∈ l, DayOk d) → Fit (k + 7 * l.length) (l.foldl (fun p d => p * quietProbability d) r)
  | [], _, _, _, hr, _ => hr
  | d :: s, k, r, h0, hr, h => by
    have := fit_allq s (k + 7) (r * quietProbability d) (by omega) (fit_mul hr (fit_quiet (h d List.mem_cons_self))) fun e he => h e (List.mem_cons_of_mem _ he)
    exact this.mono (by simp only [List.length_cons]; omega)
/-! ### the greatest cost -/
theorem floor_mk {x y : Int} (hy : 0 < y) : ((mkRat x y.toNat).num - 1) / ((mkRat x y.toNat).den : Int) = (x - 1) / y := by
  have hd : y.toNat ≠ 0 := by omega
  have hg : 0 < x.natAbs.gcd y.toNat := Nat.gcd_pos_of_pos_right _ (by omega)
  rw [mk_num x hd, mk_den x hd]
  generalize hG : x.natAbs.gcd y.toNat = g at *
  obtain ⟨a, ha⟩ : (g : Int) ∣ x := by rw [← hG]; exact gcd_dvd x y.toNat
  obtain ⟨b, hb⟩ : g ∣ y.toNat := by rw [← hG]; exact Nat.gcd_dvd_right _ _
  have hy' : y = (g : Int) * (b : Int) := by
    have : (y.toNat : Int) = y := Int.toNat_of_nonneg (by omega)
    rw [← this, hb]; simp
  have gp : (0 : Int) < g := by omega
  rw [hb, Nat.mul_div_cancel_left _ hg]
  rw [ha, Int.mul_ediv_cancel_left _ (by omega), hy', ← Int.ediv_ediv_of_nonneg (by omega)]
  congr 1
  have : (g : Int) * a - 1 = (g - 1) + g * (a - 1) := by
    rw [Int.mul_sub]; omega
  rw [this, Int.add_mul_ediv_left _ _ (by omega), Int.ediv_eq_zero_of_lt (by omega) (by omega)]
  omega
theorem event_zero {d : Day} (h : DayOk d) : eventProbability d = 0 ↔ d.numerator = 0 := by
  rw [← event_mk]
  constructor
  · intro z
    have := (Rat.mkRat_eq_zero (by have := h.den1; omega)).mp z
    omega
  · intro z
    rw [z]
    exact (Rat.mkRat_eq_zero (by have := h.den1; omega)).mpr rfl

theorem pos_iff (r : Rat) : 0 < r ↔ 0 < r.num := by
  rw [Rat.lt_iff]; simp
theorem event_pos {d : Day} (h : DayOk d) (hn : d.numerator ≠ 0) : 0 < (eventProbability d).num := by
  rw [← event_mk, mk_num _ (by have := h.den1; omega)]
  have hg : 0 < (d.numerator : Int).natAbs.gcd d.denominator := Nat.gcd_pos_of_pos_left _ (by omega)
  refine Int.ediv_pos_of_pos_of_dvd (by omega) (by omega) (gcd_dvd _ _)
/-- what is sought: the greatest cost below limit -/
def mostCost (g e : Rat) : Int := min ((g.num * (e.den : Int) - 1) / ((g.den : Int) * e.num)) 10000
theorem div_mk (g e : Rat) (he : 0 < e.num) : g / e = mkRat (g.num * (e.den : Int)) ((g.den : Int) * e.num).toNat := by
  have h1 : e⁻¹ = mkRat (e.den : Int) e.num.toNat := by
    rw [Rat.inv_def]
    obtain ⟨n, hn⟩ := Int.eq_ofNat_of_zero_le (Int.le_of_lt he)
    rw [hn]; rfl
  rw [Rat.div_def, h1, ← Rat.mkRat_self g, Rat.mkRat_mul_mkRat, Rat.mkRat_self]
  congr 1
  obtain ⟨n, hn⟩ := Int.eq_ofNat_of_zero_le (Int.le_of_lt he)
  rw [hn, ← Int.natCast_mul, Int.toNat_natCast, Int.toNat_natCast]
theorem most_is (d : Day) (r : List Day) (h : DayOk d) (hn : d.numerator ≠ 0) (c : List Day) (t : Nat) (hc : c.drop t = d :: r) :
    maxEventCostOf c t = if 0 < (quietProbability d * ((d.gain : Rat) + value r)).num then some (mostCost (quietProbability d * ((d.gain : Rat) + value r)) (eventProbability d)).toNat else none := by
  unfold maxEventCostOf
  rw [hc]
  show (if d.numerator = 0 then some maxCost else _) = _
  rw [if_neg hn]
  have he := event_pos h hn
  generalize hg : quietProbability d * ((d.gain : Rat) + value r) = g
  generalize hq : eventProbability d = e at *
  show (if 0 < g / e then some (min maxCost (((g / e).num - 1) / ((g / e).den : Int)).toNat) else none) = _
  have hd := Rat.div_def g e
  have hpos : 0 < g / e ↔ 0 < g.num := by
    rw [hd, Rat.mul_pos_iff_of_pos_right (Rat.inv_pos.mpr ((pos_iff e).mpr he)), pos_iff]
  have gd : 0 < (g.den : Int) * e.num := Int.mul_pos (by have := g.den_pos; omega) he
  by_cases c : 0 < g.num
  · rw [if_pos (hpos.mpr c), if_pos c, div_mk g e he, floor_mk gd]
    congr 1
    unfold mostCost maxCost
    omega
  · rw [if_neg (fun z => c (hpos.mp z)), if_neg c]
theorem most_nonneg (g e : Rat) (hg : 0 < g.num) (he : 0 < e.num) : 0 ≤ mostCost g e := by
  have gd : 0 < (g.den : Int) * e.num := Int.mul_pos (by have := g.den_pos; omega) he
  have ed := e.den_pos
  have h1 : 0 < g.num * (e.den : Int) := Int.mul_pos hg (by omega)
  have h2 : 0 ≤ (g.num * (e.den : Int) - 1) / ((g.den : Int) * e.num) := Int.ediv_nonneg (by omega) (by omega)
  unfold mostCost
  omega
theorem most_zero (d : Day) (r : List Day) (hn : d.numerator = 0) (c : List Day) (t : Nat) (hc : c.drop t = d :: r) : maxEventCostOf c t = some 10000 := by
  unfold maxEventCostOf
  rw [hc]
  show (if d.numerator = 0 then some maxCost else _) = _
  rw [if_pos hn]; rfl

/-! ### the calls as one list -/
def sizes : List Nat := [0, 4, 5, 0, 1, 0, 1, 1, 0, 0, 1, 0, 1, 1, 0, 0, 1, 2, 0, 0]
theorem ite_or {c : Prop} [Decidable c] {a b z : Option (Nat × Nat)} (h : (if c then a else b) = z) : (c ∧ a = z) ∨ b = z := by
  by_cases x : c
  · rw [if_pos x] at h; exact .inl ⟨x, h⟩
  · rw [if_neg x] at h; exact .inr h
theorem shape_one {p : Int} {q a n k : Nat} (hp : p = (q : Int)) (hq : q < 20) (hs : sizes[q]? = some a) (h : some (a, 0) = some (n, k)) : k = 0 ∧ 0 ≤ p ∧ p < 20 ∧ sizes[p.toNat]? = some n := by
  injection h with h
  injection h with h1 h2
  subst h1 h2 hp
  exact ⟨rfl, by omega, by omega, hs⟩
theorem shape_is {p : Int} {n k : Nat} (h : PyKqk5.shape p = some (n, k)) : k = 0 ∧ 0 ≤ p ∧ p < 20 ∧ sizes[p.toNat]? = some n := by
  unfold PyKqk5.shape at h
  rcases ite_or h with ⟨e, h⟩ | h
  · exact shape_one (q := 0) e (by decide) rfl h
  rcases ite_or h with ⟨e, h⟩ | h
  · exact shape_one (q := 1) e (by decide) rfl h
  rcases ite_or h with ⟨e, h⟩ | h
  · exact shape_one (q := 2) e (by decide) rfl h
  rcases ite_or h with ⟨e, h⟩ | h
  · exact shape_one (q := 3) e (by decide) rfl h
  rcases ite_or h with ⟨e, h⟩ | h
  · exact shape_one (q := 4) e (by decide) rfl h
  rcases ite_or h with ⟨e, h⟩ | h
  · exact shape_one (q := 5) e (by decide) rfl h
  rcases ite_or h with ⟨e, h⟩ | h
  · exact shape_one (q := 6) e (by decide) rfl h
  rcases ite_or h with ⟨e, h⟩ | h
  · exact shape_one (q := 7) e (by decide) rfl h
  rcases ite_or h with ⟨e, h⟩ | h
  · exact shape_one (q := 8) e (by decide) rfl h
  rcases ite_or h with ⟨e, h⟩ | h
  · exact shape_one (q := 9) e (by decide) rfl h
  rcases ite_or h with ⟨e, h⟩ | h
  · exact shape_one (q := 10) e (by decide) rfl h
  rcases ite_or h with ⟨e, h⟩ | h
  · exact shape_one (q := 11) e (by decide) rfl h
  rcases ite_or h with ⟨e, h⟩ | h
  · exact shape_one (q := 12) e (by decide) rfl h
  rcases ite_or h with ⟨e, h⟩ | h
  · exact shape_one (q := 13) e (by decide) rfl h
  rcases ite_or h with ⟨e, h⟩ | h
  · exact shape_one (q := 14) e (by decide) rfl h
  rcases ite_or h with ⟨e, h⟩ | h
  · exact shape_one (q := 15) e (by decide) rfl h
  rcases ite_or h with ⟨e, h⟩ | h
  · exact shape_one (q := 16) e (by decide) rfl h
  rcases ite_or h with ⟨e, h⟩ | h
  · exact shape_one (q := 17) e (by decide) rfl h
  rcases ite_or h with ⟨e, h⟩ | h
  · exact shape_one (q := 18) e (by decide) rfl h
  rcases ite_or h with ⟨e, h⟩ | h
  · exact shape_one (q := 19) e (by decide) rfl h
  cases h
theorem whole_is (c : List (List Int)) : PyKqk5.whole c = c := by
  unfold PyKqk5.whole
  split <;> rfl
theorem map_whole (cs : List (List (List Int))) : cs.map PyKqk5.whole = cs := by
  rw [show PyKqk5.whole = id from funext whole_is, List.map_id]
theorem call_is {p : Int} {r : List Int} {c : List (List Int)} {t : List Int} (h : PyFlat.call PyKqk5.shape (p :: r) = some (c, t)) :
    ∃ n, 0 ≤ p ∧ p < 20 ∧ sizes[p.toNat]? = some n ∧ n ≤ r.length ∧ c = [p :: r.take n] ∧ t = r.drop n := by
  unfold PyFlat.call at h
  dsimp only at h
  split at h
  · cases h
  · rename_i n k hs
    obtain ⟨rfl, h1, h2, h3⟩ := shape_is hs
    refine ⟨n, h1, h2, h3, ?_⟩
    by_cases hl : r.length < n
    · rw [if_pos hl] at h; cases h
    · rw [if_neg hl] at h
      unfold PyFlat.rows at h
      injection h with h
      injection h with ha hb
      exact ⟨by omega, ha.symm, hb.symm⟩
/-- the rest of the calls, from a state -/
structure Rest (f : Nat) (s : Option Campaign) (l out : List Int) : Prop where
  ex : ∃ cs, PyFlat.calls PyKqk5.shape f l = some cs ∧ PyInside.calls PyKqk5.bound cs = true ∧ out = PyFlat.told (PyFlat.played Kqk5Neutral.step s cs)
theorem Rest.nil {f : Nat} {s : Option Campaign} {out : List Int} (h : Rest f s [] out) : out = [] := by
  obtain ⟨cs, h1, _, h3⟩ := h.ex
  have e : PyFlat.calls PyKqk5.shape f [] = some [] := by cases f <;> rfl
  rw [e] at h1
  injection h1 with h1
  subst h1
  exact h3
structure Call1 (f : Nat) (s : Option Campaign) (p : Int) (r out : List Int) (n : Nat) (out' : List Int) (f' : Nat) : Prop where
  p0 : 0 ≤ p
  p1 : p < 20
  size : sizes[p.toNat]? = some n
  len : n ≤ r.length
  bound : PyInside.call PyKqk5.bound [p :: r.take n] = true
  rest : Rest f' (Kqk5Neutral.step s [p :: r.take n]).1 (r.drop n) out'
  out : out = ((Kqk5Neutral.step s [p :: r.take n]).2.length : Int) :: ((Kqk5Neutral.step s [p :: r.take n]).2 ++ out')
theorem Rest.cons {f : Nat} {s : Option Campaign} {p : Int} {r out : List Int} (h : Rest f s (p :: r) out) : ∃ n out' f', Call1 f s p r out n out' f' := by
  obtain ⟨cs, h1, h2, h3⟩ := h.ex
  cases f with
  | zero => cases h1
  | succ f =>
    unfold PyFlat.calls at h1
    split at h1
    · cases h1
    · rename_i c t hc
      obtain ⟨n, a1, a2, a3, a4, rfl, rfl⟩ := call_is hc
      split at h1
      · cases h1
      · rename_i cs' hcs
        injection h1 with h1
        subst h1
        have h2' : (PyInside.call PyKqk5.bound [p :: r.take n] && PyInside.calls PyKqk5.bound cs') = true := h2
        rw [Bool.and_eq_true] at h2'
        exact ⟨n, _, f, a1, a2, a3, a4, h2'.1, ⟨cs', hcs, h2'.2, rfl⟩, h3⟩
theorem asked_rest {l : List Int} (h : PyKqk5.answers_asked l = true) : Rest l.length none l (PyKqk5.answers l) ∧ (PyKqk5.answers l).length ≤ 10000000 := by
  unfold PyKqk5.answers_asked at h
  split at h
  · cases h
  · rename_i raw hr
    simp only [Bool.and_eq_true] at h
    obtain ⟨⟨⟨⟨_, _⟩, h3⟩, _⟩, h5⟩ := h
    refine ⟨⟨raw, hr, h3, ?_⟩, ?_⟩
    · unfold PyKqk5.answers PyKqk5.calls
      rw [hr]
      show PyFlat.told (PyFlat.played Kqk5Neutral.step Kqk5Neutral.start (raw.map PyKqk5.whole)) = _
      rw [map_whole]; rfl
    · unfold PyFlat.short at h5
      exact of_decide_eq_true h5
end Hd

namespace PySem
namespace LowX
open PySem.W PySem.Calls PyProof.Rows PySem.HandSPX
/-! ### the text of __init__ -/
def iA (p1 p2 : Pos) : Arguments := { posonlyargs := [], args := [{ arg := "self", annotation := none, pos := p1 }, { arg := "code", annotation := none, pos := p2 }], vararg := none, kwonlyargs := [], kw_defaults := [], kwarg := none, defaults := [] }
def iB (q1 q2 q3 q4 : Pos) : List Stmt := [.Assign [.Attribute (.Name "self" q1) "code" q2] (.Name "code" q3) q4]
def iS : Scope := { kind := .function, names := [(PySem.Str.ofString "self", .local), (PySem.Str.ofString "code", .local)], isGenerator := false, isCoroutine := false, more := [] }
/-- what the written part says of Low, at C, and of its __init__, at fI -/
structure LowTxt (K : Frag) (mg : Str → Option Value) (C fI : Addr) : Prop where
  gC : mg "Refusal" = some (.ref C)
  cls : ∃ nm q N bs bm sn sub ab col dd k0 k1 k2 k3 k5, K.lookup C = some (excClassObj nm q C N bs bm true sn sub ab col dd k0 k1 k2 k3 k5 "ValueError.__new__") ∧ refsVE bm = true
  sa : findIn K (.ref C) "__setattr__" = some (some (.builtin "object.__setattr__"))
  ga : findIn K (.ref C) "__getattribute__" = some (some (.builtin "BaseException.__getattribute__"))
  gg : findIn K (.ref C) "__getattr__" = some none
  noN : findIn K (.ref C) "code" = some none
  iC : findIn K (.ref C) "__init__" = some (some (.ref fI))
  tC : typeIn K (.ref fI) = some (.type "function")
  kC : keepIn K (.ref C) = true
  exC : subIn K (.ref C) (.type "BaseException") = some true
  tyC : typeIn K (.ref C) = some (.type "type")
  hdC : hasDictIn K C = true
  te : exmOne K (.ref C) (.ref C) = some true
  fn : ∃ (oc : Value) (od : Option Addr) (doc pm : Value) (an : Option Addr) (cdv ct : Value) (osl : Array (Option Value)) (p1 p2 q1 q2 q3 q4 : Pos),
    K.lookup fI = some ⟨oc, od, .func (fnOf "__init__" "Refusal.__init__" (iA p1 p2) (iB q1 q2 q3 q4) iS .none .none doc pm an cdv ct), osl⟩ ∧ codeIn K cdv "Refusal.__init__" = true
theorem one_size (v : Value) : [v].length ≤ sizeLine := by
  rw [sizeLine_eq]
  exact (by decide : 1 ≤ 16777216)
theorem kept_but {K : Frag} {h h' : Heap} {x : Addr} (X : K.In h) (hx : K.lookup x = none) (k : ∀ b o, b ≠ x → h.get? b = some o → h'.get? b = some o) : K.In h' := fun a o e =>
  k a o (fun z => by rw [z, hx] at e; cases e) (X a o e)
theorem ldC {M : Model} {s : Shared} {name : Str} {scope : Scope} {L a : Addr} {cd : Value} {m : Str → Option Value} {x : Str} {pos : Pos} {v : Value} {Q : Value → Shared → Prop} {A : Around} {E : Value → Shared → Prop} (hn : s.heap.Ns L m) (hv : m x = some v) (h : Q v s)
    (hk : scope.kind = .function := by rfl) (hl : (envOfC name scope L a cd).kindOf x = some .local := by rfl) (hd : (x == ("__debug__" : Str)) = false := by decide) :
    wpAny M A (eval (.Name x pos) (envOfC name scope L a cd)) Q E s := wpAny_Name (wpAny_loadName_local hk hl hn hv h) hd
/-- what __init__ leaves of a fresh exception at x -/
structure InitEnd (h h' : Heap) (x C dx t1 : Addr) (v : Value) : Prop where
  keep : ∀ b o, b ≠ x → h.get? b = some o → h'.get? b = some o
  obj : h'.get? x = some { cls := .ref C, dict := some dx, data := .fields #[.ref t1, .none, .none, .none, .bool false, .none] }
  dbig : h.objs.size ≤ dx
  dne : dx ≠ x
  ns : h'.Ns1 dx (fun y => if y = "code" then some v else none)
/-- a made Low -/
structure OwnMade (h h' : Heap) (e C d : Addr) (v : Value) : Prop where
  keep : ∀ b o, h.get? b = some o → h'.get? b = some o
  new : h.objs.size ≤ e
  obj : ∃ oe vs, h'.get? e = some oe ∧ oe.cls = .ref C ∧ oe.dict = some d ∧ oe.data = .fields vs ∧ vs[1]? = some .none
  dbig : h.objs.size ≤ d
  dne : d ≠ e
  ns : h'.Ns1 d (fun y => if y = "code" then some v else none)
section
variable {prog : Program} {w : World} {A : Around} {E : Value → Shared → Prop} {R : Result → Shared → Prop} {s : Shared} {K : Frag} {mg : Str → Option Value} {C fI : Addr}
theorem low_init (T : LowTxt K mg C fI) {x t0 : Addr} {v : Value} (X : K.In s.heap) (hlim : s.heap.NoLimit) (hx : s.heap.get? x = some (excO C t0)) (hnx : K.lookup x = none) (hroom : A.depth < recursionLimit)
    (hq : ∀ h' tk dx, InitEnd s.heap h' x C dx t0 v → R (.ok (.ret .none)) { s with heap := h', toks := tk }) :
    codeAny (model prog w) A (.call (.ref fI) ⟨[.ref x, v], []⟩) R s := by
  obtain ⟨oc, od, doc, pm, an, cdv, ct, osl, p1, p2, q1, q2, q3, q4, ho, hcd⟩ := T.fn
  obtain ⟨nm, q, N, bs, bm, sn, sub, ab, col, dd, k0, k1, k2, k3, k5, hC, hbm⟩ := T.cls
  have hcl : clsIn K C = some { name := nm, bases := bs, mro := .ref C :: bm, ns := N, qualname := q, hasDict := true, slotNames := sn, subclasses := sub, abstract := ab, collection := col, hasDel := false } := by unfold clsIn; rw [hC] <;> rfl
  refine Att.call_fn (binds := [("self", .ref x), ("code", v)]) X hlim ho hcd hroom (BindsTo.of_eq (by first | rfl | with_unfolding_all rfl)) (by first | rfl | decide | with_unfolding_all rfl) (fun s₁ IC => ?_) rfl rfl rfl
  obtain ⟨h₁, tk₁, rfl⟩ := IC.toInCall.same
  have k : ∀ b o, s.heap.get? b = some o → h₁.get? b = some o := IC.toInCall.keep
  have hn := IC.toInCall.ns
  have hxL : s.heap.objs.size ≠ x := Nat.ne_of_gt (Heap.lt_size hx)
  have X₁ : K.In h₁ := X.keeps k
  have hx₁ := k _ _ hx
  -- self.by = by
  show wpAny _ _ (execs _ _) _ _ _
  refine wpAny_execs_cons (plainObj_wpAny_Assign_Attribute ?_)
  refine ldC (v := v) hn (by first | rfl | with_unfolding_all rfl | kernel_rfl) (ldC (v := .ref x) hn (by first | rfl | with_unfolding_all rfl | kernel_rfl) ?_)
  refine set_plain X₁ (ox := excO C t0) (od := none) ⟨hx₁, rfl, rfl, trivial⟩ T.sa ?_
  refine exc_osa X₁ hx₁ hcl (show refsVE (.ref C :: bm) = true from hbm) rfl T.noN (fun h₃ tk₃ dx k₃ dn dne hx₃ hn₃ => ?_)
  show wpAny _ _ (execs _ _) _ _ _
  have z : s.heap.objs.size < h₁.objs.size := hn.lt
  exact wpAny_execs_nil (hq h₃ tk₃ dx ⟨fun b o hb e => k₃ b o hb (k b o e), hx₃, Nat.le_of_lt (Nat.lt_of_lt_of_le z dn), dne, hn₃⟩)
theorem low_made (T : LowTxt K mg C fI) {v : Value} (X : K.In s.heap) (hlim : s.heap.NoLimit) (hroom : A.depth + 1 < recursionLimit)
    (hq : ∀ h' tk e d, OwnMade s.heap h' e C d v → R (.ok (.ret (.ref e))) { s with heap := h', toks := tk }) :
    codeAny (model prog w) A (.call (.ref C) ⟨[v], []⟩) R s := by
  obtain ⟨nm, q, N, bs, bm, sn, sub, ab, col, dd, k0, k1, k2, k3, k5, hC, hbm⟩ := T.cls
  obtain ⟨hp, g, dr, tk, os⟩ := s
  have k : ∀ b o, hp.get? b = some o → ((hp.push (kdv_tup [v])).push (excO C hp.objs.size)).get? b = some o := fun b o e => Heap.get?_push_of_some _ (Heap.get?_push_of_some _ e)
  have hget : ((hp.push (kdv_tup [v])).push (excO C hp.objs.size)).get? (hp.objs.size + 1) = some (excO C hp.objs.size) := by heap_get
  have hnx : K.lookup (hp.objs.size + 1) = none := by
    cases e : K.lookup (hp.objs.size + 1) with
    | none => rfl
    | some o =>
      have z : hp.get? (hp.objs.size + 1) = some o := X _ _ e
      exact absurd (Nat.lt_of_succ_lt (Heap.lt_size z)) (Nat.lt_irrefl _)
  refine call_own F.excBase_ValueError (fun X => refsVE_contains X bm hbm) (X _ _ hC) (looks_findIn X T.iC) (fun self => bind_fn X self T.tC) (one_size v) ?_
  refine low_init (s := ⟨(hp.push (kdv_tup [v])).push (excO C hp.objs.size), g, dr, tk, os⟩) T (X.keeps k) (hlim.keeps k) hget hnx ?_ fun h' tk' dx ⟨k', hx, dn, dne, hns⟩ => ?_
  · show A.depth + 1 < recursionLimit
    exact hroom
  · have old : ∀ b o, hp.get? b = some o → h'.get? b = some o := fun b o e => k' b o (Nat.ne_of_lt (Nat.lt_succ_of_lt (Heap.lt_size e))) (k b o e)
    have z : hp.objs.size + 1 + 1 ≤ dx := by
      first
        | (simpa only [Heap.size_push] using dn)
        | exact dn
        | (have q := dn; rw [Heap.size_push, Heap.size_push] at q; exact q)
    exact ⟨rfl, hq h' tk' (hp.objs.size + 1) dx ⟨old, Nat.le_succ _, ⟨_, _, hx, rfl, rfl, rfl, rfl⟩, Nat.le_trans (Nat.le_trans (Nat.le_succ _) (Nat.le_succ _)) z, dne, hns⟩⟩
end
end LowX
end PySem
namespace L2
open PySem PySem.Spec PyProof.Rows
theorem relO_low {v : V} {v' : Value} (r : RelV v v') (f : Str) : RelO (List.lookup f [(("code" : Str), v)]) (if f = "code" then some v' else none) := by
  by_cases hw : f = "code"
  · subst hw
    rw [if_pos rfl]
    have q : List.lookup ("code" : Str) [(("code" : Str), v)] = some v := by simp [List.lookup]
    rw [q]
    exact r
  · rw [if_neg hw]
    have qw : (f == ("code" : Str)) = false := by simpa using hw
    have q2 : List.lookup f [(("code" : Str), v)] = none := by simp [List.lookup, qw]
    rw [q2]
    trivial
section
variable {X : Cx} {C fI : Addr}
/-- Low(e) -/
def tMkLow (C : Addr) (ta : TA) : St → Hp → XK → Prop := fun σ H Q => ta σ H fun vs H1 => ∃ v, vs = [v] ∧ ∀ d, H1 d = none → Q (.ref C) (some d) (upd H1 d (.xd [(("code" : Str), v)]))
theorem pmk_low {a : Expr} {ta : TA} {p pos : Pos} {k : Nat} (T : PySem.LowX.LowTxt X.K X.mg C fI) (hr : Room k X.A) (ha : PA X [a] ta) (hg : Gl X "Refusal" := by rfl)
    (he : starEach (a :: []) X.env = (false, eval a X.env) :: starEach [] X.env := by rfl) (hpl : (backTo pos (starEach [] X.env)).any (·.1) = false := by rfl) :
    PMk X (.Call (.Name "Refusal" p) [a] [] pos) (tMkLow C ta) := by
  intro pins s σ H Q I h
  refine wpAny_Call_Name_kw (ld_glob I hg T.gC ?_)
  refine PySem.W.callWith_K (h₀ := X.base) I.ok.mod.kin T.kC (thn (ha.run pos pins s σ H _ I h) fun us s1 hh => ?_) he hpl
  obtain ⟨vs, H1, I1, r1, v, ev, q1⟩ := hh
  subst ev
  refine ⟨I1.kIn, ?_⟩
  cases r1 with
  | cons rv rn =>
    rename_i v' us'
    cases rn
    show wpAny _ _ (call (.ref C) [v']) _ _ _
    have hlim := I1.nolimit
    obtain ⟨hp, g, dr, tk, os⟩ := s1
    refine wpAny_call (PySem.LowX.low_made T I1.kIn hlim (by have := hr.dp; omega) fun h' tk' e d M => ?_)
    show MkP X pins σ Q (.ref e) ⟨h', g, dr, tk', os⟩
    obtain ⟨oe, fv, hoe, hc, hd, hdat, h1⟩ := M.obj
    have hns := M.ns
    obtain ⟨G', g1, g2⟩ := restrict h' fun b => decide (b ≠ e)
    have gk : ∀ b, b ≠ e → G'.get? b = h'.get? b := fun b hb => g1 b (decide_eq_true hb)
    have ge : G'.get? e = none := g2 e (by simp)
    have old : ∀ b o, hp.get? b = some o → G'.get? b = some o := fun b o q => (gk b (Nat.ne_of_lt (Nat.lt_of_lt_of_le (Heap.lt_size q) M.new))).trans (M.keep b o q)
    have ob : ObjOk X.prog X.w (upd H1 d (.xd [(("code" : Str), v)])) G' d (.xd [(("code" : Str), v)]) :=
      ⟨_, hns.at (fun o q => (gk d M.dne).trans q), fun f => relO_low rv f⟩
    have J : Inv X pins σ (upd H1 d (.xd [(("code" : Str), v)])) ⟨G', g, dr, tk', os⟩ := I1.laid (t' := tk') old M.dbig ob
    refine ⟨e, oe, fv, ⟨G', g, dr, tk', os⟩, _, .ref C, some d, rfl, J, fun b o q => ?_, ge, hoe, ⟨hc, hd⟩, hdat, h1, ?_, rfl, I1.bare, raises_own T.exC T.tyC, q1 d (I1.hok.fresh M.dbig)⟩
    · by_cases hb : b = e
      · have q' : G'.get? b = some o := q
        rw [hb, ge] at q'; cases q'
      · exact (gk b hb).symm.trans q
    · rw [upd_ne (Ne.symm M.dne)]
      exact I1.hok.fresh M.new
/-- raise Low(e) -/
def tRaiseLow (C : Addr) (W : WX) (ta : TA) : TS := fun _ σ H => tMkLow C ta σ H fun cls d H' => W cls d σ H'
theorem ps_raiseLow {a : Expr} {ta : TA} {W : WX} {p pos pos2 : Pos} {k : Nat} (hc : X.calm = true) (T : PySem.LowX.LowTxt X.K X.mg C fI) (hr : Room k X.A) (tk : Takes X W) (ha : PA X [a] ta) (hg : Gl X "Refusal" := by rfl)
    (he : starEach (a :: []) X.env = (false, eval a X.env) :: starEach [] X.env := by rfl) (hpl : (backTo pos (starEach [] X.env)).any (·.1) = false := by rfl) :
    PS X (.Raise (some (.Call (.Name "Refusal" p) [a] [] pos)) none pos2) (tRaiseLow C W ta) := ps_raise hc tk (pmk_low T hr ha hg he hpl)
/-- low.by, low the exception that the suite holds (at a; its class cls, its dict d) -/
def tByLow (C : Addr) (a : Addr) (cls : Value) (d : Option Addr) (te : TE) : TE := fun σ H Q => te σ H fun x H1 => x = .ref a ∧ cls = .ref C ∧ ∃ (dd : Addr) (v : V), d = some dd ∧ H1 dd = some (.xd [(("code" : Str), v)]) ∧ Q v H1
theorem pe_byLow {a : Addr} {oe : Obj} {cls : Value} {d : Option Addr} {pn : List (Addr × Obj)} {e : Expr} {te : TE} {pos : Pos} (T : PySem.LowX.LowTxt X.K X.mg C fI) (hz : Zc cls d oe) (hf : ∃ vs, oe.data = .fields vs) (he : PE (X.suite a ((a, oe) :: pn)) e te)
    (hb : attributeBase e "code" X.env (eval e X.env) = eval e X.env := by rfl) :
    PE (X.suite a ((a, oe) :: pn)) (.Attribute e "code" pos) (tByLow C a cls d te) := by
  refine ⟨fun pins s σ H Q I h => ?_⟩
  refine attr_of hb (thn (he.run pins s σ H _ I h) fun u s1 hh => ?_)
  obtain ⟨x, H1, I1, rx, ex, ec, dd, v, ed, ea, q⟩ := hh
  subst ex
  obtain rfl : u = Value.ref a := rx
  subst ec
  subst ed
  obtain ⟨ha, _⟩ := I1.pin (a, oe) (List.mem_append_left _ List.mem_cons_self)
  obtain ⟨vs, hd⟩ := hf
  have hx : ObjOk X.prog X.w H1 s1.heap dd (.xd [(("code" : Str), v)]) := I1.hok dd _ ea
  obtain ⟨mA, hns, hr⟩ := hx
  obtain ⟨od, ho, hl⟩ := lookIn_ns hns
  have l : List.lookup ("code" : Str) [(("code" : Str), v)] = some v := by simp [List.lookup]
  obtain ⟨u, hu, ru⟩ := RelO.some_of (v := v) (o := mA "code") (by rw [← l]; exact hr "code")
  have J : PySem.W.InstAt s1.heap a oe C (some od) := ⟨ha, hz.1, by unfold PySem.W.notCls; rw [hd] <;> rfl, by rw [hz.2]; exact ho⟩
  exact HandSPX.exc_get I1.kIn J T.ga T.gg T.exC (PySem.W.findObj_own T.hdC T.noN rfl (by rw [hl, hu])) (handed_of ru) ⟨v, H1, I1.tok _, ru, q⟩
end
end L2

namespace Hd
open PySem PySem.Spec PyProof.Rows L2
open Kqk5 (Day Campaign)
/-! ### the text by places -/
def top (i : Nat) : Stmt := PySem.Challenge.pw_haltdays_s01_answers.main.body.getD i (.Pass ⟨0, 0, 0, 0⟩)
/-! ### small words -/
theorem if_true_of {c : Bool} {A B : Prop} (hc : c = true) (h : A) : if c = true then A else B := by
  rw [if_pos hc]
  exact h
theorem if_false_of {c : Bool} {A B : Prop} (hc : c = false) (h : B) : if c = true then A else B := by
  rw [hc, if_neg Bool.false_ne_true]
  exact h
theorem lk_here {k : Str} {v : V} {r : List (Str × V)} : List.lookup k ((k, v) :: r) = some v := by
  have e : (k == k) = true := beq_self_eq_true k
  simp only [List.lookup, e]
theorem lk_past {k g : Str} {v : V} {r : List (Str × V)} (h : (k == g) = false) : List.lookup k ((g, v) :: r) = List.lookup k r := by
  simp only [List.lookup, h]
theorem put_here {f : Str} {v x : V} {r : List (Str × V)} : putF f v ((f, x) :: r) = (f, v) :: r := if_pos rfl
theorem put_past {f g : Str} {v x : V} {r : List (Str × V)} (h : ¬ g = f) : putF f v ((g, x) :: r) = (g, x) :: putF f v r := if_neg h
theorem sameT {K : PySem.W.Frag} {H H' : Hp} {a : Addr} {xs : List V} (e : Same H H') (h : SqT K H a xs) : SqT K H' a xs := by
  rcases h with (h | ⟨o, h⟩) | h
  · exact .inl (.inl (e _ _ h))
  · exact .inl (.inr ⟨o, e _ _ h⟩)
  · exact .inr h
theorem sameU {H H' : Hp} {p : Addr} {o : HO} (s : Same H H') (h : H' p = none) : Same H (upd H' p o) := fun b u e => by
  rw [upd_ne (ne_of_none (s _ _ e) h)]
  exact s _ _ e
/-- but for one object all is as it was -/
def But (a : Addr) (H H' : Hp) : Prop := ∀ b o, H b = some o → b ≠ a → H' b = some o
/-! ### fractions -/
def fr (r : Rat) : List V := [.int r.num, .int (r.den : Int)]
theorem fr0 (r : Rat) : atI (fr r) 0 = some (.int r.num) := atI_nat (xs := fr r) (j := 0) rfl
theorem fr1 (r : Rat) : atI (fr r) 1 = some (.int (r.den : Int)) := atI_nat (xs := fr r) (j := 1) rfl
theorem fr_den_abs {k : Nat} {r : Rat} (h : Fit k r) : ((r.den : Int)).natAbs < 2 ^ k := by
  rw [Int.natAbs_natCast]
  exact h.2
/-- a fraction r comes out, all else as it was -/
def RetFr (K : PySem.W.Frag) (H : Hp) (r : Rat) (Q : VK) : Prop := ∀ (H' : Hp) (p : Addr), Same H H' → SqT K H' p (fr r) → Q (.ref p) H'
theorem RetFr.new {K : PySem.W.Frag} {H H' : Hp} {r : Rat} {Q : VK} (k : RetFr K H r Q) (s : Same H H') {p : Addr} (hp : H' p = none) : Q (.ref p) (upd H' p (.tup (fr r))) :=
  k _ p (sameU s hp) (SqT.of upd_same)
/-- a call is refused with a code -/
def Refuse (CR : Addr) (H : Hp) (c : Int) (E : XK) : Prop := ∀ (H' : Hp) (d : Addr), Same H H' → H' d = some (.xd [(("code" : Str), V.int c)]) → E (.ref CR) (some d) H'
/-! ### days -/
def dF (d : Day) : List (Str × V) := [("gain", .int (d.gain : Int)), ("numerator", .int (d.numerator : Int)), ("denominator", .int (d.denominator : Int)), ("cost", .int (d.cost : Int))]
def DayAt (CD : Addr) (H : Hp) (a : Addr) (d : Day) : Prop := ∃ dx, H a = some (.ins CD dx (dF d))
theorem DayAt.same {CD : Addr} {H H' : Hp} {a : Addr} {d : Day} (s : Same H H') (h : DayAt CD H a d) : DayAt CD H' a d := by
  obtain ⟨dx, e⟩ := h
  exact ⟨dx, s _ _ e⟩
theorem dF_g (d : Day) : (dF d).lookup ("gain" : Str) = some (.int (d.gain : Int)) := lk_here
theorem dF_n (d : Day) : (dF d).lookup ("numerator" : Str) = some (.int (d.numerator : Int)) := (lk_past (by decide +kernel)).trans lk_here
theorem dF_d (d : Day) : (dF d).lookup ("denominator" : Str) = some (.int (d.denominator : Int)) := (lk_past (by decide +kernel)).trans ((lk_past (by decide +kernel)).trans lk_here)
theorem dF_c (d : Day) : (dF d).lookup ("cost" : Str) = some (.int (d.cost : Int)) := (lk_past (by decide +kernel)).trans ((lk_past (by decide +kernel)).trans ((lk_past (by decide +kernel)).trans lk_here))
theorem dF_new (d : Day) : putF "cost" (.int (d.cost : Int)) (putF "denominator" (.int (d.denominator : Int)) (putF "numerator" (.int (d.numerator : Int)) (putF "gain" (.int (d.gain : Int)) []))) = dF d := by
  show putF "cost" _ (putF "denominator" _ (putF "numerator" _ [(("gain" : Str), V.int (d.gain : Int))])) = _
  rw [put_past (by decide +kernel), put_past (by decide +kernel), put_past (by decide +kernel)]
  show (("gain" : Str), V.int (d.gain : Int)) :: putF "cost" _ (putF "denominator" _ [(("numerator" : Str), V.int (d.numerator : Int))]) = _
  rw [put_past (by decide +kernel), put_past (by decide +kernel)]
  show (("gain" : Str), V.int (d.gain : Int)) :: (("numerator" : Str), V.int (d.numerator : Int)) :: putF "cost" _ [(("denominator" : Str), V.int (d.denominator : Int))] = _
  rw [put_past (by decide +kernel)]
  rfl
/-- the objects at as are the days ds -/
structure DaysOf (CD : Addr) (H : Hp) (as : List Addr) (ds : List Day) : Prop where
  len : as.length = ds.length
  at_ : ∀ (i : Nat) (a : Addr) (d : Day), as[i]? = some a → ds[i]? = some d → DayAt CD H a d
theorem DaysOf.same {CD : Addr} {H H' : Hp} {as : List Addr} {ds : List Day} (s : Same H H') (h : DaysOf CD H as ds) : DaysOf CD H' as ds := ⟨h.len, fun i a d h1 h2 => (h.at_ i a d h1 h2).same s⟩
theorem DaysOf.get {CD : Addr} {H : Hp} {as : List Addr} {ds : List Day} (h : DaysOf CD H as ds) {i : Nat} {x : V} (hx : (as.map V.ref)[i]? = some x) : ∃ a d, x = .ref a ∧ as[i]? = some a ∧ ds[i]? = some d ∧ DayAt CD H a d := by
  rw [List.getElem?_map] at hx
  cases e : as[i]? with
  | none => rw [e] at hx; cases hx
  | some a =>
    rw [e] at hx
    have hi : i < as.length := (List.getElem?_eq_some_iff.mp e).1
    have hi2 : i < ds.length := by rw [← h.len]; exact hi
    exact ⟨a, ds[i], (Option.some.inj hx).symm, rfl, by simp [hi2], h.at_ i a _ e (by simp [hi2])⟩
theorem DaysOf.here {CD : Addr} {H : Hp} {as : List Addr} {ds : List Day} (h : DaysOf CD H as ds) {i : Nat} {d : Day} (hd : ds[i]? = some d) : ∃ a, as[i]? = some a ∧ DayAt CD H a d := by
  have hi : i < ds.length := (List.getElem?_eq_some_iff.mp hd).1
  have hi2 : i < as.length := by rw [h.len]; exact hi
  exact ⟨as[i], by simp [hi2], h.at_ i _ d (by simp [hi2]) hd⟩
theorem DaysOf.drop {CD : Addr} {H : Hp} {as : List Addr} {ds : List Day} (h : DaysOf CD H as ds) (k : Nat) : DaysOf CD H (as.drop k) (ds.drop k) :=
  ⟨by simp [h.len], fun i a d h1 h2 => h.at_ (k + i) a d (by simpa using h1) (by simpa using h2)⟩
theorem take_some {α : Type} {l : List α} {k i : Nat} {x : α} (h : (l.take k)[i]? = some x) : l[i]? = some x := by
  rw [List.getElem?_take] at h
  split at h
  · exact h
  · cases h
theorem DaysOf.take {CD : Addr} {H : Hp} {as : List Addr} {ds : List Day} (h : DaysOf CD H as ds) (k : Nat) : DaysOf CD H (as.take k) (ds.take k) :=
  ⟨by simp [h.len], fun i a d h1 h2 => h.at_ i a d (take_some h1) (take_some h2)⟩
theorem DaysOf.nil {CD : Addr} {H : Hp} : DaysOf CD H [] [] := ⟨rfl, fun i a d h1 _ => by simp at h1⟩
theorem DaysOf.set {CD : Addr} {H : Hp} {as : List Addr} {ds : List Day} (h : DaysOf CD H as ds) (k : Nat) {a : Addr} {d : Day} (hd : DayAt CD H a d) : DaysOf CD H (as.set k a) (ds.set k d) := by
  refine ⟨by simp [h.len], fun i b e h1 h2 => ?_⟩
  rw [List.getElem?_set] at h1 h2
  by_cases c : k = i
  · rw [if_pos c] at h1 h2
    split at h1
    · split at h2
      · cases h1; cases h2; exact hd
      · cases h2
    · cases h1
  · rw [if_neg c] at h1 h2
    exact h.at_ i b e h1 h2
theorem DaysOf.push {CD : Addr} {H : Hp} {as : List Addr} {ds : List Day} (h : DaysOf CD H as ds) {a : Addr} {d : Day} (hd : DayAt CD H a d) : DaysOf CD H (as ++ [a]) (ds ++ [d]) := by
  refine ⟨by simp [h.len], fun i b e h1 h2 => ?_⟩
  by_cases c : i < as.length
  · rw [List.getElem?_append_left c] at h1
    rw [List.getElem?_append_left (by rw [← h.len]; exact c)] at h2
    exact h.at_ i b e h1 h2
  · rw [List.getElem?_append_right (by omega)] at h1
    rw [List.getElem?_append_right (by rw [← h.len]; omega)] at h2
    have z : i - as.length = 0 := by
      have := (List.getElem?_eq_some_iff.mp h1).1
      simp at this; omega
    rw [z] at h1
    rw [← h.len, z] at h2
    cases h1; cases h2; exact hd
theorem DaysOf.pop {CD : Addr} {H : Hp} {as : List Addr} {ds : List Day} (h : DaysOf CD H as ds) : DaysOf CD H as.dropLast ds.dropLast := by
  rw [List.dropLast_eq_take, List.dropLast_eq_take, h.len]
  exact h.take _
def AllOk (ds : List Day) : Prop := ∀ d ∈ ds, DayOk d
theorem AllOk.drop {ds : List Day} (h : AllOk ds) (k : Nat) : AllOk (ds.drop k) := fun d hd => h d (List.mem_of_mem_drop hd)
theorem AllOk.take {ds : List Day} (h : AllOk ds) (k : Nat) : AllOk (ds.take k) := fun d hd => h d (List.mem_of_mem_take hd)
theorem AllOk.at {ds : List Day} (h : AllOk ds) {i : Nat} {d : Day} (hd : ds[i]? = some d) : DayOk d := h d (List.mem_of_getElem? hd)
/-! ### what the written part says of a def by its name -/
structure Dn (K : PySem.W.Frag) (mg : Str → Option Value) (x : Str) (st : Stmt) (ps : List Str) (f : Addr) : Prop where
  ex : ∃ fd, Fun K x x st f fd ∧ Binds K fd ps []
  g : mg x = some (.ref f)
/-- a def of which a promise is known -/
structure Kn (P : Program) (w : World) (K : PySem.W.Frag) (mg : Str → Option Value) (base : Heap) (x : Str) (CX : CXT) (k : Nat) (ps : List Str) (sp : Sp) (f : Addr) : Prop where
  ex : ∃ fd, FnOk P w K mg base CX k f fd ps sp ∧ Binds K fd ps []
  g : mg x = some (.ref f)
  kp : PySem.W.keepIn K (.ref f) = true
/-- a method -/
structure Dm (K : PySem.W.Frag) (C : Addr) (m qual : Str) (st : Stmt) (ps : List Str) (f : Addr) : Prop where
  ex : ∃ fd, Fun K m qual st f fd ∧ Binds K fd ps []
  m : Meth K C m f
structure Km (P : Program) (w : World) (K : PySem.W.Frag) (mg : Str → Option Value) (base : Heap) (C : Addr) (m : Str) (k : Nat) (ps : List Str) (sp : Sp) (f : Addr) : Prop where
  ex : ∃ fd, FnOk P w K mg base CX0 k f fd ps sp ∧ Binds K fd ps []
  m : Meth K C m f
/-- a def that may raise lets its callees' errors out -/
theorem passX {P : Program} {w : World} {K : PySem.W.Frag} {mg : Str → Option Value} {base : Heap} {N : List Str} {qual : Str} {sc : Scope} {f : Addr} {cdv : Value} {A : Around} {outer : List Env} {s : Shared} {H : Hp} {E : XK} :
    Passes (L2.CX P w) (cxOf (L2.CX P w) P w K mg base N qual sc f cdv A outer s H E) E := passes_call (W := fun cls d _ H => E cls d H) (takes_of rfl rfl rfl rfl) (fun _ _ _ _ h => h)
/-- a written tuple -/
def KTup (K : PySem.W.Frag) (a : Addr) (xs : List V) : Prop := ∃ (o : Obj) (its : Array Value) (n : Nat), K.lookup a = some o ∧ o.cls = .type "tuple" ∧ o.data = .seq its n ∧ its.size ≤ sizeLine ∧ Vals xs its.toList
theorem KTup.sq {K : PySem.W.Frag} {a : Addr} {xs : List V} (h : KTup K a xs) {H : Hp} : SqT K H a xs := .inr h
end Hd

namespace Hd
open PySem PySem.Spec PyProof.Rows L2
open Kqk5 (Day Campaign)
/-! ### the promises of the fractions and the days -/
def spGcd : Sp := fun vs H Q _ => ∃ a b : Nat, vs = [.int (a : Int), .int (b : Int)] ∧ Q (.int ((a.gcd b : Nat) : Int)) H
def spRatio (K : PySem.W.Frag) : Sp := fun vs H Q _ => ∃ (n : Int) (d : Nat), vs = [.int n, .int (d : Int)] ∧ 0 < d ∧ d < 2 ^ 8000 ∧ RetFr K H (mkRat n d) Q
def spWhole (K : PySem.W.Frag) : Sp := fun vs H Q _ => ∃ n : Nat, vs = [.int (n : Int)] ∧ RetFr K H (n : Rat) Q
def spAr (K : PySem.W.Frag) (op : Rat → Rat → Rat) : Sp := fun vs H Q _ => ∃ (p q : Addr) (x y : Rat), vs = [.ref p, .ref q] ∧ SqT K H p (fr x) ∧ SqT K H q (fr y) ∧ Fit 2000 x ∧ Fit 2000 y ∧ RetFr K H (op x y) Q
def spGreater (K : PySem.W.Frag) : Sp := fun vs H Q _ => ∃ (p q : Addr) (x y : Rat), vs = [.ref p, .ref q] ∧ SqT K H p (fr x) ∧ SqT K H q (fr y) ∧ Fit 2000 x ∧ Fit 2000 y ∧ Q (.bl (decide (y < x))) H
def spPos (K : PySem.W.Frag) : Sp := fun vs H Q _ => ∃ (p : Addr) (x : Rat), vs = [.ref p] ∧ SqT K H p (fr x) ∧ Q (.bl (decide (0 < x))) H
def spGr (K : PySem.W.Frag) : Sp := fun vs H Q _ => ∃ (p q : Addr) (x y : Rat), vs = [.ref p, .ref q] ∧ SqT K H p (fr x) ∧ SqT K H q (fr y) ∧ Fit 2000 x ∧ Fit 2000 y ∧ (y < x → Q (.ref p) H) ∧ (¬ y < x → Q (.ref q) H)
def spDayInit (CD : Addr) : Sp := fun vs H Q _ => ∃ (p dx : Addr) (d : Day), vs = [.ref p, .int (d.gain : Int), .int (d.numerator : Int), .int (d.denominator : Int), .int (d.cost : Int)] ∧ H p = some (.ins CD dx []) ∧ Q .non (upd H p (.ins CD dx (dF d)))
def spAreFields : Sp := fun vs H Q _ => ∃ g a b c : Nat, vs = [.int (g : Int), .int (a : Int), .int (b : Int), .int (c : Int)] ∧ Q (.bl (Kqk5.isDay g a b c)) H
def spFieldsOf (CD : Addr) : Sp := fun vs H Q _ => ∃ (a : Addr) (d : Day), vs = [.ref a] ∧ DayAt CD H a d ∧ ∀ p, H p = none → Q (.ref p) (upd H p (.lst [.int (d.gain : Int), .int (d.numerator : Int), .int (d.denominator : Int), .int (d.cost : Int)]))
def spWithCost (CD : Addr) : Sp := fun vs H Q _ => ∃ (a : Addr) (d : Day) (c : Nat), vs = [.ref a, .int (c : Int)] ∧ DayAt CD H a d ∧ ∀ (H' : Hp) (p : Addr), Same H H' → DayAt CD H' p { d with cost := c } → Q (.ref p) H'
def spDay1 (K : PySem.W.Frag) (CD : Addr) (f : Day → Rat) : Sp := fun vs H Q _ => ∃ (a : Addr) (d : Day), vs = [.ref a] ∧ DayAt CD H a d ∧ DayOk d ∧ RetFr K H (f d) Q
def spDay2 (K : PySem.W.Frag) (CD : Addr) (f : Day → Rat → Rat) : Sp := fun vs H Q _ => ∃ (a p : Addr) (d : Day) (r : Rat), vs = [.ref a, .ref p] ∧ DayAt CD H a d ∧ DayOk d ∧ SqT K H p (fr r) ∧ Fit 900 r ∧ RetFr K H (f d r) Q
def spHasEvent (CD : Addr) : Sp := fun vs H Q _ => ∃ (a : Addr) (d : Day) (x : Nat), vs = [.ref a, .int (x : Int)] ∧ DayAt CD H a d ∧ DayOk d ∧ Q (.bl (decide (x * d.denominator < 1000 * d.numerator))) H
/-- what is read of the class Day -/
structure TDay (K : PySem.W.Frag) (CD : Addr) : Prop where
  cl : Cls K CD
  ng : NoAttr K CD "gain"
  nn : NoAttr K CD "numerator"
  nd : NoAttr K CD "denominator"
  nc : NoAttr K CD "cost"
theorem plt {f : Str} {v : V} : ∀ {fs : List (Str × V)} {n : Nat}, fs.length < n → (putF f v fs).length < n + 1
  | [], n, h => by show 1 < n + 1; simp at h; omega
  | (g, x) :: r, n, h => by
    by_cases c : g = f
    · subst c; rw [put_here]; exact Nat.lt_succ_of_lt h
    · rw [put_past c]
      have h' : r.length + 1 < n := h
      have := plt (f := f) (v := v) (fs := r) (n := n - 1) (by omega)
      show (putF f v r).length + 1 < n + 1
      omega
theorem abs_is (n : Int) : (if n < 0 then -n else n) = ((n.natAbs : Nat) : Int) := by
  split <;> omega
theorem wide_small {i j : Int} (h : (-(2 ^ 64) < i ∧ i < 2 ^ 64) ∨ (-(2 ^ 64) < j ∧ j < 2 ^ 64)) : CMul i j := h
theorem dec_int_nat (a b : Nat) : decide ((a : Int) < (b : Int)) = decide (a < b) := by
  by_cases h : a < b
  · rw [decide_eq_true h, decide_eq_true (by omega)]
  · rw [decide_eq_false h, decide_eq_false (by omega)]
section
variable {P : Program} {w : World} {K : PySem.W.Frag} {mg : Str → Option Value} {base : Heap} {CD : Addr}
abbrev s_common_divisor : Stmt := top 3
theorem sc_common_divisor : FnScope ["one", "other"] ["one", "other"] (defScope s_common_divisor) := ⟨rfl, rfl, rfl, by decide +kernel, rfl, by decide +kernel, by decide +kernel⟩
theorem ok_common_divisor {f : Addr} (D : Dn K mg "common_divisor" s_common_divisor ["one", "other"] f) : Kn P w K mg base "common_divisor" CX0 1 ["one", "other"] (spGcd) f := by
  obtain ⟨⟨fd, F, b⟩, g⟩ := D
  refine ⟨⟨fd, F.ok sc_common_divisor (fun vs H Q E h => ?_) (fun cdv A outer s H vs Q E hr h => ?_), b⟩, g, F.kp⟩
  · obtain ⟨_, _, rfl, _⟩ := h
    rfl
  · obtain ⟨a, b, rfl, k⟩ := h
    refine ⟨_, (pss_cons (ps_while PassesOwn.never (pt_cmpR op_gt (pv 1) pe_int (nomark _)) (pss_one (ps_par (i := 0) (j := 1) (by rfl) sc_common_divisor.nd rfl rfl (by decide) rfl rfl (pa_cons (pv 1) (pa_cons (pe_op op_mod (pv 0) (pv 1)) pa_nil)) (by rfl)))) (pss_one (ps_ret (pv 0)))), ?_⟩
    refine while_by (fun σ H' => ∃ x y : Nat, σ = [some (.int (x : Int)), some (.int (y : Int))] ∧ H' = H ∧ x.gcd y = a.gcd b)
      (fun σ _ => match σ with | [_, some (.int y)] => y.toNat | _ => 0) ⟨a, b, rfl, rfl, rfl⟩ ?_ ?_
    · rintro σ H' ⟨x, y, rfl, rfl, e⟩
      refine ⟨_, rfl, _, _, rfl, rfl, _, rfl, ?_⟩
      by_cases c : 0 < y
      · refine if_true_of (decide_eq_true (by omega)) ?_
        refine ⟨_, rfl, _, rfl, _, rfl, _, _, rfl, rfl, (by omega), _, _, rfl, ?_⟩
        refine ⟨⟨y, x % y, ?_, rfl, ?_⟩, ?_⟩
        · show [some (V.int (y : Int)), some (V.int ((x : Int) % (y : Int)))] = [some (V.int (y : Int)), some (V.int ((x % y : Nat) : Int))]
          rw [Int.natCast_emod]
        · rw [← e, Nat.gcd_comm x y, Nat.gcd_rec y x, Nat.gcd_comm]
        · show ((x : Int) % (y : Int)).toNat < ((y : Int)).toNat
          rw [← Int.natCast_emod, Int.toNat_natCast, Int.toNat_natCast]
          exact Nat.mod_lt _ c
      · refine if_false_of (decide_eq_false (by omega)) ?_
        obtain rfl : y = 0 := by omega
        refine ⟨_, rfl, ?_⟩
        have e2 : x = a.gcd b := by rw [← e, Nat.gcd_zero_right]
        show Q (V.int (x : Int)) H'
        rw [e2]
        exact k
    · rintro σ H' Q1 Q2 h ⟨v, e, i, j, e1, e2, kk, e3, q⟩
      exact ⟨v, e, i, j, e1, e2, kk, e3, h _ _ q⟩
abbrev s_ratio : Stmt := top 4
theorem sc_ratio : FnScope ["numerator", "denominator", "shared"] ["numerator", "denominator"] (defScope s_ratio) := ⟨rfl, rfl, rfl, by decide +kernel, rfl, by decide +kernel, by decide +kernel⟩
theorem ok_ratio {f f_common_divisor : Addr} (D : Dn K mg "ratio" s_ratio ["numerator", "denominator"] f) (D_common_divisor : Kn P w K mg base "common_divisor" CX0 1 ["one", "other"] (spGcd) f_common_divisor) (g_abs : mg "abs" = none) : Kn P w K mg base "ratio" CX0 2 ["numerator", "denominator"] (spRatio K) f := by
  obtain ⟨⟨fd, F, b⟩, g⟩ := D
  obtain ⟨⟨_, G_common_divisor, b_common_divisor⟩, g_common_divisor, k_common_divisor⟩ := D_common_divisor
  refine ⟨⟨fd, F.ok sc_ratio (fun vs H Q E h => ?_) (fun cdv A outer s H vs Q E hr h => ?_), b⟩, g, F.kp⟩
  · obtain ⟨_, _, rfl, _⟩ := h
    rfl
  · obtain ⟨n, d, rfl, hd, hd2, k⟩ := h
    refine ⟨_, (pss_cons (ps_set (i := 2) sc_ratio.nd rfl (Or.inl rfl) (pe_call G_common_divisor (hr.mono (by decide)) rfl g_common_divisor k_common_divisor b_common_divisor .nil pass0 (pa_cons (pe_callB call_abs (by rfl) g_abs (by decide +kernel) (pa_cons (pv 0) pa_nil)) (pa_cons (pv 1) pa_nil)))) (pss_one (ps_ret (pe_tup (pa_cons (pe_op op_fdivW (pv 0) (pv 2)) (pa_cons (pe_op op_fdivW (pv 1) (pv 2)) pa_nil)))))), ?_⟩
    have hg : 0 < n.natAbs.gcd d := Nat.gcd_pos_of_pos_right _ hd
    have hg2 : n.natAbs.gcd d < 2 ^ 8000 := Nat.lt_of_le_of_lt (Nat.le_of_dvd hd (Nat.gcd_dvd_right _ _)) hd2
    have cw : ∀ z : Int, CDivW z ((n.natAbs.gcd d : Nat) : Int) := fun z => wide_div (b := 8000) (by omega) (by rw [Int.natAbs_natCast]; exact hg2) (by omega) (by omega)
    refine ⟨_, rfl, n, rfl, _, rfl, n.natAbs, d, ?_, ?_⟩
    · rw [abs_is]; rfl
    · refine ⟨_, rfl, _, rfl, _, _, rfl, rfl, cw _, _, rfl, _, rfl, _, _, rfl, rfl, cw _, (by show 2 ≤ sizeLine; decide), fun p hp => ?_⟩
      have e : ([V.int (n / ((n.natAbs.gcd d : Nat) : Int)), V.int ((d : Int) / ((n.natAbs.gcd d : Nat) : Int))] : List V) = fr (mkRat n d) := by
        show _ = [V.int (mkRat n d).num, V.int (((mkRat n d).den : Nat) : Int)]
        rw [mk_num n (by omega), mk_den n (by omega), Int.natCast_ediv]
      rw [e]
      exact k.new (Same.refl H) hp
abbrev s_whole : Stmt := top 5
theorem sc_whole : FnScope ["number"] ["number"] (defScope s_whole) := ⟨rfl, rfl, rfl, by decide +kernel, rfl, by decide +kernel, by decide +kernel⟩
theorem ok_whole {f : Addr} (D : Dn K mg "whole" s_whole ["number"] f) : Kn P w K mg base "whole" CX0 1 ["number"] (spWhole K) f := by
  obtain ⟨⟨fd, F, b⟩, g⟩ := D
  refine ⟨⟨fd, F.ok sc_whole (fun vs H Q E h => ?_) (fun cdv A outer s H vs Q E hr h => ?_), b⟩, g, F.kp⟩
  · obtain ⟨_, rfl, _⟩ := h
    rfl
  · obtain ⟨n, rfl, k⟩ := h
    refine ⟨_, (pss_one (ps_ret (pe_tup (pa_cons (pv 0) (pa_cons pe_int pa_nil))))), ?_⟩
    exact ⟨_, rfl, (by show 2 ≤ sizeLine; decide), fun p hp => k.new (Same.refl H) hp⟩
abbrev s_total_of : Stmt := top 6
theorem sc_total_of : FnScope ["one", "other"] ["one", "other"] (defScope s_total_of) := ⟨rfl, rfl, rfl, by decide +kernel, rfl, by decide +kernel, by decide +kernel⟩
theorem ok_total_of {f f_ratio : Addr} (D : Dn K mg "total_of" s_total_of ["one", "other"] f) (D_ratio : Kn P w K mg base "ratio" CX0 2 ["numerator", "denominator"] (spRatio K) f_ratio) : Kn P w K mg base "total_of" CX0 3 ["one", "other"] (spAr K (· + ·)) f := by
  obtain ⟨⟨fd, F, b⟩, g⟩ := D
  obtain ⟨⟨_, G_ratio, b_ratio⟩, g_ratio, k_ratio⟩ := D_ratio
  refine ⟨⟨fd, F.ok sc_total_of (fun vs H Q E h => ?_) (fun cdv A outer s H vs Q E hr h => ?_), b⟩, g, F.kp⟩
  · obtain ⟨_, _, _, _, rfl, _⟩ := h
    rfl
  · obtain ⟨p, q, x, y, rfl, hx, hy, fx, fy, k⟩ := h
    refine ⟨_, (pss_one (ps_ret (pe_call G_ratio (hr.mono (by decide)) rfl g_ratio k_ratio b_ratio .nil pass0 (pa_cons (pe_op op_add (pe_op op_mulW (pe_ix ix_tup (pv 0) pe_int (fun _ _ => rfl)) (pe_ix ix_tup (pv 1) pe_int (fun _ _ => rfl))) (pe_op op_mulW (pe_ix ix_tup (pv 1) pe_int (fun _ _ => rfl)) (pe_ix ix_tup (pv 0) pe_int (fun _ _ => rfl)))) (pa_cons (pe_op op_mulW (pe_ix ix_tup (pv 0) pe_int (fun _ _ => rfl)) (pe_ix ix_tup (pv 1) pe_int (fun _ _ => rfl))) pa_nil))))), ?_⟩
    refine ⟨_, rfl, p, _, _, _, rfl, rfl, hx, fr0 x, _, rfl, q, _, _, _, rfl, rfl, hy, fr1 y, _, _, rfl, rfl, wide_mul fx.1 (fr_den_abs fy) (by omega) (by omega) (by omega), _, rfl, q, _, _, _, rfl, rfl, hy, fr0 y, _, rfl, p, _, _, _, rfl, rfl, hx, fr1 x, _, _, rfl, rfl, wide_mul fy.1 (fr_den_abs fx) (by omega) (by omega) (by omega), _, _, rfl, rfl, _, rfl, p, _, _, _, rfl, rfl, hx, fr1 x, _, rfl, q, _, _, _, rfl, rfl, hy, fr1 y, _, _, rfl, rfl, wide_mul (fr_den_abs fx) (fr_den_abs fy) (by omega) (by omega) (by omega), ?_⟩
    refine ⟨x.num * (y.den : Int) + y.num * (x.den : Int), x.den * y.den, ?_, Nat.mul_pos x.den_pos y.den_pos, Nat.lt_of_lt_of_le (den2_lt fx fy) (Nat.pow_le_pow_right (by omega) (by omega)), ?_⟩
    · rw [Int.natCast_mul]; rfl
    · rw [← Rat.add_def']; exact k
abbrev s_difference_of : Stmt := top 7
theorem sc_difference_of : FnScope ["one", "other"] ["one", "other"] (defScope s_difference_of) := ⟨rfl, rfl, rfl, by decide +kernel, rfl, by decide +kernel, by decide +kernel⟩
theorem ok_difference_of {f f_ratio : Addr} (D : Dn K mg "difference_of" s_difference_of ["one", "other"] f) (D_ratio : Kn P w K mg base "ratio" CX0 2 ["numerator", "denominator"] (spRatio K) f_ratio) : Kn P w K mg base "difference_of" CX0 3 ["one", "other"] (spAr K (· - ·)) f := by
  obtain ⟨⟨fd, F, b⟩, g⟩ := D
  obtain ⟨⟨_, G_ratio, b_ratio⟩, g_ratio, k_ratio⟩ := D_ratio
  refine ⟨⟨fd, F.ok sc_difference_of (fun vs H Q E h => ?_) (fun cdv A outer s H vs Q E hr h => ?_), b⟩, g, F.kp⟩
  · obtain ⟨_, _, _, _, rfl, _⟩ := h
    rfl
  · obtain ⟨p, q, x, y, rfl, hx, hy, fx, fy, k⟩ := h
    refine ⟨_, (pss_one (ps_ret (pe_call G_ratio (hr.mono (by decide)) rfl g_ratio k_ratio b_ratio .nil pass0 (pa_cons (pe_op op_sub (pe_op op_mulW (pe_ix ix_tup (pv 0) pe_int (fun _ _ => rfl)) (pe_ix ix_tup (pv 1) pe_int (fun _ _ => rfl))) (pe_op op_mulW (pe_ix ix_tup (pv 1) pe_int (fun _ _ => rfl)) (pe_ix ix_tup (pv 0) pe_int (fun _ _ => rfl)))) (pa_cons (pe_op op_mulW (pe_ix ix_tup (pv 0) pe_int (fun _ _ => rfl)) (pe_ix ix_tup (pv 1) pe_int (fun _ _ => rfl))) pa_nil))))), ?_⟩
    refine ⟨_, rfl, p, _, _, _, rfl, rfl, hx, fr0 x, _, rfl, q, _, _, _, rfl, rfl, hy, fr1 y, _, _, rfl, rfl, wide_mul fx.1 (fr_den_abs fy) (by omega) (by omega) (by omega), _, rfl, q, _, _, _, rfl, rfl, hy, fr0 y, _, rfl, p, _, _, _, rfl, rfl, hx, fr1 x, _, _, rfl, rfl, wide_mul fy.1 (fr_den_abs fx) (by omega) (by omega) (by omega), _, _, rfl, rfl, _, rfl, p, _, _, _, rfl, rfl, hx, fr1 x, _, rfl, q, _, _, _, rfl, rfl, hy, fr1 y, _, _, rfl, rfl, wide_mul (fr_den_abs fx) (fr_den_abs fy) (by omega) (by omega) (by omega), ?_⟩
    refine ⟨x.num * (y.den : Int) - y.num * (x.den : Int), x.den * y.den, ?_, Nat.mul_pos x.den_pos y.den_pos, Nat.lt_of_lt_of_le (den2_lt fx fy) (Nat.pow_le_pow_right (by omega) (by omega)), ?_⟩
    · rw [Int.natCast_mul]; rfl
    · rw [← Rat.sub_def']; exact k
abbrev s_product_of : Stmt := top 8
theorem sc_product_of : FnScope ["one", "other"] ["one", "other"] (defScope s_product_of) := ⟨rfl, rfl, rfl, by decide +kernel, rfl, by decide +kernel, by decide +kernel⟩
theorem ok_product_of {f f_ratio : Addr} (D : Dn K mg "product_of" s_product_of ["one", "other"] f) (D_ratio : Kn P w K mg base "ratio" CX0 2 ["numerator", "denominator"] (spRatio K) f_ratio) : Kn P w K mg base "product_of" CX0 3 ["one", "other"] (spAr K (· * ·)) f := by
  obtain ⟨⟨fd, F, b⟩, g⟩ := D
  obtain ⟨⟨_, G_ratio, b_ratio⟩, g_ratio, k_ratio⟩ := D_ratio
  refine ⟨⟨fd, F.ok sc_product_of (fun vs H Q E h => ?_) (fun cdv A outer s H vs Q E hr h => ?_), b⟩, g, F.kp⟩
  · obtain ⟨_, _, _, _, rfl, _⟩ := h
    rfl
  · obtain ⟨p, q, x, y, rfl, hx, hy, fx, fy, k⟩ := h
    refine ⟨_, (pss_one (ps_ret (pe_call G_ratio (hr.mono (by decide)) rfl g_ratio k_ratio b_ratio .nil pass0 (pa_cons (pe_op op_mulW (pe_ix ix_tup (pv 0) pe_int (fun _ _ => rfl)) (pe_ix ix_tup (pv 1) pe_int (fun _ _ => rfl))) (pa_cons (pe_op op_mulW (pe_ix ix_tup (pv 0) pe_int (fun _ _ => rfl)) (pe_ix ix_tup (pv 1) pe_int (fun _ _ => rfl))) pa_nil))))), ?_⟩
    refine ⟨_, rfl, p, _, _, _, rfl, rfl, hx, fr0 x, _, rfl, q, _, _, _, rfl, rfl, hy, fr0 y, _, _, rfl, rfl, wide_mul fx.1 fy.1 (by omega) (by omega) (by omega), _, rfl, p, _, _, _, rfl, rfl, hx, fr1 x, _, rfl, q, _, _, _, rfl, rfl, hy, fr1 y, _, _, rfl, rfl, wide_mul (fr_den_abs fx) (fr_den_abs fy) (by omega) (by omega) (by omega), ?_⟩
    refine ⟨x.num * y.num, x.den * y.den, ?_, Nat.mul_pos x.den_pos y.den_pos, Nat.lt_of_lt_of_le (den2_lt fx fy) (Nat.pow_le_pow_right (by omega) (by omega)), ?_⟩
    · rw [Int.natCast_mul]; rfl
    · rw [← Rat.mul_def']; exact k
abbrev s_is_greater : Stmt := top 9
theorem sc_is_greater : FnScope ["one", "other"] ["one", "other"] (defScope s_is_greater) := ⟨rfl, rfl, rfl, by decide +kernel, rfl, by decide +kernel, by decide +kernel⟩
theorem ok_is_greater {f : Addr} (D : Dn K mg "is_greater" s_is_greater ["one", "other"] f) : Kn P w K mg base "is_greater" CX0 1 ["one", "other"] (spGreater K) f := by
  obtain ⟨⟨fd, F, b⟩, g⟩ := D
  refine ⟨⟨fd, F.ok sc_is_greater (fun vs H Q E h => ?_) (fun cdv A outer s H vs Q E hr h => ?_), b⟩, g, F.kp⟩
  · obtain ⟨_, _, _, _, rfl, _⟩ := h
    rfl
  · obtain ⟨p, q, x, y, rfl, hx, hy, fx, fy, k⟩ := h
    refine ⟨_, (pss_one (ps_ret (pe_cmpR op_gt (pe_op op_mulW (pe_ix ix_tup (pv 0) pe_int (fun _ _ => rfl)) (pe_ix ix_tup (pv 1) pe_int (fun _ _ => rfl))) (pe_op op_mulW (pe_ix ix_tup (pv 1) pe_int (fun _ _ => rfl)) (pe_ix ix_tup (pv 0) pe_int (fun _ _ => rfl))) (nomark _)))), ?_⟩
    refine ⟨_, rfl, p, _, _, _, rfl, rfl, hx, fr0 x, _, rfl, q, _, _, _, rfl, rfl, hy, fr1 y, _, _, rfl, rfl, wide_mul fx.1 (fr_den_abs fy) (by omega) (by omega) (by omega), _, rfl, q, _, _, _, rfl, rfl, hy, fr0 y, _, rfl, p, _, _, _, rfl, rfl, hx, fr1 x, _, _, rfl, rfl, wide_mul fy.1 (fr_den_abs fx) (by omega) (by omega) (by omega), _, _, rfl, rfl, ?_⟩
    have e : decide (y.num * (x.den : Int) < x.num * (y.den : Int)) = decide (y < x) := by
      by_cases c : y < x
      · rw [decide_eq_true c, decide_eq_true ((Rat.lt_iff y x).mp c)]
      · rw [decide_eq_false c, decide_eq_false (fun z => c ((Rat.lt_iff y x).mpr z))]
    show Q (V.bl (decide (y.num * (x.den : Int) < x.num * (y.den : Int)))) H
    rw [e]
    exact k
abbrev s_is_positive : Stmt := top 10
theorem sc_is_positive : FnScope ["one"] ["one"] (defScope s_is_positive) := ⟨rfl, rfl, rfl, by decide +kernel, rfl, by decide +kernel, by decide +kernel⟩
theorem ok_is_positive {f : Addr} (D : Dn K mg "is_positive" s_is_positive ["one"] f) : Kn P w K mg base "is_positive" CX0 1 ["one"] (spPos K) f := by
  obtain ⟨⟨fd, F, b⟩, g⟩ := D
  refine ⟨⟨fd, F.ok sc_is_positive (fun vs H Q E h => ?_) (fun cdv A outer s H vs Q E hr h => ?_), b⟩, g, F.kp⟩
  · obtain ⟨_, _, rfl, _⟩ := h
    rfl
  · obtain ⟨p, x, rfl, hx, k⟩ := h
    refine ⟨_, (pss_one (ps_ret (pe_cmpR op_gt (pe_ix ix_tup (pv 0) pe_int (fun _ _ => rfl)) pe_int (nomark _)))), ?_⟩
    refine ⟨_, rfl, p, _, _, _, rfl, rfl, hx, fr0 x, _, _, rfl, rfl, ?_⟩
    have e : decide ((0 : Int) < x.num) = decide (0 < x) := by
      by_cases c : 0 < x
      · rw [decide_eq_true c, decide_eq_true ((pos_iff x).mp c)]
      · rw [decide_eq_false c, decide_eq_false (fun z => c ((pos_iff x).mpr z))]
    show Q (V.bl (decide ((0 : Int) < x.num))) H
    rw [e]
    exact k
abbrev s_greater_of : Stmt := top 11
theorem sc_greater_of : FnScope ["one", "other"] ["one", "other"] (defScope s_greater_of) := ⟨rfl, rfl, rfl, by decide +kernel, rfl, by decide +kernel, by decide +kernel⟩
theorem ok_greater_of {f f_is_greater : Addr} (D : Dn K mg "greater_of" s_greater_of ["one", "other"] f) (D_is_greater : Kn P w K mg base "is_greater" CX0 1 ["one", "other"] (spGreater K) f_is_greater) : Kn P w K mg base "greater_of" CX0 2 ["one", "other"] (spGr K) f := by
  obtain ⟨⟨fd, F, b⟩, g⟩ := D
  obtain ⟨⟨_, G_is_greater, b_is_greater⟩, g_is_greater, k_is_greater⟩ := D_is_greater
  refine ⟨⟨fd, F.ok sc_greater_of (fun vs H Q E h => ?_) (fun cdv A outer s H vs Q E hr h => ?_), b⟩, g, F.kp⟩
  · obtain ⟨_, _, _, _, rfl, _⟩ := h
    rfl
  · obtain ⟨p, q, x, y, rfl, hx, hy, fx, fy, k1, k2⟩ := h
    refine ⟨_, (pss_one (ps_ret (pe_ifExp (pt_val (pe_call G_is_greater (hr.mono (by decide)) rfl g_is_greater k_is_greater b_is_greater .nil pass0 (pa_cons (pv 0) (pa_cons (pv 1) pa_nil)))) (pv 0) (pv 1)))), ?_⟩
    refine ⟨_, rfl, _, rfl, p, q, x, y, rfl, hx, hy, fx, fy, _, rfl, ?_⟩
    by_cases c : y < x
    · exact if_true_of (decide_eq_true c) ⟨_, rfl, k1 c⟩
    · exact if_false_of (decide_eq_false c) ⟨_, rfl, k2 c⟩
abbrev s_Day___init__ : Stmt := inClass (top 16) 0
theorem sc_Day___init__ : FnScope ["self", "gain", "numerator", "denominator", "cost"] ["self", "gain", "numerator", "denominator", "cost"] (defScope s_Day___init__) := ⟨rfl, rfl, rfl, by decide +kernel, rfl, by decide +kernel, by decide +kernel⟩
theorem ok_Day___init__ {f : Addr} (D : Dm K CD "__init__" "Day.__init__" s_Day___init__ ["self", "gain", "numerator", "denominator", "cost"] f) (g_t : TDay K CD) : Km P w K mg base CD "__init__" 1 ["self", "gain", "numerator", "denominator", "cost"] (spDayInit CD) f := by
  obtain ⟨⟨fd, F, b⟩, g⟩ := D
  refine ⟨⟨fd, F.ok sc_Day___init__ (fun vs H Q E h => ?_) (fun cdv A outer s H vs Q E hr h => ?_), b⟩, g⟩
  · obtain ⟨_, _, _, rfl, _⟩ := h
    rfl
  · obtain ⟨p, dx, d, rfl, hp, k⟩ := h
    refine ⟨_, (pss_cons (ps_fld (pv 0) (pv 1) rfl) (pss_cons (ps_fld (pv 0) (pv 2) rfl) (pss_cons (ps_fld (pv 0) (pv 3) rfl) (pss_one (ps_fld (pv 0) (pv 4) rfl))))), ?_⟩
    refine ⟨_, rfl, _, rfl, p, CD, dx, _, rfl, hp, g_t.cl, g_t.ng, (by show 0 < 1000; decide), ?_⟩
    refine ⟨_, rfl, _, rfl, p, CD, dx, _, rfl, upd_same, g_t.cl, g_t.nn, plt (by show 0 < 999; decide), ?_⟩
    rw [upd_upd]
    refine ⟨_, rfl, _, rfl, p, CD, dx, _, rfl, upd_same, g_t.cl, g_t.nd, plt (plt (by show 0 < 998; decide)), ?_⟩
    rw [upd_upd]
    refine ⟨_, rfl, _, rfl, p, CD, dx, _, rfl, upd_same, g_t.cl, g_t.nc, plt (plt (plt (by show 0 < 997; decide))), ?_⟩
    rw [upd_upd, dF_new]
    exact k
end
end Hd

namespace Hd
open PySem PySem.Spec PyProof.Rows L2
open Kqk5 (Day Campaign)
theorem pow_up {a b : Nat} (h : a ≤ b) : 2 ^ a ≤ 2 ^ b := Nat.pow_le_pow_right (by decide) h
theorem small_pow {n : Nat} (h : n ≤ 100) : n < 2 ^ 8000 := Nat.lt_of_le_of_lt h (Nat.lt_of_lt_of_le (by decide : 100 < 2 ^ 7) (pow_up (by omega)))
theorem sameU2 {H H' : Hp} {p : Addr} {o : HO} (s : Same H H') (h : H p = none) : Same H (upd H' p o) := fun b u e => by
  rw [upd_ne (ne_of_none e h)]
  exact s _ _ e
section
variable {P : Program} {w : World} {K : PySem.W.Frag} {mg : Str → Option Value} {base : Heap} {CD zA : Addr}
abbrev s_are_fields : Stmt := top 17
theorem sc_are_fields : FnScope ["gain", "numerator", "denominator", "cost"] ["gain", "numerator", "denominator", "cost"] (defScope s_are_fields) := ⟨rfl, rfl, rfl, by decide +kernel, rfl, by decide +kernel, by decide +kernel⟩
theorem ok_are_fields {f : Addr} (D : Dn K mg "are_fields" s_are_fields ["gain", "numerator", "denominator", "cost"] f) (g_MOST_GAIN : ∃ t, mg "MOST_GAIN" = some (.int 1000 t)) (g_MOST_DENOMINATOR : ∃ t, mg "MOST_DENOMINATOR" = some (.int 100 t)) (g_MOST_COST : ∃ t, mg "MOST_COST" = some (.int 10000 t)) : Kn P w K mg base "are_fields" CX0 1 ["gain", "numerator", "denominator", "cost"] (spAreFields) f := by
  obtain ⟨⟨fd, F, b⟩, g⟩ := D
  obtain ⟨_, g_MOST_GAIN⟩ := g_MOST_GAIN
  obtain ⟨_, g_MOST_DENOMINATOR⟩ := g_MOST_DENOMINATOR
  obtain ⟨_, g_MOST_COST⟩ := g_MOST_COST
  refine ⟨⟨fd, F.ok sc_are_fields (fun vs H Q E h => ?_) (fun cdv A outer s H vs Q E hr h => ?_), b⟩, g, F.kp⟩
  · obtain ⟨_, _, _, _, rfl, _⟩ := h
    rfl
  · obtain ⟨x, a, b, c, rfl, k⟩ := h
    refine ⟨_, (pss_cons (ps_if (PW.pt (pw_or (pt_cmpR op_gt (pv 0) (pe_glob (v := .int (1000)) rfl g_MOST_GAIN ⟨_, rfl⟩) (nomark _)) (pw_or1 (pt_cmpR op_gt (pv 3) (pe_glob (v := .int (10000)) rfl g_MOST_COST ⟨_, rfl⟩) (nomark _))))) (pss_one (ps_ret pe_bl)) pss_nil) (pss_one (ps_ret (pe_and (pe_chain op_le op_le pe_int (pv 2) (pe_glob (v := .int (100)) rfl g_MOST_DENOMINATOR ⟨_, rfl⟩)) (pe_one (pe_cmpR op_le (pv 1) (pv 2) (nomark _))))))), ?_⟩
    unfold Kqk5.isDay at k
    refine ⟨_, rfl, _, _, rfl, rfl, _, rfl, ?_⟩
    by_cases c1 : x ≤ 1000
    · refine if_false_of (decide_eq_false (by omega)) ?_
      rw [decide_eq_true c1, Bool.true_and] at k
      refine ⟨_, rfl, _, _, rfl, rfl, _, rfl, ?_⟩
      by_cases c2 : c ≤ 10000
      · refine if_false_of (decide_eq_false (by omega)) ?_
        rw [decide_eq_true c2, Bool.and_true] at k
        refine ⟨_, rfl, _, _, rfl, rfl, _, rfl, ?_⟩
        by_cases c3 : 1 ≤ b
        · refine if_true_of (decide_eq_true (by omega)) ?_
          rw [decide_eq_true c3, Bool.true_and] at k
          refine ⟨_, _, rfl, rfl, _, rfl, ?_⟩
          by_cases c4 : b ≤ 100
          · rw [decide_eq_true c4, Bool.true_and] at k
            refine if_true_of (decide_eq_true (by omega)) ⟨_, rfl, _, rfl, _, _, rfl, rfl, ?_⟩
            have e : decide ((a : Int) ≤ (b : Int)) = decide (a ≤ b) := by
              by_cases h : a ≤ b
              · rw [decide_eq_true h, decide_eq_true (by omega)]
              · rw [decide_eq_false h, decide_eq_false (by omega)]
            show Q (V.bl (decide ((a : Int) ≤ (b : Int)))) H
            rw [e]; exact k
          · rw [decide_eq_false c4, Bool.false_and] at k
            exact if_false_of (decide_eq_false (by omega)) k
        · rw [decide_eq_false c3, Bool.false_and, Bool.false_and] at k
          exact if_false_of (decide_eq_false (by omega)) ⟨_, rfl, if_false_of rfl k⟩
      · refine if_true_of (decide_eq_true (by omega)) ?_
        rw [decide_eq_false c2, Bool.and_false] at k
        exact k
    · refine if_true_of (decide_eq_true (by omega)) ?_
      rw [decide_eq_false c1, Bool.false_and, Bool.false_and, Bool.false_and, Bool.false_and] at k
      exact k
abbrev s_fields_of : Stmt := top 18
theorem sc_fields_of : FnScope ["day"] ["day"] (defScope s_fields_of) := ⟨rfl, rfl, rfl, by decide +kernel, rfl, by decide +kernel, by decide +kernel⟩
theorem ok_fields_of {f : Addr} (D : Dn K mg "fields_of" s_fields_of ["day"] f) (g_t : TDay K CD) : Kn P w K mg base "fields_of" CX0 1 ["day"] (spFieldsOf CD) f := by
  obtain ⟨⟨fd, F, b⟩, g⟩ := D
  refine ⟨⟨fd, F.ok sc_fields_of (fun vs H Q E h => ?_) (fun cdv A outer s H vs Q E hr h => ?_), b⟩, g, F.kp⟩
  · obtain ⟨_, _, rfl, _⟩ := h
    rfl
  · obtain ⟨a, d, rfl, ⟨dx, hd⟩, k⟩ := h
    refine ⟨_, (pss_one (ps_ret (pe_lst (pa_cons (pe_fld (pv 0) rfl) (pa_cons (pe_fld (pv 0) rfl) (pa_cons (pe_fld (pv 0) rfl) (pa_cons (pe_fld (pv 0) rfl) pa_nil))))))), ?_⟩
    exact ⟨_, rfl, a, CD, dx, _, _, rfl, hd, g_t.cl, g_t.ng, dF_g d, _, rfl, a, CD, dx, _, _, rfl, hd, g_t.cl, g_t.nn, dF_n d, _, rfl, a, CD, dx, _, _, rfl, hd, g_t.cl, g_t.nd, dF_d d, _, rfl, a, CD, dx, _, _, rfl, hd, g_t.cl, g_t.nc, dF_c d, (by show 4 ≤ sizeLine; decide), k⟩
abbrev s_with_cost : Stmt := top 19
theorem sc_with_cost : FnScope ["day", "cost"] ["day", "cost"] (defScope s_with_cost) := ⟨rfl, rfl, rfl, by decide +kernel, rfl, by decide +kernel, by decide +kernel⟩
theorem ok_with_cost {f f_Day___init__ : Addr} (D : Dn K mg "with_cost" s_with_cost ["day", "cost"] f) (D_Day___init__ : Km P w K mg base CD "__init__" 1 ["self", "gain", "numerator", "denominator", "cost"] (spDayInit CD) f_Day___init__) (g_t : TDay K CD) (g_Day : mg "Day" = some (.ref CD)) (g_M : Mk K CD f_Day___init__) : Kn P w K mg base "with_cost" CX0 3 ["day", "cost"] (spWithCost CD) f := by
  obtain ⟨⟨fd, F, b⟩, g⟩ := D
  obtain ⟨⟨_, G_Day___init__, b_Day___init__⟩, m_Day___init__⟩ := D_Day___init__
  refine ⟨⟨fd, F.ok sc_with_cost (fun vs H Q E h => ?_) (fun cdv A outer s H vs Q E hr h => ?_), b⟩, g, F.kp⟩
  · obtain ⟨_, _, _, rfl, _⟩ := h
    rfl
  · obtain ⟨a, d, c, rfl, ⟨dx, hd⟩, k⟩ := h
    refine ⟨_, (pss_one (ps_ret (pe_make g_M G_Day___init__ (hr.mono (by decide)) rfl g_Day b_Day___init__ .nil pass0 (pa_cons (pe_fld (pv 0) rfl) (pa_cons (pe_fld (pv 0) rfl) (pa_cons (pe_fld (pv 0) rfl) (pa_cons (pv 1) pa_nil))))))), ?_⟩
    refine ⟨_, rfl, a, CD, dx, _, _, rfl, hd, g_t.cl, g_t.ng, dF_g d, _, rfl, a, CD, dx, _, _, rfl, hd, g_t.cl, g_t.nn, dF_n d, _, rfl, a, CD, dx, _, _, rfl, hd, g_t.cl, g_t.nd, dF_d d, _, rfl, fun x dy nx ny ne => ?_⟩
    refine ⟨x, dy, { d with cost := c }, rfl, upd_same, rfl, ?_⟩
    rw [upd_upd]
    exact k _ x (sameU2 (sameU (Same.refl H) ny) nx) ⟨dy, upd_same⟩
abbrev s_event_chance : Stmt := top 20
theorem sc_event_chance : FnScope ["day"] ["day"] (defScope s_event_chance) := ⟨rfl, rfl, rfl, by decide +kernel, rfl, by decide +kernel, by decide +kernel⟩
theorem ok_event_chance {f f_ratio : Addr} (D : Dn K mg "event_chance" s_event_chance ["day"] f) (D_ratio : Kn P w K mg base "ratio" CX0 2 ["numerator", "denominator"] (spRatio K) f_ratio) (g_t : TDay K CD) : Kn P w K mg base "event_chance" CX0 3 ["day"] (spDay1 K CD Kqk5.eventProbability) f := by
  obtain ⟨⟨fd, F, b⟩, g⟩ := D
  obtain ⟨⟨_, G_ratio, b_ratio⟩, g_ratio, k_ratio⟩ := D_ratio
  refine ⟨⟨fd, F.ok sc_event_chance (fun vs H Q E h => ?_) (fun cdv A outer s H vs Q E hr h => ?_), b⟩, g, F.kp⟩
  · obtain ⟨_, _, rfl, _⟩ := h
    rfl
  · obtain ⟨a, d, rfl, ⟨dx, hd⟩, ok, k⟩ := h
    refine ⟨_, (pss_one (ps_ret (pe_call G_ratio (hr.mono (by decide)) rfl g_ratio k_ratio b_ratio .nil pass0 (pa_cons (pe_fld (pv 0) rfl) (pa_cons (pe_fld (pv 0) rfl) pa_nil))))), ?_⟩
    refine ⟨_, rfl, a, CD, dx, _, _, rfl, hd, g_t.cl, g_t.nn, dF_n d, _, rfl, a, CD, dx, _, _, rfl, hd, g_t.cl, g_t.nd, dF_d d, ?_⟩
    exact ⟨(d.numerator : Int), d.denominator, rfl, ok.den1, small_pow ok.den, by rw [event_mk]; exact k⟩
abbrev s_quiet_chance : Stmt := top 21
theorem sc_quiet_chance : FnScope ["day"] ["day"] (defScope s_quiet_chance) := ⟨rfl, rfl, rfl, by decide +kernel, rfl, by decide +kernel, by decide +kernel⟩
theorem ok_quiet_chance {f f_ratio : Addr} (D : Dn K mg "quiet_chance" s_quiet_chance ["day"] f) (D_ratio : Kn P w K mg base "ratio" CX0 2 ["numerator", "denominator"] (spRatio K) f_ratio) (g_t : TDay K CD) : Kn P w K mg base "quiet_chance" CX0 3 ["day"] (spDay1 K CD Kqk5.quietProbability) f := by
  obtain ⟨⟨fd, F, b⟩, g⟩ := D
  obtain ⟨⟨_, G_ratio, b_ratio⟩, g_ratio, k_ratio⟩ := D_ratio
  refine ⟨⟨fd, F.ok sc_quiet_chance (fun vs H Q E h => ?_) (fun cdv A outer s H vs Q E hr h => ?_), b⟩, g, F.kp⟩
  · obtain ⟨_, _, rfl, _⟩ := h
    rfl
  · obtain ⟨a, d, rfl, ⟨dx, hd⟩, ok, k⟩ := h
    refine ⟨_, (pss_one (ps_ret (pe_call G_ratio (hr.mono (by decide)) rfl g_ratio k_ratio b_ratio .nil pass0 (pa_cons (pe_op op_sub (pe_fld (pv 0) rfl) (pe_fld (pv 0) rfl)) (pa_cons (pe_fld (pv 0) rfl) pa_nil))))), ?_⟩
    refine ⟨_, rfl, a, CD, dx, _, _, rfl, hd, g_t.cl, g_t.nd, dF_d d, _, rfl, a, CD, dx, _, _, rfl, hd, g_t.cl, g_t.nn, dF_n d, _, _, rfl, rfl, _, rfl, a, CD, dx, _, _, rfl, hd, g_t.cl, g_t.nd, dF_d d, ?_⟩
    exact ⟨(d.denominator : Int) - (d.numerator : Int), d.denominator, rfl, ok.den1, small_pow ok.den, by rw [quiet_mk ok]; exact k⟩
abbrev s_quiet_part : Stmt := top 22
theorem sc_quiet_part : FnScope ["day", "behind"] ["day", "behind"] (defScope s_quiet_part) := ⟨rfl, rfl, rfl, by decide +kernel, rfl, by decide +kernel, by decide +kernel⟩
theorem ok_quiet_part {f f_product_of f_quiet_chance f_total_of f_whole : Addr} (D : Dn K mg "quiet_part" s_quiet_part ["day", "behind"] f) (D_product_of : Kn P w K mg base "product_of" CX0 3 ["one", "other"] (spAr K (· * ·)) f_product_of) (D_quiet_chance : Kn P w K mg base "quiet_chance" CX0 3 ["day"] (spDay1 K CD Kqk5.quietProbability) f_quiet_chance) (D_total_of : Kn P w K mg base "total_of" CX0 3 ["one", "other"] (spAr K (· + ·)) f_total_of) (D_whole : Kn P w K mg base "whole" CX0 1 ["number"] (spWhole K) f_whole) (g_t : TDay K CD) : Kn P w K mg base "quiet_part" CX0 4 ["day", "behind"] (spDay2 K CD (fun d r => Kqk5.quietProbability d * ((d.gain : Rat) + r))) f := by
  obtain ⟨⟨fd, F, b⟩, g⟩ := D
  obtain ⟨⟨_, G_product_of, b_product_of⟩, g_product_of, k_product_of⟩ := D_product_of
  obtain ⟨⟨_, G_quiet_chance, b_quiet_chance⟩, g_quiet_chance, k_quiet_chance⟩ := D_quiet_chance
  obtain ⟨⟨_, G_total_of, b_total_of⟩, g_total_of, k_total_of⟩ := D_total_of
  obtain ⟨⟨_, G_whole, b_whole⟩, g_whole, k_whole⟩ := D_whole
  refine ⟨⟨fd, F.ok sc_quiet_part (fun vs H Q E h => ?_) (fun cdv A outer s H vs Q E hr h => ?_), b⟩, g, F.kp⟩
  · obtain ⟨_, _, _, _, rfl, _⟩ := h
    rfl
  · obtain ⟨a, p, d, r, rfl, hda, ok, hp, fp, k⟩ := h
    refine ⟨_, (pss_one (ps_ret (pe_call G_product_of (hr.mono (by decide)) rfl g_product_of k_product_of b_product_of .nil pass0 (pa_cons (pe_call G_quiet_chance (hr.mono (by decide)) rfl g_quiet_chance k_quiet_chance b_quiet_chance .nil pass0 (pa_cons (pv 0) pa_nil)) (pa_cons (pe_call G_total_of (hr.mono (by decide)) rfl g_total_of k_total_of b_total_of .nil pass0 (pa_cons (pe_call G_whole (hr.mono (by decide)) rfl g_whole k_whole b_whole .nil pass0 (pa_cons (pe_fld (pv 0) rfl) pa_nil)) (pa_cons (pv 1) pa_nil))) pa_nil))))), ?_⟩
    obtain ⟨dx, hd⟩ := id hda
    refine ⟨_, rfl, a, d, rfl, hda, ok, fun H1 p1 s1 t1 => ?_⟩
    refine ⟨_, rfl, a, CD, dx, _, _, rfl, s1 _ _ hd, g_t.cl, g_t.ng, dF_g d, d.gain, rfl, fun H2 p2 s2 t2 => ?_⟩
    refine ⟨_, rfl, p2, p, _, r, rfl, t2, sameT (s1.trans s2) hp, (fit_gain ok).mono (by omega), fp.mono (by omega), fun H3 p3 s3 t3 => ?_⟩
    exact ⟨p1, p3, _, _, rfl, sameT (s2.trans s3) t1, t3, (fit_quiet ok).mono (by omega), (fit_sum ok fp).mono (by omega), fun H4 p4 s4 t4 => k _ _ (((s1.trans s2).trans s3).trans s4) t4⟩
abbrev s_event_part : Stmt := top 23
theorem sc_event_part : FnScope ["day"] ["day"] (defScope s_event_part) := ⟨rfl, rfl, rfl, by decide +kernel, rfl, by decide +kernel, by decide +kernel⟩
theorem ok_event_part {f f_product_of f_event_chance f_whole : Addr} (D : Dn K mg "event_part" s_event_part ["day"] f) (D_product_of : Kn P w K mg base "product_of" CX0 3 ["one", "other"] (spAr K (· * ·)) f_product_of) (D_event_chance : Kn P w K mg base "event_chance" CX0 3 ["day"] (spDay1 K CD Kqk5.eventProbability) f_event_chance) (D_whole : Kn P w K mg base "whole" CX0 1 ["number"] (spWhole K) f_whole) (g_t : TDay K CD) : Kn P w K mg base "event_part" CX0 4 ["day"] (spDay1 K CD (fun d => Kqk5.eventProbability d * (d.cost : Rat))) f := by
  obtain ⟨⟨fd, F, b⟩, g⟩ := D
  obtain ⟨⟨_, G_product_of, b_product_of⟩, g_product_of, k_product_of⟩ := D_product_of
  obtain ⟨⟨_, G_event_chance, b_event_chance⟩, g_event_chance, k_event_chance⟩ := D_event_chance
  obtain ⟨⟨_, G_whole, b_whole⟩, g_whole, k_whole⟩ := D_whole
  refine ⟨⟨fd, F.ok sc_event_part (fun vs H Q E h => ?_) (fun cdv A outer s H vs Q E hr h => ?_), b⟩, g, F.kp⟩
  · obtain ⟨_, _, rfl, _⟩ := h
    rfl
  · obtain ⟨a, d, rfl, hda, ok, k⟩ := h
    refine ⟨_, (pss_one (ps_ret (pe_call G_product_of (hr.mono (by decide)) rfl g_product_of k_product_of b_product_of .nil pass0 (pa_cons (pe_call G_event_chance (hr.mono (by decide)) rfl g_event_chance k_event_chance b_event_chance .nil pass0 (pa_cons (pv 0) pa_nil)) (pa_cons (pe_call G_whole (hr.mono (by decide)) rfl g_whole k_whole b_whole .nil pass0 (pa_cons (pe_fld (pv 0) rfl) pa_nil)) pa_nil))))), ?_⟩
    obtain ⟨dx, hd⟩ := id hda
    refine ⟨_, rfl, a, d, rfl, hda, ok, fun H1 p1 s1 t1 => ?_⟩
    refine ⟨_, rfl, a, CD, dx, _, _, rfl, s1 _ _ hd, g_t.cl, g_t.nc, dF_c d, d.cost, rfl, fun H2 p2 s2 t2 => ?_⟩
    exact ⟨p1, p2, _, _, rfl, sameT s2 t1, t2, (fit_event ok).mono (by omega), (fit_cost ok).mono (by omega), fun H4 p4 s4 t4 => k _ _ ((s1.trans s2).trans s4) t4⟩
abbrev s_worth : Stmt := top 24
theorem sc_worth : FnScope ["day", "behind"] ["day", "behind"] (defScope s_worth) := ⟨rfl, rfl, rfl, by decide +kernel, rfl, by decide +kernel, by decide +kernel⟩
theorem ok_worth {f f_difference_of f_quiet_part f_event_part : Addr} (D : Dn K mg "worth" s_worth ["day", "behind"] f) (D_difference_of : Kn P w K mg base "difference_of" CX0 3 ["one", "other"] (spAr K (· - ·)) f_difference_of) (D_quiet_part : Kn P w K mg base "quiet_part" CX0 4 ["day", "behind"] (spDay2 K CD (fun d r => Kqk5.quietProbability d * ((d.gain : Rat) + r))) f_quiet_part) (D_event_part : Kn P w K mg base "event_part" CX0 4 ["day"] (spDay1 K CD (fun d => Kqk5.eventProbability d * (d.cost : Rat))) f_event_part) : Kn P w K mg base "worth" CX0 5 ["day", "behind"] (spDay2 K CD worth) f := by
  obtain ⟨⟨fd, F, b⟩, g⟩ := D
  obtain ⟨⟨_, G_difference_of, b_difference_of⟩, g_difference_of, k_difference_of⟩ := D_difference_of
  obtain ⟨⟨_, G_quiet_part, b_quiet_part⟩, g_quiet_part, k_quiet_part⟩ := D_quiet_part
  obtain ⟨⟨_, G_event_part, b_event_part⟩, g_event_part, k_event_part⟩ := D_event_part
  refine ⟨⟨fd, F.ok sc_worth (fun vs H Q E h => ?_) (fun cdv A outer s H vs Q E hr h => ?_), b⟩, g, F.kp⟩
  · obtain ⟨_, _, _, _, rfl, _⟩ := h
    rfl
  · obtain ⟨a, p, d, r, rfl, hda, ok, hp, fp, k⟩ := h
    refine ⟨_, (pss_one (ps_ret (pe_call G_difference_of (hr.mono (by decide)) rfl g_difference_of k_difference_of b_difference_of .nil pass0 (pa_cons (pe_call G_quiet_part (hr.mono (by decide)) rfl g_quiet_part k_quiet_part b_quiet_part .nil pass0 (pa_cons (pv 0) (pa_cons (pv 1) pa_nil))) (pa_cons (pe_call G_event_part (hr.mono (by decide)) rfl g_event_part k_event_part b_event_part .nil pass0 (pa_cons (pv 0) pa_nil)) pa_nil))))), ?_⟩
    refine ⟨_, rfl, _, rfl, a, p, d, r, rfl, hda, ok, hp, fp, fun H1 p1 s1 t1 => ?_⟩
    refine ⟨_, rfl, a, d, rfl, hda.same s1, ok, fun H2 p2 s2 t2 => ?_⟩
    exact ⟨p1, p2, _, _, rfl, sameT s2 t1, t2, (fit_qpart ok fp).mono (by omega), (fit_epart ok).mono (by omega), fun H4 p4 s4 t4 => k _ _ ((s1.trans s2).trans s4) t4⟩
abbrev s_single_day_value : Stmt := top 25
theorem sc_single_day_value : FnScope ["day"] ["day"] (defScope s_single_day_value) := ⟨rfl, rfl, rfl, by decide +kernel, rfl, by decide +kernel, by decide +kernel⟩
theorem ok_single_day_value {f f_worth : Addr} (D : Dn K mg "single_day_value" s_single_day_value ["day"] f) (D_worth : Kn P w K mg base "worth" CX0 5 ["day", "behind"] (spDay2 K CD worth) f_worth) (g_ZERO : mg "ZERO" = some (.ref zA)) (g_z : KTup K zA (fr 0)) : Kn P w K mg base "single_day_value" CX0 6 ["day"] (spDay1 K CD Kqk5.singleDayValue) f := by
  obtain ⟨⟨fd, F, b⟩, g⟩ := D
  obtain ⟨⟨_, G_worth, b_worth⟩, g_worth, k_worth⟩ := D_worth
  refine ⟨⟨fd, F.ok sc_single_day_value (fun vs H Q E h => ?_) (fun cdv A outer s H vs Q E hr h => ?_), b⟩, g, F.kp⟩
  · obtain ⟨_, _, rfl, _⟩ := h
    rfl
  · obtain ⟨a, d, rfl, hda, ok, k⟩ := h
    refine ⟨_, (pss_one (ps_ret (pe_call G_worth (hr.mono (by decide)) rfl g_worth k_worth b_worth .nil pass0 (pa_cons (pv 0) (pa_cons (pe_glob (v := .ref zA) rfl g_ZERO rfl) pa_nil))))), ?_⟩
    refine ⟨_, rfl, a, zA, d, 0, rfl, hda, ok, g_z.sq, fit_zero (by omega), ?_⟩
    rw [single_worth]
    exact k
abbrev s_has_event : Stmt := top 26
theorem sc_has_event : FnScope ["day", "sample"] ["day", "sample"] (defScope s_has_event) := ⟨rfl, rfl, rfl, by decide +kernel, rfl, by decide +kernel, by decide +kernel⟩
theorem ok_has_event {f : Addr} (D : Dn K mg "has_event" s_has_event ["day", "sample"] f) (g_t : TDay K CD) : Kn P w K mg base "has_event" CX0 1 ["day", "sample"] (spHasEvent CD) f := by
  obtain ⟨⟨fd, F, b⟩, g⟩ := D
  refine ⟨⟨fd, F.ok sc_has_event (fun vs H Q E h => ?_) (fun cdv A outer s H vs Q E hr h => ?_), b⟩, g, F.kp⟩
  · obtain ⟨_, _, _, rfl, _⟩ := h
    rfl
  · obtain ⟨a, d, x, rfl, ⟨dx, hd⟩, ok, k⟩ := h
    refine ⟨_, (pss_one (ps_ret (pe_cmpR op_lt (pe_op op_mul (pv 1) (pe_fld (pv 0) rfl)) (pe_op op_mul pe_int (pe_fld (pv 0) rfl)) (nomark _)))), ?_⟩
    have h1 := ok.den
    refine ⟨_, rfl, _, rfl, a, CD, dx, _, _, rfl, hd, g_t.cl, g_t.nd, dF_d d, _, _, rfl, rfl, wide_small (.inr ⟨by omega, by omega⟩), _, rfl, a, CD, dx, _, _, rfl, hd, g_t.cl, g_t.nn, dF_n d, _, _, rfl, rfl, wide_small (.inl ⟨by decide, by decide⟩), _, _, rfl, rfl, ?_⟩
    have e : decide ((x : Int) * (d.denominator : Int) < 1000 * (d.numerator : Int)) = decide (x * d.denominator < 1000 * d.numerator) := by
      have e1 : (x : Int) * (d.denominator : Int) = ((x * d.denominator : Nat) : Int) := (Int.natCast_mul _ _).symm
      rw [e1]
      by_cases h : x * d.denominator < 1000 * d.numerator
      · rw [decide_eq_true h, decide_eq_true (by omega)]
      · rw [decide_eq_false h, decide_eq_false (by omega)]
    show Q (V.bl (decide ((x : Int) * (d.denominator : Int) < 1000 * (d.numerator : Int)))) H
    rw [e]
    exact k
end
end Hd

namespace Hd
open PySem PySem.Spec PyProof.Rows L2
open Kqk5 (Day Campaign)
/-! ### lists of days -/
theorem cut_from (xs : List V) (k : Nat) : cutV xs (some (k : Int)) none = xs.drop k := by
  unfold cutV
  rw [HT.sIx_nat, HT.sIx_none]
  by_cases h : k ≤ xs.length
  · rw [Nat.min_eq_left h, List.take_of_length_le (by simp)]
  · rw [Nat.min_eq_right (by omega), List.drop_of_length_le (Nat.le_refl _), List.drop_of_length_le (by omega)]; simp
theorem cut_to (xs : List V) (k : Nat) : cutV xs none (some (k : Int)) = xs.take k := by
  unfold cutV
  rw [HT.sIx_nat, HT.sIx_none, List.drop_zero, Nat.sub_zero]
  by_cases h : k ≤ xs.length
  · rw [Nat.min_eq_left h]
  · rw [Nat.min_eq_right (by omega), List.take_of_length_le (Nat.le_refl _), List.take_of_length_le (by omega)]
structure ListAt (K : PySem.W.Frag) (CD : Addr) (H : Hp) (l : Addr) (ds : List Day) : Prop where
  ex : ∃ as : List Addr, SqL K H l (as.map V.ref) ∧ DaysOf CD H as ds
  ok : AllOk ds
  len : ds.length ≤ 10
theorem ListAt.same {K : PySem.W.Frag} {CD : Addr} {H H' : Hp} {l : Addr} {ds : List Day} (s : Same H H') (h : ListAt K CD H l ds) : ListAt K CD H' l ds := by
  obtain ⟨⟨as, h1, h2⟩, h3, h4⟩ := h
  exact ⟨⟨as, Same.seq s h1, h2.same s⟩, h3, h4⟩
theorem AllOk.cons {d : Day} {ds : List Day} (h : AllOk (d :: ds)) : AllOk ds := fun e he => h e (List.mem_cons_of_mem _ he)
theorem newFrom {K : PySem.W.Frag} {CD : Addr} {H : Hp} {as : List Addr} {ds : List Day} (h : DaysOf CD H as ds) (ok : AllOk ds) (ln : ds.length ≤ 10) (k : Nat) {p : Addr} (hp : H p = none) :
    ListAt K CD (upd H p (.lst (cutV (as.map V.ref) (some (k : Int)) none))) p (ds.drop k) := by
  rw [cut_from, ← List.map_drop]
  exact ⟨⟨_, SqL.of upd_same, (h.drop k).same (sameU (Same.refl H) hp)⟩, ok.drop k, by rw [List.length_drop]; omega⟩
theorem newTo {K : PySem.W.Frag} {CD : Addr} {H : Hp} {as : List Addr} {ds : List Day} (h : DaysOf CD H as ds) (ok : AllOk ds) (ln : ds.length ≤ 10) (k : Nat) {p : Addr} (hp : H p = none) :
    ListAt K CD (upd H p (.lst (cutV (as.map V.ref) none (some (k : Int))))) p (ds.take k) := by
  rw [cut_to, ← List.map_take]
  exact ⟨⟨_, SqL.of upd_same, (h.take k).same (sameU (Same.refl H) hp)⟩, ok.take k, by rw [List.length_take]; omega⟩
theorem drop_at {α : Type} {l : List α} {k : Nat} {d : α} (h : l[k]? = some d) : l.drop k = d :: l.drop (k + 1) := by
  obtain ⟨h1, h2⟩ := List.getElem?_eq_some_iff.mp h
  rw [List.drop_eq_getElem_cons h1, h2]
/-! ### the promises of lists of days -/
def spList (K : PySem.W.Frag) (CD : Addr) (f : List Day → Rat) : Sp := fun vs H Q _ => ∃ (l : Addr) (ds : List Day), vs = [.ref l] ∧ ListAt K CD H l ds ∧ RetFr K H (f ds) Q
def spCount (K : PySem.W.Frag) (CD : Addr) (f : List Day → V) : Sp := fun vs H Q _ => ∃ (l : Addr) (ds : List Day), vs = [.ref l] ∧ ListAt K CD H l ds ∧ ∀ H', Same H H' → Q (f ds) H'
def spAlone (K : PySem.W.Frag) (CD : Addr) : Sp := fun vs H Q _ => ∃ (a : Addr) (d : Day), vs = [.ref a] ∧ DayAt CD H a d ∧ DayOk d ∧ ∀ H', Same H H' → Q (.bl (decide (0 < Kqk5.singleDayValue d))) H'
/-- the greatest cost, of the first one of some days -/
def greatest (d : Day) (r : List Day) : V := if d.numerator = 0 then .int 10000 else if 0 < (Kqk5.quietProbability d * ((d.gain : Rat) + Kqk5.value r)).num then .int (mostCost (Kqk5.quietProbability d * ((d.gain : Rat) + Kqk5.value r)) (Kqk5.eventProbability d)) else .non
def spGreatest (K : PySem.W.Frag) (CD : Addr) : Sp := fun vs H Q _ => ∃ (l : Addr) (d : Day) (r : List Day), vs = [.ref l] ∧ ListAt K CD H l (d :: r) ∧ ∀ H', Same H H' → Q (greatest d r) H'
theorem fit_val {ds : List Day} (ok : AllOk ds) (ln : ds.length ≤ 10) : Fit 900 (Kqk5.value ds) := (fit_value ok).mono (by omega)
theorem fit_pl {ds : List Day} (ok : AllOk ds) (ln : ds.length ≤ 10) : Fit 900 (planAll ds) := (fit_plan ok).mono (by omega)
theorem at_map {as : List Addr} {i : Nat} {x : V} (hx : (as.map V.ref)[i]? = some x) : ∃ a, x = .ref a ∧ as[i]? = some a := by
  rw [List.getElem?_map] at hx
  cases e : as[i]? with
  | none => rw [e] at hx; cases hx
  | some a => rw [e] at hx; exact ⟨a, (Option.some.inj hx).symm, rfl⟩
section
variable {P : Program} {w : World} {K : PySem.W.Frag} {mg : Str → Option Value} {base : Heap} {CD zA oA : Addr}
abbrev s_value_of : Stmt := top 45
theorem sc_value_of : FnScope ["days", "found", "day"] ["days"] (defScope s_value_of) := ⟨rfl, rfl, rfl, by decide +kernel, rfl, by decide +kernel, by decide +kernel⟩
theorem ok_value_of {f f_greater_of f_worth : Addr} (D : Dn K mg "value_of" s_value_of ["days"] f) (D_greater_of : Kn P w K mg base "greater_of" CX0 2 ["one", "other"] (spGr K) f_greater_of) (D_worth : Kn P w K mg base "worth" CX0 5 ["day", "behind"] (spDay2 K CD worth) f_worth) (g_ZERO : mg "ZERO" = some (.ref zA)) (g_z : KTup K zA (fr 0)) (g_reversed : mg "reversed" = none) : Kn P w K mg base "value_of" CX0 6 ["days"] (spList K CD Kqk5.value) f := by
  obtain ⟨⟨fd, F, b⟩, g⟩ := D
  obtain ⟨⟨_, G_greater_of, b_greater_of⟩, g_greater_of, k_greater_of⟩ := D_greater_of
  obtain ⟨⟨_, G_worth, b_worth⟩, g_worth, k_worth⟩ := D_worth
  refine ⟨⟨fd, F.ok sc_value_of (fun vs H Q E h => ?_) (fun cdv A outer s H vs Q E hr h => ?_), b⟩, g, F.kp⟩
  · obtain ⟨_, _, rfl, _⟩ := h
    rfl
  · obtain ⟨l, ds, rfl, hL, k⟩ := h
    refine ⟨_, (pss_cons (ps_set (i := 1) sc_value_of.nd rfl (Or.inl rfl) (pe_glob (v := .ref zA) rfl g_ZERO rfl)) (pss_cons (ps_for PassesOwn.never rfl (pi_reversed (by rfl) g_reversed (pa_cons (pv 0) pa_nil)) (pg_name (i := 2) sc_value_of.nd rfl (Or.inl rfl)) (pss_one (ps_set (i := 1) sc_value_of.nd rfl (Or.inl rfl) (pe_call G_greater_of (hr.mono (by decide)) rfl g_greater_of k_greater_of b_greater_of .nil pass0 (pa_cons (pe_glob (v := .ref zA) rfl g_ZERO rfl) (pa_cons (pe_call G_worth (hr.mono (by decide)) rfl g_worth k_worth b_worth .nil pass0 (pa_cons (pv 2) (pa_cons (pv 1) pa_nil))) pa_nil)))))) (pss_one (ps_ret (pv 1))))), ?_⟩
    obtain ⟨⟨as, hS, hD⟩, ok, ln⟩ := id hL
    have hlen := hD.len
    refine ⟨_, rfl, l, _, rfl, hS, for_it walk_rev (fun i σ H' => ∃ (q : Addr) (v : Option V), σ = [some (.ref l), some (.ref q), v] ∧ Same H H' ∧ SqT K H' q (fr (Kqk5.value (ds.drop (ds.length - i))))) ⟨zA, none, rfl, Same.refl H, ?_⟩ (fun i σ H' _ ⟨_, _, _, s5, _⟩ => Same.seq s5 hS) ?_ ?_⟩
    · rw [Nat.sub_zero, List.drop_length]
      exact g_z.sq
    · rintro i x σ H' _ hi ⟨q, v, rfl, s5, hq⟩ ⟨rfl, hx⟩
      rw [List.length_map] at hi hx
      obtain ⟨a, d, rfl, ha, hd, hda⟩ := (hD.same s5).get hx
      have hj : ds.length - (i + 1) = as.length - 1 - i := by omega
      have hj2 : as.length - 1 - i + 1 = ds.length - i := by omega
      have e := drop_at hd
      rw [hj2] at e
      have ok2 : AllOk (ds.drop (ds.length - i)) := ok.drop _
      have okd : DayOk d := ok.at hd
      have ln2 : (ds.drop (ds.length - i)).length ≤ 10 := by rw [List.length_drop]; omega
      rw [hj, e]
      rw [value_cons]
      refine ⟨_, rfl, _, rfl, a, q, d, _, rfl, hda, okd, hq, fit_val ok2 ln2, fun H1 p1 s1 t1 => ?_⟩
      have fw := fit_worth okd (fit_val ok2 ln2)
      refine ⟨zA, p1, 0, _, rfl, g_z.sq, t1, fit_zero (by omega), fw.mono (by omega), fun c => ?_, fun c => ?_⟩
      · refine ⟨zA, some (.ref a), rfl, s5.trans s1, ?_⟩
        unfold pick
        rw [if_pos c]
        exact g_z.sq
      · refine ⟨p1, some (.ref a), rfl, s5.trans s1, ?_⟩
        unfold pick
        rw [if_neg c]
        exact t1
    · rintro σ H' ⟨q, v, rfl, s5, hq⟩
      rw [List.length_map, hlen, Nat.sub_self, List.drop_zero] at hq
      exact ⟨_, rfl, k _ _ s5 hq⟩
abbrev s_plan_value : Stmt := top 46
theorem sc_plan_value : FnScope ["days", "found", "day"] ["days"] (defScope s_plan_value) := ⟨rfl, rfl, rfl, by decide +kernel, rfl, by decide +kernel, by decide +kernel⟩
theorem ok_plan_value {f f_worth : Addr} (D : Dn K mg "plan_value" s_plan_value ["days"] f) (D_worth : Kn P w K mg base "worth" CX0 5 ["day", "behind"] (spDay2 K CD worth) f_worth) (g_ZERO : mg "ZERO" = some (.ref zA)) (g_z : KTup K zA (fr 0)) (g_reversed : mg "reversed" = none) : Kn P w K mg base "plan_value" CX0 6 ["days"] (spList K CD planAll) f := by
  obtain ⟨⟨fd, F, b⟩, g⟩ := D
  obtain ⟨⟨_, G_worth, b_worth⟩, g_worth, k_worth⟩ := D_worth
  refine ⟨⟨fd, F.ok sc_plan_value (fun vs H Q E h => ?_) (fun cdv A outer s H vs Q E hr h => ?_), b⟩, g, F.kp⟩
  · obtain ⟨_, _, rfl, _⟩ := h
    rfl
  · obtain ⟨l, ds, rfl, hL, k⟩ := h
    refine ⟨_, (pss_cons (ps_set (i := 1) sc_plan_value.nd rfl (Or.inl rfl) (pe_glob (v := .ref zA) rfl g_ZERO rfl)) (pss_cons (ps_for PassesOwn.never rfl (pi_reversed (by rfl) g_reversed (pa_cons (pv 0) pa_nil)) (pg_name (i := 2) sc_plan_value.nd rfl (Or.inl rfl)) (pss_one (ps_set (i := 1) sc_plan_value.nd rfl (Or.inl rfl) (pe_call G_worth (hr.mono (by decide)) rfl g_worth k_worth b_worth .nil pass0 (pa_cons (pv 2) (pa_cons (pv 1) pa_nil)))))) (pss_one (ps_ret (pv 1))))), ?_⟩
    obtain ⟨⟨as, hS, hD⟩, ok, ln⟩ := id hL
    have hlen := hD.len
    refine ⟨_, rfl, l, _, rfl, hS, for_it walk_rev (fun i σ H' => ∃ (q : Addr) (v : Option V), σ = [some (.ref l), some (.ref q), v] ∧ Same H H' ∧ SqT K H' q (fr (planAll (ds.drop (ds.length - i))))) ⟨zA, none, rfl, Same.refl H, ?_⟩ (fun i σ H' _ ⟨_, _, _, s5, _⟩ => Same.seq s5 hS) ?_ ?_⟩
    · rw [Nat.sub_zero, List.drop_length]
      exact g_z.sq
    · rintro i x σ H' _ hi ⟨q, v, rfl, s5, hq⟩ ⟨rfl, hx⟩
      rw [List.length_map] at hi hx
      obtain ⟨a, d, rfl, ha, hd, hda⟩ := (hD.same s5).get hx
      have hj : ds.length - (i + 1) = as.length - 1 - i := by omega
      have hj2 : as.length - 1 - i + 1 = ds.length - i := by omega
      have e := drop_at hd
      rw [hj2] at e
      have ok2 : AllOk (ds.drop (ds.length - i)) := ok.drop _
      have okd : DayOk d := ok.at hd
      have ln2 : (ds.drop (ds.length - i)).length ≤ 10 := by rw [List.length_drop]; omega
      rw [hj, e]
      refine ⟨_, rfl, _, rfl, a, q, d, _, rfl, hda, okd, hq, fit_pl ok2 ln2, fun H1 p1 s1 t1 => ?_⟩
      exact ⟨p1, some (.ref a), rfl, s5.trans s1, t1⟩
    · rintro σ H' ⟨q, v, rfl, s5, hq⟩
      rw [List.length_map, hlen, Nat.sub_self, List.drop_zero] at hq
      exact ⟨_, rfl, k _ _ s5 hq⟩
abbrev s_best_count : Stmt := top 47
theorem sc_best_count : FnScope ["days", "best", "count", "number", "found"] ["days"] (defScope s_best_count) := ⟨rfl, rfl, rfl, by decide +kernel, rfl, by decide +kernel, by decide +kernel⟩
theorem ok_best_count {f f_plan_value f_is_greater : Addr} (D : Dn K mg "best_count" s_best_count ["days"] f) (D_plan_value : Kn P w K mg base "plan_value" CX0 6 ["days"] (spList K CD planAll) f_plan_value) (D_is_greater : Kn P w K mg base "is_greater" CX0 1 ["one", "other"] (spGreater K) f_is_greater) (g_ZERO : mg "ZERO" = some (.ref zA)) (g_z : KTup K zA (fr 0)) (g_range : mg "range" = none) (g_len : mg "len" = none) : Kn P w K mg base "best_count" CX0 7 ["days"] (spCount K CD (fun ds => .int ((Kqk5.bestCount ds : Nat) : Int))) f := by
  obtain ⟨⟨fd, F, b⟩, g⟩ := D
  obtain ⟨⟨_, G_plan_value, b_plan_value⟩, g_plan_value, k_plan_value⟩ := D_plan_value
  obtain ⟨⟨_, G_is_greater, b_is_greater⟩, g_is_greater, k_is_greater⟩ := D_is_greater
  refine ⟨⟨fd, F.ok sc_best_count (fun vs H Q E h => ?_) (fun cdv A outer s H vs Q E hr h => ?_), b⟩, g, F.kp⟩
  · obtain ⟨_, _, rfl, _⟩ := h
    rfl
  · obtain ⟨l, ds, rfl, hL, k⟩ := h
    refine ⟨_, (pss_cons (ps_par (i := 1) (j := 2) (by rfl) sc_best_count.nd rfl rfl (by decide) rfl rfl (pa_cons (pe_glob (v := .ref zA) rfl g_ZERO rfl) (pa_cons pe_int pa_nil)) (by rfl)) (pss_cons (ps_for PassesOwn.never rfl (pi_range2 (by rfl) g_range (pa_cons pe_int (pa_cons (pe_op op_add (pe_callB call_len_seq (by rfl) g_len PySem.boot_len (pa_cons (pv 0) pa_nil)) pe_int) pa_nil))) (pg_name (i := 3) sc_best_count.nd rfl (Or.inl rfl)) (pss_cons (ps_set (i := 4) sc_best_count.nd rfl (Or.inl rfl) (pe_call G_plan_value (hr.mono (by decide)) rfl g_plan_value k_plan_value b_plan_value .nil pass0 (pa_cons (pe_slice sl_list (pv 0) po_none (po_some (pv 3))) pa_nil))) (pss_one (ps_if (pt_val (pe_call G_is_greater (hr.mono (by decide)) rfl g_is_greater k_is_greater b_is_greater .nil pass0 (pa_cons (pv 4) (pa_cons (pv 1) pa_nil)))) (pss_one (ps_par (i := 1) (j := 2) (by rfl) sc_best_count.nd rfl rfl (by decide) rfl rfl (pa_cons (pv 4) (pa_cons (pv 3) pa_nil)) (by rfl))) pss_nil)))) (pss_one (ps_ret (pv 2))))), ?_⟩
    obtain ⟨⟨as, hS, hD⟩, ok, ln⟩ := id hL
    have hlen := hD.len
    refine ⟨_, _, rfl, _, rfl, ⟨l, _, rfl, .inl hS, _, _, rfl, rfl, 1, _, rfl, ⟨by omega, by omega, by omega, ?_⟩, for_range (fun i σ H' => ∃ (q : Addr) (v u : Option V), σ = [some (.ref l), some (.ref q), some (.int ((bestUpTo ds (i + 1) : Nat) : Int)), v, u] ∧ Same H H' ∧ SqT K H' q (fr (Kqk5.planValue (bestUpTo ds (i + 1)) ds))) ⟨zA, none, none, ?_, Same.refl H, ?_⟩ ?_ ?_⟩⟩
    · rw [List.length_map]; omega
    · rw [best_one]; rfl
    · rw [best_one, plan_zero]; exact g_z.sq
    · rintro i σ H' hi ⟨q, v, u, rfl, s5, hq⟩
      have e1 : (1 : Int) + (i : Int) = ((i + 1 : Nat) : Int) := by omega
      rw [e1]
      refine ⟨_, rfl, _, rfl, _, rfl, l, _, rfl, Same.seq s5 hS, fun p hp => ?_⟩
      refine ⟨p, ds.take (i + 1), rfl, newTo (hD.same s5) ok ln (i + 1) hp, fun H1 p1 s1 t1 => ?_⟩
      rw [plan_take] at t1
      have s6 : Same H' H1 := (sameU (Same.refl H') hp).trans s1
      have f1 : Fit 2000 (Kqk5.planValue (i + 1) ds) := by
        rw [← plan_take]
        exact (fit_pl (ok.take _) (by rw [List.length_take]; omega)).mono (by omega)
      have f2 : Fit 2000 (Kqk5.planValue (bestUpTo ds (i + 1)) ds) := by
        rw [← plan_take]
        exact (fit_pl (ok.take _) (by rw [List.length_take]; omega)).mono (by omega)
      refine ⟨_, rfl, _, rfl, p1, q, _, _, rfl, t1, sameT s6 hq, f1, f2, _, rfl, ?_⟩
      have eb := best_more ds (i + 1)
      by_cases c : Kqk5.planValue (bestUpTo ds (i + 1)) ds < Kqk5.planValue (i + 1) ds
      · refine if_true_of (decide_eq_true c) ⟨_, rfl, _, rfl, _, _, rfl, ?_⟩
        rw [if_pos c] at eb
        rw [eb]
        exact ⟨p1, some (.int ((i + 1 : Nat) : Int)), some (.ref p1), rfl, s5.trans s6, t1⟩
      · refine if_false_of (decide_eq_false c) ?_
        rw [if_neg c] at eb
        rw [eb]
        exact ⟨q, some (.int ((i + 1 : Nat) : Int)), some (.ref p1), rfl, s5.trans s6, sameT s6 hq⟩
    · rintro σ H' ⟨q, v, u, rfl, s5, hq⟩
      have en : ((((as.map V.ref).length : Nat) : Int) + 1 - 1).toNat = ds.length := by rw [List.length_map]; omega
      rw [en] at hq ⊢
      refine ⟨_, rfl, ?_⟩
      rw [← best_is]
      exact k _ s5
abbrev s_is_worthwhile_alone : Stmt := top 48
theorem sc_is_worthwhile_alone : FnScope ["day"] ["day"] (defScope s_is_worthwhile_alone) := ⟨rfl, rfl, rfl, by decide +kernel, rfl, by decide +kernel, by decide +kernel⟩
theorem ok_is_worthwhile_alone {f f_is_positive f_single_day_value : Addr} (D : Dn K mg "is_worthwhile_alone" s_is_worthwhile_alone ["day"] f) (D_is_positive : Kn P w K mg base "is_positive" CX0 1 ["one"] (spPos K) f_is_positive) (D_single_day_value : Kn P w K mg base "single_day_value" CX0 6 ["day"] (spDay1 K CD Kqk5.singleDayValue) f_single_day_value) : Kn P w K mg base "is_worthwhile_alone" CX0 7 ["day"] (spAlone K CD) f := by
  obtain ⟨⟨fd, F, b⟩, g⟩ := D
  obtain ⟨⟨_, G_is_positive, b_is_positive⟩, g_is_positive, k_is_positive⟩ := D_is_positive
  obtain ⟨⟨_, G_single_day_value, b_single_day_value⟩, g_single_day_value, k_single_day_value⟩ := D_single_day_value
  refine ⟨⟨fd, F.ok sc_is_worthwhile_alone (fun vs H Q E h => ?_) (fun cdv A outer s H vs Q E hr h => ?_), b⟩, g, F.kp⟩
  · obtain ⟨_, _, rfl, _⟩ := h
    rfl
  · obtain ⟨a, d, rfl, hda, ok, k⟩ := h
    refine ⟨_, (pss_one (ps_ret (pe_call G_is_positive (hr.mono (by decide)) rfl g_is_positive k_is_positive b_is_positive .nil pass0 (pa_cons (pe_call G_single_day_value (hr.mono (by decide)) rfl g_single_day_value k_single_day_value b_single_day_value .nil pass0 (pa_cons (pv 0) pa_nil)) pa_nil)))), ?_⟩
    refine ⟨_, rfl, a, d, rfl, hda, ok, fun H1 p1 s1 t1 => ?_⟩
    exact ⟨p1, _, rfl, t1, k _ s1⟩
abbrev s_lookahead_count : Stmt := top 49
theorem sc_lookahead_count : FnScope ["days", "number", "day"] ["days"] (defScope s_lookahead_count) := ⟨rfl, rfl, rfl, by decide +kernel, rfl, by decide +kernel, by decide +kernel⟩
theorem ok_lookahead_count {f f_is_worthwhile_alone : Addr} (D : Dn K mg "lookahead_count" s_lookahead_count ["days"] f) (D_is_worthwhile_alone : Kn P w K mg base "is_worthwhile_alone" CX0 7 ["day"] (spAlone K CD) f_is_worthwhile_alone) (g_enumerate : mg "enumerate" = none) (g_len : mg "len" = none) : Kn P w K mg base "lookahead_count" CX0 8 ["days"] (spCount K CD (fun ds => .int ((Kqk5.lookaheadCount ds : Nat) : Int))) f := by
  obtain ⟨⟨fd, F, b⟩, g⟩ := D
  obtain ⟨⟨_, G_is_worthwhile_alone, b_is_worthwhile_alone⟩, g_is_worthwhile_alone, k_is_worthwhile_alone⟩ := D_is_worthwhile_alone
  refine ⟨⟨fd, F.ok sc_lookahead_count (fun vs H Q E h => ?_) (fun cdv A outer s H vs Q E hr h => ?_), b⟩, g, F.kp⟩
  · obtain ⟨_, _, rfl, _⟩ := h
    rfl
  · obtain ⟨l, ds, rfl, hL, k⟩ := h
    refine ⟨_, (pss_cons (ps_for PassesOwn.never rfl (pi_enum (by rfl) g_enumerate (pa_cons (pv 0) pa_nil)) (pg_tup (by rfl) (pgs_cons (pg_name (i := 1) sc_lookahead_count.nd rfl (Or.inl rfl)) (pgs_cons (pg_name (i := 2) sc_lookahead_count.nd rfl (Or.inl rfl)) pgs_nil))) (pss_one (ps_if (pt_not (pt_val (pe_call G_is_worthwhile_alone (hr.mono (by decide)) rfl g_is_worthwhile_alone k_is_worthwhile_alone b_is_worthwhile_alone .nil pass0 (pa_cons (pv 2) pa_nil)))) (pss_one (ps_ret (pv 1))) pss_nil))) (pss_one (ps_ret (pe_callB call_len_seq (by rfl) g_len PySem.boot_len (pa_cons (pv 0) pa_nil))))), ?_⟩
    obtain ⟨⟨as, hS, hD⟩, ok, ln⟩ := id hL
    have hlen := hD.len
    refine ⟨_, rfl, l, _, rfl, hS, for_it walk_enum (fun i σ H' => ∃ (u v : Option V), σ = [some (.ref l), u, v] ∧ Same H H' ∧ ∀ j e, j < i → ds[j]? = some e → 0 < Kqk5.singleDayValue e) ⟨none, none, rfl, Same.refl H, fun j e hj _ => absurd hj (by omega)⟩ (fun i σ H' _ ⟨_, _, _, s5, _⟩ => Same.seq s5 hS) ?_ ?_⟩
    · rintro i x σ H' H'' hi ⟨u, v, rfl, s5, hb⟩ ⟨T, x1, y1, rfl, hT, rfl, e1, e2⟩
      cases e1
      have s6 : Same H' (upd H' T (.tup [.int ((i : Nat) : Int), y1])) := sameU (Same.refl H') hT
      refine ⟨T, _, rfl, SqT.of upd_same, rfl, _, _, rfl, _, _, rfl, rfl, ?_⟩
      obtain ⟨a, d, rfl, ha, hd, hda⟩ := (hD.same (s5.trans s6)).get e2
      refine ⟨_, rfl, a, d, rfl, hda, ok.at hd, fun H1 s1 => ⟨_, rfl, ?_⟩⟩
      by_cases c : 0 < Kqk5.singleDayValue d
      · rw [decide_eq_true c]
        refine if_false_of rfl ⟨some (.int ((i : Nat) : Int)), some (.ref a), rfl, (s5.trans s6).trans s1, fun j e hj he => ?_⟩
        by_cases z : j = i
        · subst z
          rw [hd] at he
          cases he
          exact c
        · exact hb j e (by omega) he
      · rw [decide_eq_false c]
        refine if_true_of rfl ⟨_, rfl, ?_⟩
        have q : Q (.int ((Kqk5.lookaheadCount ds : Nat) : Int)) H1 := k _ ((s5.trans s6).trans s1)
        rw [look_at ds i d hd hb c] at q
        exact q
    · rintro σ H' ⟨u, v, rfl, s5, hb⟩
      have q : Q (.int ((Kqk5.lookaheadCount ds : Nat) : Int)) H' := k _ s5
      rw [look_all ds fun j e he => hb j e (by rw [List.length_map, hlen]; exact (List.getElem?_eq_some_iff.mp he).1) he] at q
      refine ⟨_, rfl, l, _, rfl, .inl (Same.seq s5 hS), ?_⟩
      rw [List.length_map, hlen]
      exact q
abbrev s_is_monotone : Stmt := top 50
theorem sc_is_monotone : FnScope ["days", "behind", "day"] ["days"] (defScope s_is_monotone) := ⟨rfl, rfl, rfl, by decide +kernel, rfl, by decide +kernel, by decide +kernel⟩
theorem ok_is_monotone {f f_lookahead_count f_is_worthwhile_alone : Addr} (D : Dn K mg "is_monotone" s_is_monotone ["days"] f) (D_lookahead_count : Kn P w K mg base "lookahead_count" CX0 8 ["days"] (spCount K CD (fun ds => .int ((Kqk5.lookaheadCount ds : Nat) : Int))) f_lookahead_count) (D_is_worthwhile_alone : Kn P w K mg base "is_worthwhile_alone" CX0 7 ["day"] (spAlone K CD) f_is_worthwhile_alone) (g_any : mg "any" = none) : Kn P w K mg base "is_monotone" CX0 9 ["days"] (spCount K CD (fun ds => .bl (Kqk5.isMonotone ds))) f := by
  obtain ⟨⟨fd, F, b⟩, g⟩ := D
  obtain ⟨⟨_, G_lookahead_count, b_lookahead_count⟩, g_lookahead_count, k_lookahead_count⟩ := D_lookahead_count
  obtain ⟨⟨_, G_is_worthwhile_alone, b_is_worthwhile_alone⟩, g_is_worthwhile_alone, k_is_worthwhile_alone⟩ := D_is_worthwhile_alone
  refine ⟨⟨fd, F.ok sc_is_monotone (fun vs H Q E h => ?_) (fun cdv A outer s H vs Q E hr h => ?_), b⟩, g, F.kp⟩
  · obtain ⟨_, _, rfl, _⟩ := h
    rfl
  · obtain ⟨l, ds, rfl, hL, k⟩ := h
    refine ⟨_, (pss_cons (ps_set (i := 1) sc_is_monotone.nd rfl (Or.inl rfl) (pe_slice sl_list (pv 0) (po_some (pe_call G_lookahead_count (hr.mono (by decide)) rfl g_lookahead_count k_lookahead_count b_lookahead_count .nil pass0 (pa_cons (pv 0) pa_nil))) po_none)) (pss_one (ps_ret (pe_not (pe_callB (cr_any rfl) (by rfl) g_any (by decide +kernel) (pa_cons (pe_lc rfl sc_is_monotone.nd (pi_list (pv 1)) (blkOk_by (own := [("day", 2)]) (N := ["days", "behind", "day"]) (sc := defScope s_is_monotone) (by decide +kernel)) (fun s H C cl fp => (pg_name (i := 2) sc_is_monotone.nd rfl (Or.inl rfl))) (fun s H C cl fp => pts_nil) (fun s H C cl fp => (pe_call G_is_worthwhile_alone (hr.mono (by decide)) rfl g_is_worthwhile_alone k_is_worthwhile_alone b_is_worthwhile_alone .nil pass0 (pa_cons (pv 2) pa_nil)))) pa_nil)))))), ?_⟩
    obtain ⟨⟨as, hS, hD⟩, ok, ln⟩ := id hL
    have hlen := hD.len
    refine ⟨_, rfl, _, rfl, l, ds, rfl, hL, fun H1 s1 => ⟨_, rfl, l, _, rfl, Same.seq s1 hS, fun p hp => ?_⟩⟩
    have hN := newFrom (K := K) (hD.same s1) ok ln (Kqk5.lookaheadCount ds) hp
    obtain ⟨⟨bs, hB, hE⟩, ok2, ln2⟩ := id hN
    refine ⟨_, rfl, p, rfl, ⟨_, hB⟩, fun m hm => ?_⟩
    refine lc_list (K := K) (a := p) (xs := bs.map V.ref) (vs := [2]) (fun i H' => Same (upd H1 p (.lst (cutV (as.map V.ref) (some ((Kqk5.lookaheadCount ds : Nat) : Int)) none))) H' ∧ H' m = some (.lst ((((ds.drop (Kqk5.lookaheadCount ds)).take i).map fun d => decide (0 < Kqk5.singleDayValue d)).map V.bl))) ⟨sameU2 (Same.refl _) hm, upd_same⟩ (fun i H' _ h => Same.seq h.1 hB) ?_ ?_
    · rintro i x H' hx ⟨s5, hm5⟩
      obtain ⟨a, d, rfl, ha, hd, hda⟩ := (hE.same s5).get hx
      refine ⟨rfl, ?_⟩
      refine if_true_of (B := True) rfl ⟨_, rfl, a, d, rfl, hda, ok2.at hd, fun H4 s4 => ⟨_, s4 _ _ hm5, ?_, sameU2 (s5.trans s4) hm, ?_⟩⟩
      · rw [List.length_map, List.length_map, List.length_take]
        exact Nat.lt_of_le_of_lt (Nat.le_trans (Nat.min_le_right _ _) ln2) (by decide)
      · rw [upd_same, List.take_add_one, hd, List.map_append, List.map_append]
        rfl
    · rintro H' ⟨s5, hm5⟩
      refine ⟨m, _, rfl, SqL.of hm5, _, rfl, ?_⟩
      have q : Q (.bl (Kqk5.isMonotone ds)) H' := k _ ((s1.trans (sameU (Same.refl H1) hp)).trans s5)
      rw [mono_is] at q
      rw [List.length_map, hE.len, List.take_length, List.any_map]
      exact q
abbrev s_quiet_chance_of : Stmt := top 51
theorem sc_quiet_chance_of : FnScope ["days", "found", "day"] ["days"] (defScope s_quiet_chance_of) := ⟨rfl, rfl, rfl, by decide +kernel, rfl, by decide +kernel, by decide +kernel⟩
theorem ok_quiet_chance_of {f f_product_of f_quiet_chance : Addr} (D : Dn K mg "quiet_chance_of" s_quiet_chance_of ["days"] f) (D_product_of : Kn P w K mg base "product_of" CX0 3 ["one", "other"] (spAr K (· * ·)) f_product_of) (D_quiet_chance : Kn P w K mg base "quiet_chance" CX0 3 ["day"] (spDay1 K CD Kqk5.quietProbability) f_quiet_chance) (g_ONE : mg "ONE" = some (.ref oA)) (g_o : KTup K oA (fr 1)) : Kn P w K mg base "quiet_chance_of" CX0 4 ["days"] (spList K CD (fun ds => ds.foldl (fun p d => p * Kqk5.quietProbability d) 1)) f := by
  obtain ⟨⟨fd, F, b⟩, g⟩ := D
  obtain ⟨⟨_, G_product_of, b_product_of⟩, g_product_of, k_product_of⟩ := D_product_of
  obtain ⟨⟨_, G_quiet_chance, b_quiet_chance⟩, g_quiet_chance, k_quiet_chance⟩ := D_quiet_chance
  refine ⟨⟨fd, F.ok sc_quiet_chance_of (fun vs H Q E h => ?_) (fun cdv A outer s H vs Q E hr h => ?_), b⟩, g, F.kp⟩
  · obtain ⟨_, _, rfl, _⟩ := h
    rfl
  · obtain ⟨l, ds, rfl, hL, k⟩ := h
    refine ⟨_, (pss_cons (ps_set (i := 1) sc_quiet_chance_of.nd rfl (Or.inl rfl) (pe_glob (v := .ref oA) rfl g_ONE rfl)) (pss_cons (ps_for PassesOwn.never rfl (pi_list (pv 0)) (pg_name (i := 2) sc_quiet_chance_of.nd rfl (Or.inl rfl)) (pss_one (ps_set (i := 1) sc_quiet_chance_of.nd rfl (Or.inl rfl) (pe_call G_product_of (hr.mono (by decide)) rfl g_product_of k_product_of b_product_of .nil pass0 (pa_cons (pv 1) (pa_cons (pe_call G_quiet_chance (hr.mono (by decide)) rfl g_quiet_chance k_quiet_chance b_quiet_chance .nil pass0 (pa_cons (pv 2) pa_nil)) pa_nil)))))) (pss_one (ps_ret (pv 1))))), ?_⟩
    obtain ⟨⟨as, hS, hD⟩, ok, ln⟩ := id hL
    have hlen := hD.len
    refine ⟨_, rfl, l, rfl, ⟨_, hS⟩, for_list (fun i σ H' => ∃ (q : Addr) (v : Option V), σ = [some (.ref l), some (.ref q), v] ∧ Same H H' ∧ SqT K H' q (fr ((ds.take i).foldl (fun p d => p * Kqk5.quietProbability d) 1))) ⟨oA, none, rfl, Same.refl H, g_o.sq⟩ (fun i σ H' _ ⟨_, _, _, s5, _⟩ => Same.seq s5 hS) ?_ ?_⟩
    · rintro i x σ H' hx ⟨q, v, rfl, s5, hq⟩
      obtain ⟨a, d, rfl, ha, hd, hda⟩ := (hD.same s5).get hx
      rw [quiet_step ds i d hd]
      have hi : i < ds.length := (List.getElem?_eq_some_iff.mp hd).1
      refine ⟨_, rfl, _, rfl, a, d, rfl, hda, ok.at hd, fun H1 p1 s1 t1 => ?_⟩
      have f1 : Fit 2000 ((ds.take i).foldl (fun p d => p * Kqk5.quietProbability d) 1) := (fit_allq (ds.take i) 1 1 (by omega) (fit_one (by omega)) (ok.take i)).mono (by rw [List.length_take]; omega)
      refine ⟨q, p1, _, _, rfl, sameT s1 hq, t1, f1, (fit_quiet (ok.at hd)).mono (by omega), fun H2 p2 s2 t2 => ?_⟩
      exact ⟨p2, some (.ref a), rfl, (s5.trans s1).trans s2, t2⟩
    · rintro σ H' ⟨q, v, rfl, s5, hq⟩
      rw [List.length_map, hlen, List.take_length] at hq
      exact ⟨_, rfl, k _ _ s5 hq⟩
abbrev s_greatest_cost : Stmt := top 52
theorem sc_greatest_cost : FnScope ["days", "day", "behind", "chance", "gained", "found"] ["days"] (defScope s_greatest_cost) := ⟨rfl, rfl, rfl, by decide +kernel, rfl, by decide +kernel, by decide +kernel⟩
theorem ok_greatest_cost {f f_value_of f_event_chance f_quiet_part f_is_positive : Addr} (D : Dn K mg "greatest_cost" s_greatest_cost ["days"] f) (D_value_of : Kn P w K mg base "value_of" CX0 6 ["days"] (spList K CD Kqk5.value) f_value_of) (D_event_chance : Kn P w K mg base "event_chance" CX0 3 ["day"] (spDay1 K CD Kqk5.eventProbability) f_event_chance) (D_quiet_part : Kn P w K mg base "quiet_part" CX0 4 ["day", "behind"] (spDay2 K CD (fun d r => Kqk5.quietProbability d * ((d.gain : Rat) + r))) f_quiet_part) (D_is_positive : Kn P w K mg base "is_positive" CX0 1 ["one"] (spPos K) f_is_positive) (g_ZERO : mg "ZERO" = some (.ref zA)) (g_z : KTup K zA (fr 0)) (g_min : mg "min" = none) (g_MOST_COST : ∃ t, mg "MOST_COST" = some (.int 10000 t)) : Kn P w K mg base "greatest_cost" CX0 7 ["days"] (spGreatest K CD) f := by
  obtain ⟨⟨fd, F, b⟩, g⟩ := D
  obtain ⟨⟨_, G_value_of, b_value_of⟩, g_value_of, k_value_of⟩ := D_value_of
  obtain ⟨⟨_, G_event_chance, b_event_chance⟩, g_event_chance, k_event_chance⟩ := D_event_chance
  obtain ⟨⟨_, G_quiet_part, b_quiet_part⟩, g_quiet_part, k_quiet_part⟩ := D_quiet_part
  obtain ⟨⟨_, G_is_positive, b_is_positive⟩, g_is_positive, k_is_positive⟩ := D_is_positive
  obtain ⟨_, g_MOST_COST⟩ := g_MOST_COST
  refine ⟨⟨fd, F.ok sc_greatest_cost (fun vs H Q E h => ?_) (fun cdv A outer s H vs Q E hr h => ?_), b⟩, g, F.kp⟩
  · obtain ⟨_, _, _, rfl, _⟩ := h
    rfl
  · obtain ⟨l, d, r, rfl, hL, k⟩ := h
    refine ⟨_, (pss_cons (ps_par (i := 1) (j := 2) (by rfl) sc_greatest_cost.nd rfl rfl (by decide) rfl rfl (pa_cons (pe_ix ix_list (pv 0) pe_int (fun _ _ => rfl)) (pa_cons (pe_call G_value_of (hr.mono (by decide)) rfl g_value_of k_value_of b_value_of .nil pass0 (pa_cons (pe_slice sl_list (pv 0) (po_some pe_int) po_none) pa_nil)) pa_nil)) (by rfl)) (pss_cons (ps_par (i := 3) (j := 4) (by rfl) sc_greatest_cost.nd rfl rfl (by decide) rfl rfl (pa_cons (pe_call G_event_chance (hr.mono (by decide)) rfl g_event_chance k_event_chance b_event_chance .nil pass0 (pa_cons (pv 1) pa_nil)) (pa_cons (pe_call G_quiet_part (hr.mono (by decide)) rfl g_quiet_part k_quiet_part b_quiet_part .nil pass0 (pa_cons (pv 1) (pa_cons (pv 2) pa_nil))) pa_nil)) (by rfl)) (pss_cons (ps_if (pt_cmpR (op_eqD hr.units) (pv 3) (pe_glob (v := .ref zA) rfl g_ZERO rfl) (nomark _)) (pss_one (ps_ret (pe_glob (v := .int (10000)) rfl g_MOST_COST ⟨_, rfl⟩))) pss_nil) (pss_cons (ps_if (pt_not (pt_val (pe_call G_is_positive (hr.mono (by decide)) rfl g_is_positive k_is_positive b_is_positive .nil pass0 (pa_cons (pv 4) pa_nil)))) (pss_one (ps_ret pe_non)) pss_nil) (pss_cons (ps_set (i := 5) sc_greatest_cost.nd rfl (Or.inl rfl) (pe_op op_fdivW (pe_op op_sub (pe_op op_mulW (pe_ix ix_tup (pv 4) pe_int (fun _ _ => rfl)) (pe_ix ix_tup (pv 3) pe_int (fun _ _ => rfl))) pe_int) (pe_op op_mulW (pe_ix ix_tup (pv 4) pe_int (fun _ _ => rfl)) (pe_ix ix_tup (pv 3) pe_int (fun _ _ => rfl))))) (pss_one (ps_ret (pe_callB (call_min2 rfl) (by rfl) g_min (by decide +kernel) (pa_cons (pv 5) (pa_cons (pe_glob (v := .int (10000)) rfl g_MOST_COST ⟨_, rfl⟩) pa_nil)))))))))), ?_⟩
    obtain ⟨⟨as, hS, hD⟩, ok, ln⟩ := id hL
    have hlen := hD.len
    obtain ⟨a, ha, hda⟩ := hD.here (i := 0) (d := d) rfl
    have okd : DayOk d := ok d List.mem_cons_self
    have a0 : atI (as.map V.ref) (0 : Int) = some (.ref a) := atI_nat (j := 0) (by rw [List.getElem?_map, ha]; rfl)
    refine ⟨_, rfl, l, _, _, _, rfl, rfl, hS, a0, _, rfl, _, rfl, l, _, rfl, hS, fun p hp => ?_⟩
    have s0 := sameU (o := .lst (cutV (as.map V.ref) (some ((1 : Nat) : Int)) none)) (Same.refl H) hp
    refine ⟨p, r, rfl, newFrom hD ok ln 1 hp, fun H1 p1 s1 t1 => ⟨_, _, rfl, ?_⟩⟩
    have s01 := s0.trans s1
    refine ⟨_, rfl, a, d, rfl, hda.same s01, okd, fun H2 p2 s2 t2 => ?_⟩
    have lnr : r.length ≤ 10 := Nat.le_of_succ_le ln
    refine ⟨_, rfl, _, rfl, a, p1, d, _, rfl, hda.same (s01.trans s2), okd, sameT s2 t1, fit_val ok.cons lnr, fun H3 p3 s3 t30 => ⟨_, _, rfl, ?_⟩⟩
    have t3 : SqT K H3 p3 (fr (Kqk5.quietProbability d * ((d.gain : Rat) + Kqk5.value r))) := t30
    have s03 := (s01.trans s2).trans s3
    have t2' := sameT s3 t2
    have q := k H3 s03
    unfold greatest at q
    have fe := fit_event okd
    have fg := fit_qpart okd (fit_val ok.cons lnr)
    generalize hg : Kqk5.quietProbability d * ((d.gain : Rat) + Kqk5.value r) = g at q t3 fg
    have hev := @event_zero d okd
    have hpos := @event_pos d okd
    generalize he : Kqk5.eventProbability d = e at q t2' fe hev hpos
    refine ⟨_, rfl, _, _, .tup t2' (.cons (.int _) (.cons (.int _) .nil)), .tup g_z.sq (.cons (.int _) (.cons (.int _) .nil)), rfl, rfl, _, rfl, ?_⟩
    have ee : PyData.eqv (.tuple [.int e.num, .int (e.den : Int)]) (.tuple [.int (0 : Rat).num, .int ((0 : Rat).den : Int)]) = decide (e = 0) := by
      show (e.num == (0 : Rat).num && ((e.den : Int) == ((0 : Rat).den : Int) && true)) = _
      by_cases c : e = 0
      · rw [c]; rfl
      · rw [decide_eq_false c]
        have h1 : (e.num == (0 : Rat).num) = false := by
          rw [beq_eq_false_iff_ne]
          intro z
          exact c (Rat.num_eq_zero.mp z)
        rw [h1]; rfl
    by_cases c : d.numerator = 0
    · rw [if_pos c] at q
      refine if_true_of (ee.trans (decide_eq_true (hev.mpr c))) q
    · rw [if_neg c] at q
      refine if_false_of (ee.trans (decide_eq_false fun z => c (hev.mp z))) ?_
      refine ⟨_, rfl, p3, g, rfl, t3, _, rfl, ?_⟩
      by_cases c2 : 0 < g
      · rw [if_pos ((pos_iff g).mp c2)] at q
        rw [decide_eq_true c2]
        refine if_false_of rfl ?_
        have hm1 : (g.num * (e.den : Int)).natAbs < 2 ^ 1000 := Nat.lt_of_lt_of_le (wide_lt fg.1 (fr_den_abs fe)) (pow_up (by omega))
        have hep := hpos c
        have hgp : 0 < (g.den : Int) := by have := g.den_pos; omega
        have hm2 : ((g.den : Int) * e.num).natAbs < 2 ^ 1000 := Nat.lt_of_lt_of_le (wide_lt (fr_den_abs fg) fe.1) (pow_up (by omega))
        refine ⟨_, rfl, p3, _, _, _, rfl, rfl, t3, fr0 g, _, rfl, p2, _, _, _, rfl, rfl, t2', fr1 e, _, _, rfl, rfl, wide_mul fg.1 (fr_den_abs fe) (by omega) (by omega) (by omega), _, _, rfl, rfl, _, rfl, p3, _, _, _, rfl, rfl, t3, fr1 g, _, rfl, p2, _, _, _, rfl, rfl, t2', fr0 e, _, _, rfl, rfl, wide_mul (fr_den_abs fg) fe.1 (by omega) (by omega) (by omega), _, _, rfl, rfl, wide_div (Int.mul_pos hgp hep) hm2 (by omega) (by omega), ?_⟩
        refine ⟨_, rfl, _, _, rfl, ?_⟩
        unfold mostCost at q
        have em : (if (10000 : Int) < (g.num * (e.den : Int) - 1) / ((g.den : Int) * e.num) then (10000 : Int) else (g.num * (e.den : Int) - 1) / ((g.den : Int) * e.num)) = min ((g.num * (e.den : Int) - 1) / ((g.den : Int) * e.num)) 10000 := by
          rw [Int.min_def]
          split <;> split <;> omega
        show Q (V.int (if (10000 : Int) < (g.num * (e.den : Int) - 1) / ((g.den : Int) * e.num) then (10000 : Int) else (g.num * (e.den : Int) - 1) / ((g.den : Int) * e.num))) H3
        rw [em]
        exact q
      · rw [if_neg (fun z => c2 ((pos_iff g).mpr z))] at q
        rw [decide_eq_false c2]
        exact if_true_of rfl q
end
end Hd

namespace Hd
open PySem PySem.Spec PyProof.Rows L2
open Kqk5 (Day Campaign)
/-! ### the campaign in the heap -/
theorem But.refl {a : Addr} {H : Hp} : But a H H := fun _ _ e _ => e
theorem But.set {a : Addr} {H H' : Hp} {o : HO} (h : But a H H') : But a H (upd H' a o) := fun b u e n => by
  rw [upd_ne n]
  exact h b u e n
theorem But.new {a p : Addr} {H H' : Hp} {o : HO} (h : But a H H') (hp : H' p = none) : But a H (upd H' p o) := fun b u e n => by
  rw [upd_ne (ne_of_none (h b u e n) hp)]
  exact h b u e n
theorem But.then {a : Addr} {H H' H'' : Hp} (h : But a H H') (s : Same H' H'') : But a H H'' := fun b u e n => s b u (h b u e n)
theorem But.of {a : Addr} {H H' : Hp} (s : Same H H') : But a H H' := fun b u e _ => s b u e
theorem nn_of {H : Hp} {b p : Addr} {u : HO} (e : H b = some u) (hp : H p = none) : b ≠ p := fun z => by rw [z, hp] at e; cases e
theorem kind_ne {H : Hp} {b p : Addr} {u v : HO} (e : H b = some u) (f : H p = some v) (n : u ≠ v) : b ≠ p := fun z => by
  rw [z, f] at e
  exact n (Option.some.inj e).symm
def cF (b : Bool) (l : Addr) (n t s : Int) : List (Str × V) := [("is_created", .bl b), ("days", .ref l), ("next_day", .int n), ("total", .int t), ("status", .int s)]
section
variable {b : Bool} {l : Addr} {n t s : Int}
theorem cF_c : (cF b l n t s).lookup ("is_created" : Str) = some (.bl b) := lk_here
theorem cF_d : (cF b l n t s).lookup ("days" : Str) = some (.ref l) := (lk_past (by decide +kernel)).trans lk_here
theorem cF_n : (cF b l n t s).lookup ("next_day" : Str) = some (.int n) := (lk_past (by decide +kernel)).trans ((lk_past (by decide +kernel)).trans lk_here)
theorem cF_t : (cF b l n t s).lookup ("total" : Str) = some (.int t) := (lk_past (by decide +kernel)).trans ((lk_past (by decide +kernel)).trans ((lk_past (by decide +kernel)).trans lk_here))
theorem cF_s : (cF b l n t s).lookup ("status" : Str) = some (.int s) := (lk_past (by decide +kernel)).trans ((lk_past (by decide +kernel)).trans ((lk_past (by decide +kernel)).trans ((lk_past (by decide +kernel)).trans lk_here)))
theorem cF_no {m : Str} (h1 : (m == ("is_created" : Str)) = false) (h2 : (m == ("days" : Str)) = false) (h3 : (m == ("next_day" : Str)) = false) (h4 : (m == ("total" : Str)) = false) (h5 : (m == ("status" : Str)) = false) : (cF b l n t s).lookup m = none :=
  (lk_past h1).trans ((lk_past h2).trans ((lk_past h3).trans ((lk_past h4).trans ((lk_past h5).trans rfl))))
theorem pc_c {b' : Bool} : putF "is_created" (.bl b') (cF b l n t s) = cF b' l n t s := put_here
theorem pc_d {l' : Addr} : putF "days" (.ref l') (cF b l n t s) = cF b l' n t s := by
  unfold cF
  rw [put_past (by decide +kernel), put_here]
theorem pc_n {n' : Int} : putF "next_day" (.int n') (cF b l n t s) = cF b l n' t s := by
  unfold cF
  rw [put_past (by decide +kernel), put_past (by decide +kernel), put_here]
theorem pc_t {t' : Int} : putF "total" (.int t') (cF b l n t s) = cF b l n t' s := by
  unfold cF
  rw [put_past (by decide +kernel), put_past (by decide +kernel), put_past (by decide +kernel), put_here]
theorem pc_s {s' : Int} : putF "status" (.int s') (cF b l n t s) = cF b l n t s' := by
  unfold cF
  rw [put_past (by decide +kernel), put_past (by decide +kernel), put_past (by decide +kernel), put_past (by decide +kernel), put_here]
theorem pc_len : (cF b l n t s).length < 1000 := by show 5 < 1000; decide
theorem pc_1 : putF "is_created" (.bl b) [] = [(("is_created" : Str), V.bl b)] := rfl
theorem pc_2 : putF "days" (.ref l) [(("is_created" : Str), V.bl b)] = [(("is_created" : Str), V.bl b), (("days" : Str), V.ref l)] := by
  rw [put_past (by decide +kernel)]; rfl
theorem pc_3 : putF "next_day" (.int n) [(("is_created" : Str), V.bl b), ("days", .ref l)] = [(("is_created" : Str), V.bl b), (("days" : Str), V.ref l), (("next_day" : Str), V.int n)] := by
  rw [put_past (by decide +kernel), put_past (by decide +kernel)]; rfl
theorem pc_4 : putF "total" (.int t) [(("is_created" : Str), V.bl b), ("days", .ref l), ("next_day", .int n)] = [(("is_created" : Str), V.bl b), (("days" : Str), V.ref l), (("next_day" : Str), V.int n), (("total" : Str), V.int t)] := by
  rw [put_past (by decide +kernel), put_past (by decide +kernel), put_past (by decide +kernel)]; rfl
theorem pc_5 : putF "status" (.int s) [(("is_created" : Str), V.bl b), ("days", .ref l), ("next_day", .int n), ("total", .int t)] = cF b l n t s := by
  rw [put_past (by decide +kernel), put_past (by decide +kernel), put_past (by decide +kernel), put_past (by decide +kernel)]; rfl
end
/-- what is read of the class Campaign -/
structure TCamp (K : PySem.W.Frag) (CC : Addr) : Prop where
  cl : Cls K CC
  nc : NoAttr K CC "is_created"
  nd : NoAttr K CC "days"
  nn : NoAttr K CC "next_day"
  nt : NoAttr K CC "total"
  ns : NoAttr K CC "status"
def stOf (s : Option Campaign) : Campaign := s.getD ⟨[], 0, 0, 0⟩
/-- the campaign at a, its list of days at l, is in the state s -/
structure CampAt (CC CD : Addr) (H : Hp) (a l : Addr) (s : Option Campaign) : Prop where
  ob : ∃ dx, H a = some (.ins CC dx (cF s.isSome l ((stOf s).next : Int) (stOf s).total ((stOf s).status : Int)))
  dy : ∃ as : List Addr, H l = some (.lst (as.map V.ref)) ∧ DaysOf CD H as (stOf s).days
  ok : AllOk (stOf s).days
  len : (stOf s).days.length ≤ 10
  nx : (stOf s).next ≤ (stOf s).days.length
theorem CampAt.same {CC CD : Addr} {H H' : Hp} {a l : Addr} {s : Option Campaign} (e : Same H H') (h : CampAt CC CD H a l s) : CampAt CC CD H' a l s := by
  obtain ⟨⟨dx, h1⟩, ⟨as, h2, h3⟩, h4, h5, h6⟩ := h
  exact ⟨⟨dx, e _ _ h1⟩, ⟨as, e _ _ h2, h3.same e⟩, h4, h5, h6⟩
theorem Refuse.same {CR : Addr} {H H' : Hp} {c : Int} {E : XK} (s : Same H H') (h : Refuse CR H c E) : Refuse CR H' c E := fun H'' d s' e => h H'' d (s.trans s') e
/-! ### the promises -/
def spNeed (CR : Addr) : Sp := fun vs H Q E => ∃ (b : Bool) (c : Int), vs = [.bl b, .int c] ∧ (b = true → Q .non H) ∧ (b = false → Refuse CR H c E)
def spCampInit (CC : Addr) : Sp := fun vs H Q _ => ∃ p dx : Addr, vs = [.ref p] ∧ H p = some (.ins CC dx []) ∧
  ∀ (H' : Hp) (l : Addr), H' p = some (.ins CC dx (cF false l 0 0 0)) → H' l = some (.lst []) → H l = none → But p H H' → Q .non H'
def spBegin (CC : Addr) : Sp := fun vs H Q _ => ∃ (a dx l : Addr) (b : Bool) (n t s : Int), vs = [.ref a] ∧ H a = some (.ins CC dx (cF b l n t s)) ∧ Q .non (upd H a (.ins CC dx (cF b l 0 0 0)))
def spCreate (CC : Addr) : Sp := fun vs H Q _ => ∃ (a dx l : Addr) (b : Bool) (n t s : Int), vs = [.ref a] ∧ H a = some (.ins CC dx (cF b l n t s)) ∧
  ∀ (H' : Hp) (l' : Addr), H' a = some (.ins CC dx (cF true l' 0 0 0)) → H' l' = some (.lst []) → H l' = none → But a H H' → Q .non H'
def spGoOn (CC CD : Addr) : Sp := fun vs H Q _ => ∃ (a dx l : Addr) (b : Bool) (n : Nat) (t s : Int) (x : Nat) (as : List Addr) (e : Addr) (d : Day), vs = [.ref a, .int (x : Int)] ∧ H a = some (.ins CC dx (cF b l (n : Int) t s)) ∧ H l = some (.lst (as.map V.ref)) ∧ as[n]? = some e ∧ DayAt CD H e d ∧ DayOk d ∧ CC ≠ CD ∧
  (x * d.denominator < 1000 * d.numerator → Q (.bl true) (upd H a (.ins CC dx (cF b l ((n + 1 : Nat) : Int) (t - (d.cost : Int)) 1)))) ∧
  (¬ x * d.denominator < 1000 * d.numerator → Q (.bl false) (upd H a (.ins CC dx (cF b l ((n + 1 : Nat) : Int) (t + (d.gain : Int)) s))))
def spRemaining (K : PySem.W.Frag) (CC CD : Addr) : Sp := fun vs H Q _ => ∃ (a l : Addr) (s : Option Campaign), vs = [.ref a] ∧ CampAt CC CD H a l s ∧
  ∀ (H' : Hp) (p : Addr), Same H H' → ListAt K CD H' p ((stOf s).days.drop (stOf s).next) → Q (.ref p) H'
def spNeedDay (CC CD CR : Addr) : Sp := fun vs H Q E => ∃ (a l : Addr) (s : Option Campaign) (x : Nat), vs = [.ref a, .int (x : Int)] ∧ CampAt CC CD H a l s ∧
  (x < (stOf s).days.length → Q .non H) ∧ ((stOf s).days.length ≤ x → Refuse CR H (-2) E)
def spFirst (K : PySem.W.Frag) (CC CD CR : Addr) : Sp := fun vs H Q E => ∃ (a l : Addr) (s : Option Campaign) (x : Nat), vs = [.ref a, .int (x : Int)] ∧ CampAt CC CD H a l s ∧
  (x ≤ ((stOf s).days.drop (stOf s).next).length → ∀ (H' : Hp) (p : Addr), Same H H' → ListAt K CD H' p (((stOf s).days.drop (stOf s).next).take x) → Q (.ref p) H') ∧
  (((stOf s).days.drop (stOf s).next).length < x → Refuse CR H (-2) E)
def spToldF (K : PySem.W.Frag) : Sp := fun vs H Q _ => ∃ (p : Addr) (r : Rat), vs = [.ref p] ∧ SqT K H p (fr r) ∧ ∀ q, H q = none → Q (.ref q) (upd H q (.lst [.int 0, .int r.num, .int (r.den : Int)]))
def spToldT : Sp := fun vs H Q _ => ∃ b : Bool, vs = [.bl b] ∧ ∀ q, H q = none → Q (.ref q) (upd H q (.lst [.int (if b = true then 1 else 0)]))
section
variable {P : Program} {w : World} {K : PySem.W.Frag} {mg : Str → Option Value} {base : Heap} {CD CC CR fR zA oA : Addr}
abbrev s_need : Stmt := top 36
theorem sc_need : FnScope ["holds", "code"] ["holds", "code"] (defScope s_need) := ⟨rfl, rfl, rfl, by decide +kernel, rfl, by decide +kernel, by decide +kernel⟩
theorem ok_need {f : Addr} (D : Dn K mg "need" s_need ["holds", "code"] f) (g_low : PySem.LowX.LowTxt K mg CR fR) : Kn P w K mg base "need" (L2.CX P w) 3 ["holds", "code"] (spNeed CR) f := by
  obtain ⟨⟨fd, F, b⟩, g⟩ := D
  refine ⟨⟨fd, F.okX sc_need (fun vs H Q E h => ?_) (fun cdv A outer s H vs Q E hr h => ?_), b⟩, g, F.kp⟩
  · obtain ⟨_, _, rfl, _⟩ := h
    rfl
  · obtain ⟨b, c, rfl, k1, k2⟩ := h
    refine ⟨_, (pss_one (ps_if (pt_not (pt_val (pv 0))) (pss_one (ps_raiseLow rfl g_low hr (takes_of rfl rfl rfl rfl) (pa_cons (pv 1) pa_nil))) pss_nil)), ?_⟩
    refine ⟨_, rfl, _, rfl, ?_⟩
    cases b with
    | true => exact if_false_of rfl (k1 rfl)
    | false => exact if_true_of rfl ⟨_, rfl, _, rfl, fun d hd => k2 rfl _ d (sameU (Same.refl H) hd) upd_same⟩
abbrev s_Campaign___init__ : Stmt := inClass (top 41) 0
theorem sc_Campaign___init__ : FnScope ["self"] ["self"] (defScope s_Campaign___init__) := ⟨rfl, rfl, rfl, by decide +kernel, rfl, by decide +kernel, by decide +kernel⟩
theorem ok_Campaign___init__ {f : Addr} (D : Dm K CC "__init__" "Campaign.__init__" s_Campaign___init__ ["self"] f) (g_c : TCamp K CC) (g_RUNNING : ∃ t, mg "RUNNING" = some (.int 0 t)) : Km P w K mg base CC "__init__" 1 ["self"] (spCampInit CC) f := by
  obtain ⟨⟨fd, F, b⟩, g⟩ := D
  obtain ⟨_, g_RUNNING⟩ := g_RUNNING
  refine ⟨⟨fd, F.ok sc_Campaign___init__ (fun vs H Q E h => ?_) (fun cdv A outer s H vs Q E hr h => ?_), b⟩, g⟩
  · obtain ⟨_, _, rfl, _⟩ := h
    rfl
  · obtain ⟨p, dx, rfl, hp, k⟩ := h
    refine ⟨_, (pss_cons (ps_fld (pv 0) pe_bl rfl) (pss_cons (ps_fld (pv 0) (pe_lst pa_nil) rfl) (pss_cons (ps_fld (pv 0) pe_int rfl) (pss_cons (ps_fld (pv 0) pe_int rfl) (pss_one (ps_fld (pv 0) (pe_glob (v := .int (0)) rfl g_RUNNING ⟨_, rfl⟩) rfl)))))), ?_⟩
    refine ⟨_, rfl, p, CC, dx, _, rfl, hp, g_c.cl, g_c.nc, (by show 0 < 1000; decide), ?_⟩
    refine ⟨(by show 0 ≤ sizeLine; decide), fun l hl => ?_⟩
    rw [pc_1] at hl ⊢
    have npl : p ≠ l := nn_of upd_same hl
    have hl0 : H l = none := by rw [upd_ne npl.symm] at hl; exact hl
    refine ⟨_, rfl, p, CC, dx, _, rfl, (upd_ne npl).trans upd_same, g_c.cl, g_c.nd, (by show 1 < 1000; decide), ?_⟩
    rw [pc_2]
    refine ⟨_, rfl, p, CC, dx, _, rfl, upd_same, g_c.cl, g_c.nn, (by show 2 < 1000; decide), ?_⟩
    rw [pc_3]
    refine ⟨_, rfl, p, CC, dx, _, rfl, upd_same, g_c.cl, g_c.nt, (by show 3 < 1000; decide), ?_⟩
    rw [pc_4]
    refine ⟨_, rfl, p, CC, dx, _, rfl, upd_same, g_c.cl, g_c.ns, (by show 4 < 1000; decide), ?_⟩
    rw [pc_5]
    refine k _ l upd_same ?_ hl0 (But.set (But.set (But.set (But.set (But.new (But.set But.refl) hl)))))
    rw [upd_ne npl.symm, upd_ne npl.symm, upd_ne npl.symm, upd_ne npl.symm, upd_same]
abbrev s_Campaign_begin_again : Stmt := inClass (top 41) 2
theorem sc_Campaign_begin_again : FnScope ["self"] ["self"] (defScope s_Campaign_begin_again) := ⟨rfl, rfl, rfl, by decide +kernel, rfl, by decide +kernel, by decide +kernel⟩
theorem ok_Campaign_begin_again {f : Addr} (D : Dm K CC "begin_again" "Campaign.begin_again" s_Campaign_begin_again ["self"] f) (g_c : TCamp K CC) (g_RUNNING : ∃ t, mg "RUNNING" = some (.int 0 t)) : Km P w K mg base CC "begin_again" 1 ["self"] (spBegin CC) f := by
  obtain ⟨⟨fd, F, b⟩, g⟩ := D
  obtain ⟨_, g_RUNNING⟩ := g_RUNNING
  refine ⟨⟨fd, F.ok sc_Campaign_begin_again (fun vs H Q E h => ?_) (fun cdv A outer s H vs Q E hr h => ?_), b⟩, g⟩
  · obtain ⟨_, _, _, _, _, _, _, rfl, _⟩ := h
    rfl
  · obtain ⟨a, dx, l, b, n, t, s, rfl, ha, k⟩ := h
    refine ⟨_, (pss_cons (ps_fld (pv 0) pe_int rfl) (pss_cons (ps_fld (pv 0) pe_int rfl) (pss_one (ps_fld (pv 0) (pe_glob (v := .int (0)) rfl g_RUNNING ⟨_, rfl⟩) rfl)))), ?_⟩
    refine ⟨_, rfl, a, CC, dx, _, rfl, ha, g_c.cl, g_c.nn, pc_len, ?_⟩
    rw [pc_n]
    refine ⟨_, rfl, a, CC, dx, _, rfl, upd_same, g_c.cl, g_c.nt, pc_len, ?_⟩
    rw [pc_t, upd_upd]
    refine ⟨_, rfl, a, CC, dx, _, rfl, upd_same, g_c.cl, g_c.ns, pc_len, ?_⟩
    rw [pc_s, upd_upd]
    exact k
abbrev s_Campaign_create : Stmt := inClass (top 41) 1
theorem sc_Campaign_create : FnScope ["self"] ["self"] (defScope s_Campaign_create) := ⟨rfl, rfl, rfl, by decide +kernel, rfl, by decide +kernel, by decide +kernel⟩
theorem ok_Campaign_create {f f_Campaign_begin_again : Addr} (D : Dm K CC "create" "Campaign.create" s_Campaign_create ["self"] f) (D_Campaign_begin_again : Km P w K mg base CC "begin_again" 1 ["self"] (spBegin CC) f_Campaign_begin_again) (g_c : TCamp K CC) : Km P w K mg base CC "create" 2 ["self"] (spCreate CC) f := by
  obtain ⟨⟨fd, F, b⟩, g⟩ := D
  obtain ⟨⟨_, G_Campaign_begin_again, b_Campaign_begin_again⟩, m_Campaign_begin_again⟩ := D_Campaign_begin_again
  refine ⟨⟨fd, F.ok sc_Campaign_create (fun vs H Q E h => ?_) (fun cdv A outer s H vs Q E hr h => ?_), b⟩, g⟩
  · obtain ⟨_, _, _, _, _, _, _, rfl, _⟩ := h
    rfl
  · obtain ⟨a, dx, l, b, n, t, s, rfl, ha, k⟩ := h
    refine ⟨_, (pss_cons (ps_fld (pv 0) pe_bl rfl) (pss_cons (ps_fld (pv 0) (pe_lst pa_nil) rfl) (pss_one (ps_expr (pe_meth0 (pv 0) g_c.cl m_Campaign_begin_again G_Campaign_begin_again (hr.mono (by decide)) b_Campaign_begin_again .nil pass0))))), ?_⟩
    refine ⟨_, rfl, a, CC, dx, _, rfl, ha, g_c.cl, g_c.nc, pc_len, ?_⟩
    rw [pc_c]
    refine ⟨(by show 0 ≤ sizeLine; decide), fun m hm => ?_⟩
    have npm : a ≠ m := nn_of upd_same hm
    have hm0 : H m = none := by rw [upd_ne npm.symm] at hm; exact hm
    refine ⟨_, rfl, a, CC, dx, _, rfl, (upd_ne npm).trans upd_same, g_c.cl, g_c.nd, pc_len, ?_⟩
    rw [pc_d]
    refine ⟨_, rfl, a, dx, _, rfl, upd_same, (cF_no (by decide +kernel) (by decide +kernel) (by decide +kernel) (by decide +kernel) (by decide +kernel)), ?_⟩
    refine ⟨a, dx, m, true, n, t, s, rfl, upd_same, ?_⟩
    refine k _ m upd_same ?_ hm0 (But.set (But.set (But.new (But.set But.refl) hm)))
    rw [upd_ne npm.symm, upd_ne npm.symm, upd_same]
abbrev s_Campaign_go_on : Stmt := inClass (top 41) 3
theorem sc_Campaign_go_on : FnScope ["self", "sample", "day"] ["self", "sample"] (defScope s_Campaign_go_on) := ⟨rfl, rfl, rfl, by decide +kernel, rfl, by decide +kernel, by decide +kernel⟩
theorem ok_Campaign_go_on {f f_has_event : Addr} (D : Dm K CC "go_on" "Campaign.go_on" s_Campaign_go_on ["self", "sample"] f) (D_has_event : Kn P w K mg base "has_event" CX0 1 ["day", "sample"] (spHasEvent CD) f_has_event) (g_c : TCamp K CC) (g_t : TDay K CD) (g_ENDED : ∃ t, mg "ENDED" = some (.int 1 t)) : Km P w K mg base CC "go_on" 2 ["self", "sample"] (spGoOn CC CD) f := by
  obtain ⟨⟨fd, F, b⟩, g⟩ := D
  obtain ⟨⟨_, G_has_event, b_has_event⟩, g_has_event, k_has_event⟩ := D_has_event
  obtain ⟨_, g_ENDED⟩ := g_ENDED
  refine ⟨⟨fd, F.ok sc_Campaign_go_on (fun vs H Q E h => ?_) (fun cdv A outer s H vs Q E hr h => ?_), b⟩, g⟩
  · obtain ⟨_, _, _, _, _, _, _, _, _, _, _, rfl, _⟩ := h
    rfl
  · obtain ⟨a, dx, l, b, n, t, s, x, as, e, d, rfl, ha, hl, he, hda, ok, nCD, k1, k2⟩ := h
    refine ⟨_, (pss_cons (ps_set (i := 2) sc_Campaign_go_on.nd rfl (Or.inl rfl) (pe_ix ix_list (pe_fld (pv 0) rfl) (pe_fld (pv 0) rfl) (fun _ _ => rfl))) (pss_cons (ps_fldaug (pv 0) pe_int in_add) (pss_cons (ps_if (pt_val (pe_call G_has_event (hr.mono (by decide)) rfl g_has_event k_has_event b_has_event .nil pass0 (pa_cons (pv 2) (pa_cons (pv 1) pa_nil)))) (pss_cons (ps_fld (pv 0) (pe_glob (v := .int (1)) rfl g_ENDED ⟨_, rfl⟩) rfl) (pss_cons (ps_fldaug (pv 0) (pe_fld (pv 2) rfl) in_sub) (pss_one (ps_ret pe_bl)))) pss_nil) (pss_cons (ps_fldaug (pv 0) (pe_fld (pv 2) rfl) in_add) (pss_one (ps_ret pe_bl)))))), ?_⟩
    obtain ⟨dy, hd⟩ := id hda
    have nea : e ≠ a := kind_ne hd ha (fun z => nCD (by injection z with z _; exact z.symm))
    refine ⟨_, rfl, a, CC, dx, _, _, rfl, ha, g_c.cl, g_c.nd, cF_d, _, rfl, a, CC, dx, _, _, rfl, ha, g_c.cl, g_c.nn, cF_n, l, _, (n : Int), _, rfl, rfl, SqL.of hl, atI_nat (by rw [List.getElem?_map, he]; rfl), ?_⟩
    refine ⟨_, rfl, a, CC, dx, _, _, rfl, ha, g_c.cl, g_c.nn, cF_n, _, _, rfl, rfl, dx, _, ha, pc_len, ?_⟩
    rw [pc_n]
    refine ⟨_, rfl, _, rfl, e, d, x, rfl, ⟨dy, (upd_ne nea).trans hd⟩, ok, _, rfl, ?_⟩
    have en : (n : Int) + 1 = ((n + 1 : Nat) : Int) := by omega
    rw [en]
    by_cases c : x * d.denominator < 1000 * d.numerator
    · refine if_true_of (decide_eq_true c) ⟨_, rfl, a, CC, dx, _, rfl, upd_same, g_c.cl, g_c.ns, pc_len, ?_⟩
      rw [pc_s, upd_upd]
      refine ⟨_, rfl, a, CC, dx, _, _, rfl, upd_same, g_c.cl, g_c.nt, cF_t, _, rfl, e, CD, dy, _, _, rfl, (upd_ne nea).trans hd, g_t.cl, g_t.nc, dF_c d, _, _, rfl, rfl, dx, _, upd_same, pc_len, ?_⟩
      rw [pc_t, upd_upd]
      exact k1 c
    · refine if_false_of (decide_eq_false c) ?_
      refine ⟨_, rfl, a, CC, dx, _, _, rfl, upd_same, g_c.cl, g_c.nt, cF_t, _, rfl, e, CD, dy, _, _, rfl, (upd_ne nea).trans hd, g_t.cl, g_t.ng, dF_g d, _, _, rfl, rfl, dx, _, upd_same, pc_len, ?_⟩
      rw [pc_t, upd_upd]
      exact k2 c
abbrev s_Campaign_remaining : Stmt := inClass (top 41) 4
theorem sc_Campaign_remaining : FnScope ["self"] ["self"] (defScope s_Campaign_remaining) := ⟨rfl, rfl, rfl, by decide +kernel, rfl, by decide +kernel, by decide +kernel⟩
theorem ok_Campaign_remaining {f : Addr} (D : Dm K CC "remaining" "Campaign.remaining" s_Campaign_remaining ["self"] f) (g_c : TCamp K CC) : Km P w K mg base CC "remaining" 1 ["self"] (spRemaining K CC CD) f := by
  obtain ⟨⟨fd, F, b⟩, g⟩ := D
  refine ⟨⟨fd, F.ok sc_Campaign_remaining (fun vs H Q E h => ?_) (fun cdv A outer s H vs Q E hr h => ?_), b⟩, g⟩
  · obtain ⟨_, _, _, rfl, _⟩ := h
    rfl
  · obtain ⟨a, l, s, rfl, hc, k⟩ := h
    refine ⟨_, (pss_one (ps_ret (pe_slice sl_list (pe_fld (pv 0) rfl) (po_some (pe_fld (pv 0) rfl)) po_none))), ?_⟩
    obtain ⟨⟨dx, ha⟩, ⟨as, hl, hD⟩, ok, ln, nx⟩ := id hc
    have hlen := hD.len
    refine ⟨_, rfl, a, CC, dx, _, _, rfl, ha, g_c.cl, g_c.nd, cF_d, _, rfl, a, CC, dx, _, _, rfl, ha, g_c.cl, g_c.nn, cF_n, _, rfl, l, _, rfl, SqL.of hl, fun p hp => k _ p (sameU (Same.refl H) hp) (newFrom hD ok ln _ hp)⟩
abbrev s_need_day : Stmt := top 42
theorem sc_need_day : FnScope ["campaign", "number"] ["campaign", "number"] (defScope s_need_day) := ⟨rfl, rfl, rfl, by decide +kernel, rfl, by decide +kernel, by decide +kernel⟩
theorem ok_need_day {f f_need : Addr} (D : Dn K mg "need_day" s_need_day ["campaign", "number"] f) (D_need : Kn P w K mg base "need" (L2.CX P w) 3 ["holds", "code"] (spNeed CR) f_need) (g_c : TCamp K CC) (g_len : mg "len" = none) (g_NO_DAY : ∃ t, mg "NO_DAY" = some (.int (-2) t)) : Kn P w K mg base "need_day" (L2.CX P w) 4 ["campaign", "number"] (spNeedDay CC CD CR) f := by
  obtain ⟨⟨fd, F, b⟩, g⟩ := D
  obtain ⟨⟨_, G_need, b_need⟩, g_need, k_need⟩ := D_need
  obtain ⟨_, g_NO_DAY⟩ := g_NO_DAY
  refine ⟨⟨fd, F.okX sc_need_day (fun vs H Q E h => ?_) (fun cdv A outer s H vs Q E hr h => ?_), b⟩, g, F.kp⟩
  · obtain ⟨_, _, _, _, rfl, _⟩ := h
    rfl
  · obtain ⟨a, l, s, x, rfl, hc, k1, k2⟩ := h
    refine ⟨_, (pss_one (ps_expr (pe_call G_need (hr.mono (by decide)) rfl g_need k_need b_need .nil passX (pa_cons (pe_cmpR op_lt (pv 1) (pe_callB call_len_seq (by rfl) g_len PySem.boot_len (pa_cons (pe_fld (pv 0) rfl) pa_nil)) (nomark _)) (pa_cons (pe_glob (v := .int (-2)) rfl g_NO_DAY ⟨_, rfl⟩) pa_nil))))), ?_⟩
    obtain ⟨⟨dx, ha⟩, ⟨as, hl, hD⟩, ok, ln, nx⟩ := id hc
    have hlen := hD.len
    refine ⟨_, rfl, _, rfl, a, CC, dx, _, _, rfl, ha, g_c.cl, g_c.nd, cF_d, l, _, rfl, .inl (SqL.of hl), _, _, rfl, rfl, _, _, rfl, fun q => k1 ?_, fun q => k2 ?_⟩
    · have := of_decide_eq_true q
      rw [List.length_map, hlen] at this
      omega
    · have := of_decide_eq_false q
      rw [List.length_map, hlen] at this
      omega
abbrev s_first_remaining : Stmt := top 43
theorem sc_first_remaining : FnScope ["campaign", "count", "left"] ["campaign", "count"] (defScope s_first_remaining) := ⟨rfl, rfl, rfl, by decide +kernel, rfl, by decide +kernel, by decide +kernel⟩
theorem ok_first_remaining {f f_need f_Campaign_remaining : Addr} (D : Dn K mg "first_remaining" s_first_remaining ["campaign", "count"] f) (D_need : Kn P w K mg base "need" (L2.CX P w) 3 ["holds", "code"] (spNeed CR) f_need) (D_Campaign_remaining : Km P w K mg base CC "remaining" 1 ["self"] (spRemaining K CC CD) f_Campaign_remaining) (g_c : TCamp K CC) (g_len : mg "len" = none) (g_NO_DAY : ∃ t, mg "NO_DAY" = some (.int (-2) t)) : Kn P w K mg base "first_remaining" (L2.CX P w) 4 ["campaign", "count"] (spFirst K CC CD CR) f := by
  obtain ⟨⟨fd, F, b⟩, g⟩ := D
  obtain ⟨⟨_, G_need, b_need⟩, g_need, k_need⟩ := D_need
  obtain ⟨⟨_, G_Campaign_remaining, b_Campaign_remaining⟩, m_Campaign_remaining⟩ := D_Campaign_remaining
  obtain ⟨_, g_NO_DAY⟩ := g_NO_DAY
  refine ⟨⟨fd, F.okX sc_first_remaining (fun vs H Q E h => ?_) (fun cdv A outer s H vs Q E hr h => ?_), b⟩, g, F.kp⟩
  · obtain ⟨_, _, _, _, rfl, _⟩ := h
    rfl
  · obtain ⟨a, l, s, x, rfl, hc, k1, k2⟩ := h
    refine ⟨_, (pss_cons (ps_set (i := 2) sc_first_remaining.nd rfl (Or.inl rfl) (pe_meth0 (pv 0) g_c.cl m_Campaign_remaining G_Campaign_remaining (hr.mono (by decide)) b_Campaign_remaining .nil pass0)) (pss_cons (ps_expr (pe_call G_need (hr.mono (by decide)) rfl g_need k_need b_need .nil passX (pa_cons (pe_cmpR op_le (pv 1) (pe_callB call_len_seq (by rfl) g_len PySem.boot_len (pa_cons (pv 2) pa_nil)) (nomark _)) (pa_cons (pe_glob (v := .int (-2)) rfl g_NO_DAY ⟨_, rfl⟩) pa_nil)))) (pss_one (ps_ret (pe_slice sl_list (pv 2) po_none (po_some (pv 1))))))), ?_⟩
    obtain ⟨⟨dx, ha⟩, ⟨as, hl, hD⟩, ok, ln, nx⟩ := id hc
    have hlen := hD.len
    refine ⟨_, rfl, a, dx, _, rfl, ha, (cF_no (by decide +kernel) (by decide +kernel) (by decide +kernel) (by decide +kernel) (by decide +kernel)), a, l, s, rfl, hc, fun H1 p s1 hL => ?_⟩
    obtain ⟨⟨bs, hB, hE⟩, ok2, ln2⟩ := id hL
    refine ⟨_, rfl, _, rfl, p, _, rfl, .inl hB, _, _, rfl, rfl, _, _, rfl, fun q => ?_, fun q => (k2 ?_).same s1⟩
    · have := of_decide_eq_true q
      rw [List.length_map, hE.len] at this
      refine ⟨_, rfl, _, rfl, _, rfl, p, _, rfl, hB, fun p2 hp2 => ?_⟩
      exact k1 (by omega) _ p2 (sameU s1 hp2) (newTo hE ok2 ln2 x hp2)
    · have := of_decide_eq_false q
      rw [List.length_map, hE.len] at this
      omega
abbrev s_told_fraction : Stmt := top 56
theorem sc_told_fraction : FnScope ["fraction"] ["fraction"] (defScope s_told_fraction) := ⟨rfl, rfl, rfl, by decide +kernel, rfl, by decide +kernel, by decide +kernel⟩
theorem ok_told_fraction {f : Addr} (D : Dn K mg "told_fraction" s_told_fraction ["fraction"] f) : Kn P w K mg base "told_fraction" CX0 1 ["fraction"] (spToldF K) f := by
  obtain ⟨⟨fd, F, b⟩, g⟩ := D
  refine ⟨⟨fd, F.ok sc_told_fraction (fun vs H Q E h => ?_) (fun cdv A outer s H vs Q E hr h => ?_), b⟩, g, F.kp⟩
  · obtain ⟨_, _, rfl, _⟩ := h
    rfl
  · obtain ⟨p, r, rfl, hp, k⟩ := h
    refine ⟨_, (pss_one (ps_ret (pe_lst (pa_cons pe_int (pa_cons (pe_ix ix_tup (pv 0) pe_int (fun _ _ => rfl)) (pa_cons (pe_ix ix_tup (pv 0) pe_int (fun _ _ => rfl)) pa_nil)))))), ?_⟩
    exact ⟨_, rfl, p, _, _, _, rfl, rfl, hp, fr0 r, _, rfl, p, _, _, _, rfl, rfl, hp, fr1 r, (by show 3 ≤ sizeLine; decide), k⟩
abbrev s_told_truth : Stmt := top 57
theorem sc_told_truth : FnScope ["holds"] ["holds"] (defScope s_told_truth) := ⟨rfl, rfl, rfl, by decide +kernel, rfl, by decide +kernel, by decide +kernel⟩
theorem ok_told_truth {f : Addr} (D : Dn K mg "told_truth" s_told_truth ["holds"] f) : Kn P w K mg base "told_truth" CX0 1 ["holds"] (spToldT) f := by
  obtain ⟨⟨fd, F, b⟩, g⟩ := D
  refine ⟨⟨fd, F.ok sc_told_truth (fun vs H Q E h => ?_) (fun cdv A outer s H vs Q E hr h => ?_), b⟩, g, F.kp⟩
  · obtain ⟨_, rfl, _⟩ := h
    rfl
  · obtain ⟨b, rfl, k⟩ := h
    refine ⟨_, (pss_one (ps_ret (pe_ifExp (pt_val (pv 0)) (pe_lst (pa_cons pe_int pa_nil)) (pe_lst (pa_cons pe_int pa_nil))))), ?_⟩
    refine ⟨_, rfl, _, rfl, ?_⟩
    cases b with
    | true => exact if_true_of rfl ⟨(by show 1 ≤ sizeLine; decide), k⟩
    | false => exact if_false_of rfl ⟨(by show 1 ≤ sizeLine; decide), k⟩
end
end Hd

namespace Hd
open PySem PySem.Spec PyProof.Rows L2
open Kqk5 (Day Campaign)
/-! ### what a deed does -/
def numV (ns : List Nat) : List V := ns.map fun (n : Nat) => V.int (n : Int)
def stepN (s : Option Campaign) (i : Nat) (ns : List Nat) : Option Campaign × List Int := Kqk5Neutral.step s [(i : Int) :: ns.map fun (n : Nat) => (n : Int)]
def Kept (a l : Addr) (H H' : Hp) : Prop := ∀ b o, H b = some o → b ≠ a → b ≠ l → H' b = some o
def Tells (CC CD : Addr) (H : Hp) (a l : Addr) (r : Option Campaign × List Int) (Q : VK) : Prop :=
  ∀ (H' : Hp) (p l' : Addr), Kept a l H H' → H p = none → H' p = some (.lst (r.2.map V.int)) → CampAt CC CD H' a l' r.1 → (l' = l ∨ H l' = none) → Q (.ref p) H'
def spDeed (K : PySem.W.Frag) (CC CD CR : Addr) (i : Nat) : Sp := fun vs H Q E => ∃ (a b l : Addr) (s : Option Campaign) (ns : List Nat), vs = [.ref a, .ref b] ∧ CampAt CC CD H a l s ∧ SqL K H b (numV ns) ∧ ns.length = Hd.sizes.getD i 0 ∧
  (i = 0 ∨ ∃ c, s = some c) ∧ Tells CC CD H a l (stepN s i ns) Q ∧ ∀ c : Int, stepN s i ns = (s, [c]) → Refuse CR H c E
theorem Kept.of {a l : Addr} {H H' : Hp} (s : Same H H') : Kept a l H H' := fun b o e _ _ => s b o e
theorem Tells.same {CC CD : Addr} {H H' : Hp} {a l : Addr} {s : Option Campaign} {out : List Int} {Q : VK} (t : Tells CC CD H a l (s, out) Q) (hc : CampAt CC CD H a l s) (e : Same H H') {p : Addr} (hp : H' p = none) : Q (.ref p) (upd H' p (.lst (out.map V.int))) :=
  t _ p l (Kept.of (sameU e hp)) (e.free hp) upd_same (hc.same (sameU e hp)) (.inl rfl)
theorem len0 {α : Type} {l : List α} (h : l.length = 0) : l = [] := List.length_eq_zero_iff.mp h
theorem len1 {α : Type} {l : List α} (h : l.length = 1) : ∃ x, l = [x] := List.length_eq_one_iff.mp h
theorem len2 {α : Type} {l : List α} (h : l.length = 2) : ∃ x y, l = [x, y] := by
  match l, h with
  | [x, y], _ => exact ⟨x, y, rfl⟩
theorem len4 {α : Type} {l : List α} (h : l.length = 4) : ∃ x y z u, l = [x, y, z, u] := by
  match l, h with
  | [x, y, z, u], _ => exact ⟨x, y, z, u, rfl⟩
theorem len5 {α : Type} {l : List α} (h : l.length = 5) : ∃ x y z u v, l = [x, y, z, u, v] := by
  match l, h with
  | [x, y, z, u, v], _ => exact ⟨x, y, z, u, v, rfl⟩
theorem nv0 {x : Nat} {r : List Nat} : atI (numV (x :: r)) 0 = some (.int (x : Int)) := atI_nat (j := 0) rfl
theorem at_ref {as : List Addr} {x : Nat} {e : Addr} (h : as[x]? = some e) : atI (as.map V.ref) (x : Int) = some (.ref e) := atI_nat (by rw [List.getElem?_map, h]; rfl)
/-- the facts of a created campaign -/
structure Camp1 (CC CD : Addr) (H : Hp) (a l : Addr) (c : Campaign) (dx : Addr) (as : List Addr) : Prop where
  ha : H a = some (.ins CC dx (cF true l (c.next : Int) c.total (c.status : Int)))
  hl : H l = some (.lst (as.map V.ref))
  hD : DaysOf CD H as c.days
  ok : AllOk c.days
  ln : c.days.length ≤ 10
  nx : c.next ≤ c.days.length
theorem CampAt.ex {CC CD : Addr} {H : Hp} {a l : Addr} {c : Campaign} (h : CampAt CC CD H a l (some c)) : ∃ dx as, Camp1 CC CD H a l c dx as := by
  obtain ⟨⟨dx, ha⟩, ⟨as, hl, hD⟩, ok, ln, nx⟩ := h
  exact ⟨dx, as, ha, hl, hD, ok, ln, nx⟩
theorem Camp1.at {CC CD : Addr} {H : Hp} {a l : Addr} {c : Campaign} {dx : Addr} {as : List Addr} (h : Camp1 CC CD H a l c dx as) : CampAt CC CD H a l (some c) := ⟨⟨dx, h.ha⟩, ⟨as, h.hl, h.hD⟩, h.ok, h.ln, h.nx⟩
theorem Camp1.nal {CC CD : Addr} {H : Hp} {a l : Addr} {c : Campaign} {dx : Addr} {as : List Addr} (h : Camp1 CC CD H a l c dx as) : a ≠ l := kind_ne h.ha h.hl (by intro z; cases z)
/-- the days, where neither the campaign nor its list is one -/
theorem DaysOf.kept {CC CD : Addr} (n : CC ≠ CD) {H H' : Hp} {a l dx : Addr} {fs : List (Str × V)} {xs : List V} (ha : H a = some (.ins CC dx fs)) (hl : H l = some (.lst xs)) (k : Kept a l H H') {as : List Addr} {ds : List Day} (h : DaysOf CD H as ds) : DaysOf CD H' as ds :=
  ⟨h.len, fun i b d h1 h2 => by
    obtain ⟨dy, e⟩ := h.at_ i b d h1 h2
    exact ⟨dy, k _ _ e (kind_ne e ha (fun z => n (by injection z with z _; exact z.symm))) (kind_ne e hl (by intro z; cases z))⟩⟩
section
variable {P : Program} {w : World} {K : PySem.W.Frag} {mg : Str → Option Value} {base : Heap} {CD CC CR fR zA oA : Addr}
abbrev s_do_create : Stmt := top 58
theorem sc_do_create : FnScope ["campaign", "numbers"] ["campaign", "numbers"] (defScope s_do_create) := ⟨rfl, rfl, rfl, by decide +kernel, rfl, by decide +kernel, by decide +kernel⟩
theorem ok_do_create {f f_Campaign_create : Addr} (D : Dn K mg "do_create" s_do_create ["campaign", "numbers"] f) (D_Campaign_create : Km P w K mg base CC "create" 2 ["self"] (spCreate CC) f_Campaign_create) (g_c : TCamp K CC) : Kn P w K mg base "do_create" (L2.CX P w) 10 ["campaign", "numbers"] (spDeed K CC CD CR 0) f := by
  obtain ⟨⟨fd, F, b⟩, g⟩ := D
  obtain ⟨⟨_, G_Campaign_create, b_Campaign_create⟩, m_Campaign_create⟩ := D_Campaign_create
  refine ⟨⟨fd, F.okX sc_do_create (fun vs H Q E h => ?_) (fun cdv A outer s H vs Q E hr h => ?_), b⟩, g, F.kp⟩
  · obtain ⟨_, _, _, _, _, rfl, _⟩ := h
    rfl
  · obtain ⟨a, b, l, s, ns, rfl, hc, hb, hn, hs, kt, kr⟩ := h
    refine ⟨_, (pss_cons (ps_expr (pe_meth0 (pv 0) g_c.cl m_Campaign_create G_Campaign_create (hr.mono (by decide)) b_Campaign_create .nil pass0)) (pss_one (ps_ret (pe_lst (pa_cons pe_int pa_nil))))), ?_⟩
    cases len0 hn
    have e : stepN s 0 [] = (some ⟨[], 0, 0, 0⟩, [0]) := by cases s <;> rfl
    rw [e] at kt
    obtain ⟨⟨dx, ha⟩, _, _, _, _⟩ := id hc
    refine ⟨_, rfl, a, dx, _, rfl, ha, (cF_no (by decide +kernel) (by decide +kernel) (by decide +kernel) (by decide +kernel) (by decide +kernel)), a, dx, l, _, _, _, _, rfl, ha, fun H1 m h1 h2 h3 h4 => ⟨(by show 1 ≤ sizeLine; decide), fun p hp => ?_⟩⟩
    have npa : a ≠ p := nn_of h1 hp
    have npm : m ≠ p := nn_of h2 hp
    refine kt _ p m (fun b o q n1 n2 => ?_) ?_ upd_same ⟨⟨dx, (upd_ne npa).trans h1⟩, ⟨[], (upd_ne npm).trans h2, DaysOf.nil⟩, fun d hd => absurd hd (by simp [stOf]), by show 0 ≤ 10; decide, Nat.le_refl _⟩ (.inr h3)
    · exact (upd_ne (nn_of (h4 b o q n1) hp)).trans (h4 b o q n1)
    · cases q : H p with
      | none => rfl
      | some o => exact absurd hp (by rw [h4 p o q npa.symm]; intro z; cases z)
abbrev s_do_add_day : Stmt := top 59
theorem sc_do_add_day : FnScope ["campaign", "numbers", "gain", "numerator", "denominator", "cost"] ["campaign", "numbers"] (defScope s_do_add_day) := ⟨rfl, rfl, rfl, by decide +kernel, rfl, by decide +kernel, by decide +kernel⟩
theorem ok_do_add_day {f f_need f_are_fields f_Day___init__ : Addr} (D : Dn K mg "do_add_day" s_do_add_day ["campaign", "numbers"] f) (D_need : Kn P w K mg base "need" (L2.CX P w) 3 ["holds", "code"] (spNeed CR) f_need) (D_are_fields : Kn P w K mg base "are_fields" CX0 1 ["gain", "numerator", "denominator", "cost"] (spAreFields) f_are_fields) (D_Day___init__ : Km P w K mg base CD "__init__" 1 ["self", "gain", "numerator", "denominator", "cost"] (spDayInit CD) f_Day___init__) (g_c : TCamp K CC) (g_nCD : CC ≠ CD) (g_len : mg "len" = none) (g_Day : mg "Day" = some (.ref CD)) (g_M : Mk K CD f_Day___init__) (g_MOST_DAYS : ∃ t, mg "MOST_DAYS" = some (.int 10 t)) (g_TOO_MANY : ∃ t, mg "TOO_MANY" = some (.int (-28) t)) (g_OUT_OF_RANGE : ∃ t, mg "OUT_OF_RANGE" = some (.int (-22) t)) : Kn P w K mg base "do_add_day" (L2.CX P w) 10 ["campaign", "numbers"] (spDeed K CC CD CR 1) f := by
  obtain ⟨⟨fd, F, b⟩, g⟩ := D
  obtain ⟨⟨_, G_need, b_need⟩, g_need, k_need⟩ := D_need
  obtain ⟨⟨_, G_are_fields, b_are_fields⟩, g_are_fields, k_are_fields⟩ := D_are_fields
  obtain ⟨⟨_, G_Day___init__, b_Day___init__⟩, m_Day___init__⟩ := D_Day___init__
  obtain ⟨_, g_MOST_DAYS⟩ := g_MOST_DAYS
  obtain ⟨_, g_TOO_MANY⟩ := g_TOO_MANY
  obtain ⟨_, g_OUT_OF_RANGE⟩ := g_OUT_OF_RANGE
  refine ⟨⟨fd, F.okX sc_do_add_day (fun vs H Q E h => ?_) (fun cdv A outer s H vs Q E hr h => ?_), b⟩, g, F.kp⟩
  · obtain ⟨_, _, _, _, _, rfl, _⟩ := h
    rfl
  · obtain ⟨a, b, l, s, ns, rfl, hc, hb, hn, hs, kt, kr⟩ := h
    refine ⟨_, (pss_cons (ps_asg (pv 1) (pg_lst (by rfl) (pgs_cons (pg_name (i := 2) sc_do_add_day.nd rfl (Or.inl rfl)) (pgs_cons (pg_name (i := 3) sc_do_add_day.nd rfl (Or.inl rfl)) (pgs_cons (pg_name (i := 4) sc_do_add_day.nd rfl (Or.inl rfl)) (pgs_cons (pg_name (i := 5) sc_do_add_day.nd rfl (Or.inl rfl)) pgs_nil)))))) (pss_cons (ps_expr (pe_call G_need (hr.mono (by decide)) rfl g_need k_need b_need .nil passX (pa_cons (pe_call G_are_fields (hr.mono (by decide)) rfl g_are_fields k_are_fields b_are_fields .nil pass0 (pa_cons (pv 2) (pa_cons (pv 3) (pa_cons (pv 4) (pa_cons (pv 5) pa_nil))))) (pa_cons (pe_glob (v := .int (-22)) rfl g_OUT_OF_RANGE ⟨_, rfl⟩) pa_nil)))) (pss_cons (ps_expr (pe_call G_need (hr.mono (by decide)) rfl g_need k_need b_need .nil passX (pa_cons (pe_cmpR op_lt (pe_callB call_len_seq (by rfl) g_len PySem.boot_len (pa_cons (pe_fld (pv 0) rfl) pa_nil)) (pe_glob (v := .int (10)) rfl g_MOST_DAYS ⟨_, rfl⟩) (nomark _)) (pa_cons (pe_glob (v := .int (-28)) rfl g_TOO_MANY ⟨_, rfl⟩) pa_nil)))) (pss_cons (ps_expr (pe_bm PySem.F.plainAttrs_list PySem.F.slot_list_append PySem.F.type_list_append mt_append (pe_fld (pv 0) rfl) (pa_cons (pe_make g_M G_Day___init__ (hr.mono (by decide)) rfl g_Day b_Day___init__ .nil pass0 (pa_cons (pv 2) (pa_cons (pv 3) (pa_cons (pv 4) (pa_cons (pv 5) pa_nil))))) pa_nil))) (pss_one (ps_ret (pe_lst (pa_cons (pe_op op_sub (pe_callB call_len_seq (by rfl) g_len PySem.boot_len (pa_cons (pe_fld (pv 0) rfl) pa_nil)) pe_int) pa_nil)))))))), ?_⟩
    obtain ⟨c, rfl⟩ := hs.resolve_left (by decide)
    obtain ⟨x, y, z, u, rfl⟩ := len4 hn
    obtain ⟨dx, as, h1⟩ := hc.ex
    obtain ⟨ha, hl, hD, ok, ln, nx⟩ := id h1
    have hlen := hD.len
    have e : stepN (some c) 1 [x, y, z, u] = (if Kqk5.isDay x y z u = false then (some c, [-22]) else if 10 ≤ c.days.length then (some c, [-28]) else (some { c with days := c.days ++ [⟨x, y, z, u⟩] }, [(c.days.length : Int)])) := by
      show (let r := (if Kqk5.isDay x y z u = false then (some c, Kqk5.Result.value (-22)) else if 10 ≤ c.days.length then (some c, Kqk5.Result.value (-28)) else (some { c with days := c.days ++ [⟨x, y, z, u⟩] }, Kqk5.Result.value (c.days.length : Int))); (r.1, Kqk5Neutral.fields r.2)) = _
      split
      · rfl
      · split <;> rfl
    refine ⟨_, rfl, b, _, rfl, hb, rfl, _, _, rfl, _, _, rfl, _, _, rfl, _, _, rfl, rfl, ?_⟩
    refine ⟨_, rfl, _, rfl, _, rfl, _, rfl, x, y, z, u, rfl, _, _, rfl, fun q => ?_, fun q => kr _ (by rw [e, if_pos q])⟩
    rw [if_neg (by rw [q]; decide)] at e
    refine ⟨_, rfl, a, CC, dx, _, _, rfl, ha, g_c.cl, g_c.nd, cF_d, l, _, rfl, .inl (SqL.of hl), _, _, rfl, rfl, _, _, rfl, fun q2 => ?_, fun q2 => kr _ ?_⟩
    · have q3 := of_decide_eq_true q2
      rw [List.length_map, hlen] at q3
      rw [if_neg (by omega)] at e
      rw [e] at kt
      refine ⟨_, rfl, a, CC, dx, _, _, rfl, ha, g_c.cl, g_c.nd, cF_d, .inl ⟨rfl, _, SqL.of hl⟩, _, rfl, _, rfl, _, rfl, _, rfl, fun v dy nv ny ne => ⟨v, dy, ⟨x, y, z, u⟩, rfl, upd_same, rfl, ?_⟩⟩
      rw [upd_upd]
      have s1 : Same H (upd (upd H dy (.own v)) v (.ins CD dy (dF ⟨x, y, z, u⟩))) := sameU2 (sameU (Same.refl H) ny) nv
      have nal := h1.nal
      refine ⟨l, _, _, rfl, rfl, s1 _ _ hl, by rw [List.length_map, hlen]; exact Nat.lt_of_le_of_lt ln (by decide), ?_⟩
      refine ⟨_, rfl, a, CC, dx, _, _, rfl, (by rw [upd_ne nal]; exact s1 _ _ ha), g_c.cl, g_c.nd, cF_d, l, _, rfl, .inl (SqL.of upd_same), _, _, rfl, rfl, (by show 1 ≤ sizeLine; decide), fun p hp => ?_⟩
      have npl : l ≠ p := nn_of upd_same hp
      have hp1 : (upd (upd H dy (.own v)) v (.ins CD dy (dF ⟨x, y, z, u⟩))) p = none := by rw [upd_ne npl.symm] at hp; exact hp
      have kp : Kept a l H (upd (upd (upd (upd H dy (.own v)) v (.ins CD dy (dF ⟨x, y, z, u⟩))) l (.lst (as.map V.ref ++ [V.ref v]))) p (.lst [V.int (((as.map V.ref ++ [V.ref v]).length : Int) - 1)])) := fun b o q n1 n2 => by
        rw [upd_ne (nn_of (s1 _ _ q) hp1), upd_ne n2]
        exact s1 _ _ q
      have npa : a ≠ p := nn_of (s1 _ _ ha) hp1
      have nvl : v ≠ l := (nn_of hl nv).symm
      have nvp : v ≠ p := nn_of upd_same hp1
      refine kt _ p l kp (s1.free hp1) ?_ ⟨⟨dx, ?_⟩, ⟨as ++ [v], ?_, ?_⟩, ?_, ?_, ?_⟩ (.inl rfl)
      · rw [upd_same]
        simp [hlen]
      · rw [upd_ne npa, upd_ne nal]
        exact s1 _ _ ha
      · rw [upd_ne npl, upd_same, List.map_append]; rfl
      · refine DaysOf.push (hD.kept g_nCD ha hl kp) ⟨dy, ?_⟩
        rw [upd_ne nvp, upd_ne nvl, upd_same]
      · intro d hd
        rcases List.mem_append.mp hd with h | h
        · exact ok d h
        · cases List.mem_singleton.mp h
          exact dayOk_of q
      · show (c.days ++ [_]).length ≤ 10
        rw [List.length_append]; show c.days.length + 1 ≤ 10; omega
      · show c.next ≤ (c.days ++ [_]).length
        rw [List.length_append]; omega
    · have q3 := of_decide_eq_false q2
      rw [List.length_map, hlen] at q3
      rw [e, if_pos (by omega)]
end
end Hd

namespace Hd
open PySem PySem.Spec PyProof.Rows L2
open Kqk5 (Day Campaign)
theorem get_none {α : Type} {l : List α} {i : Nat} (h : l.length ≤ i) : l[i]? = none := List.getElem?_eq_none h
theorem dec_le_nat (x n : Nat) : decide ((x : Int) ≤ (n : Int)) = decide (x ≤ n) := by
  by_cases h : x ≤ n
  · rw [decide_eq_true h, decide_eq_true (by omega)]
  · rw [decide_eq_false h, decide_eq_false (by omega)]
section
variable {P : Program} {w : World} {K : PySem.W.Frag} {mg : Str → Option Value} {base : Heap} {CD CC CR fR zA oA : Addr}
abbrev s_do_set_day : Stmt := top 60
theorem sc_do_set_day : FnScope ["campaign", "numbers", "at", "gain", "numerator", "denominator", "cost"] ["campaign", "numbers"] (defScope s_do_set_day) := ⟨rfl, rfl, rfl, by decide +kernel, rfl, by decide +kernel, by decide +kernel⟩
theorem ok_do_set_day {f f_need f_need_day f_are_fields f_Day___init__ : Addr} (D : Dn K mg "do_set_day" s_do_set_day ["campaign", "numbers"] f) (D_need : Kn P w K mg base "need" (L2.CX P w) 3 ["holds", "code"] (spNeed CR) f_need) (D_need_day : Kn P w K mg base "need_day" (L2.CX P w) 4 ["campaign", "number"] (spNeedDay CC CD CR) f_need_day) (D_are_fields : Kn P w K mg base "are_fields" CX0 1 ["gain", "numerator", "denominator", "cost"] (spAreFields) f_are_fields) (D_Day___init__ : Km P w K mg base CD "__init__" 1 ["self", "gain", "numerator", "denominator", "cost"] (spDayInit CD) f_Day___init__) (g_c : TCamp K CC) (g_nCD : CC ≠ CD) (g_Day : mg "Day" = some (.ref CD)) (g_M : Mk K CD f_Day___init__) (g_OUT_OF_RANGE : ∃ t, mg "OUT_OF_RANGE" = some (.int (-22) t)) (g_NOT_POSSIBLE : ∃ t, mg "NOT_POSSIBLE" = some (.int (-16) t)) : Kn P w K mg base "do_set_day" (L2.CX P w) 10 ["campaign", "numbers"] (spDeed K CC CD CR 2) f := by
  obtain ⟨⟨fd, F, b⟩, g⟩ := D
  obtain ⟨⟨_, G_need, b_need⟩, g_need, k_need⟩ := D_need
  obtain ⟨⟨_, G_need_day, b_need_day⟩, g_need_day, k_need_day⟩ := D_need_day
  obtain ⟨⟨_, G_are_fields, b_are_fields⟩, g_are_fields, k_are_fields⟩ := D_are_fields
  obtain ⟨⟨_, G_Day___init__, b_Day___init__⟩, m_Day___init__⟩ := D_Day___init__
  obtain ⟨_, g_OUT_OF_RANGE⟩ := g_OUT_OF_RANGE
  obtain ⟨_, g_NOT_POSSIBLE⟩ := g_NOT_POSSIBLE
  refine ⟨⟨fd, F.okX sc_do_set_day (fun vs H Q E h => ?_) (fun cdv A outer s H vs Q E hr h => ?_), b⟩, g, F.kp⟩
  · obtain ⟨_, _, _, _, _, rfl, _⟩ := h
    rfl
  · obtain ⟨a, b, l, s, ns, rfl, hc, hb, hn, hs, kt, kr⟩ := h
    refine ⟨_, (pss_cons (ps_asg (pv 1) (pg_lst (by rfl) (pgs_cons (pg_name (i := 2) sc_do_set_day.nd rfl (Or.inl rfl)) (pgs_cons (pg_name (i := 3) sc_do_set_day.nd rfl (Or.inl rfl)) (pgs_cons (pg_name (i := 4) sc_do_set_day.nd rfl (Or.inl rfl)) (pgs_cons (pg_name (i := 5) sc_do_set_day.nd rfl (Or.inl rfl)) (pgs_cons (pg_name (i := 6) sc_do_set_day.nd rfl (Or.inl rfl)) pgs_nil))))))) (pss_cons (ps_expr (pe_call G_need_day (hr.mono (by decide)) rfl g_need_day k_need_day b_need_day .nil passX (pa_cons (pv 0) (pa_cons (pv 2) pa_nil)))) (pss_cons (ps_expr (pe_call G_need (hr.mono (by decide)) rfl g_need k_need b_need .nil passX (pa_cons (pe_call G_are_fields (hr.mono (by decide)) rfl g_are_fields k_are_fields b_are_fields .nil pass0 (pa_cons (pv 3) (pa_cons (pv 4) (pa_cons (pv 5) (pa_cons (pv 6) pa_nil))))) (pa_cons (pe_glob (v := .int (-22)) rfl g_OUT_OF_RANGE ⟨_, rfl⟩) pa_nil)))) (pss_cons (ps_expr (pe_call G_need (hr.mono (by decide)) rfl g_need k_need b_need .nil passX (pa_cons (pe_cmpR op_ge (pv 2) (pe_fld (pv 0) rfl) (nomark _)) (pa_cons (pe_glob (v := .int (-16)) rfl g_NOT_POSSIBLE ⟨_, rfl⟩) pa_nil)))) (pss_cons (ps_asg (pe_make g_M G_Day___init__ (hr.mono (by decide)) rfl g_Day b_Day___init__ .nil pass0 (pa_cons (pv 3) (pa_cons (pv 4) (pa_cons (pv 5) (pa_cons (pv 6) pa_nil))))) (pg_sub (pe_fld (pv 0) rfl) (pv 2) set_list)) (pss_one (ps_ret (pe_lst (pa_cons pe_int pa_nil))))))))), ?_⟩
    obtain ⟨c, rfl⟩ := hs.resolve_left (by decide)
    obtain ⟨j, x, y, z, u, rfl⟩ := len5 hn
    obtain ⟨dx, as, h1⟩ := hc.ex
    obtain ⟨ha, hl, hD, ok, ln, nx⟩ := id h1
    have hlen := hD.len
    have e : stepN (some c) 2 [j, x, y, z, u] = (if c.days.length ≤ j then (some c, [-2]) else if Kqk5.isDay x y z u = false then (some c, [-22]) else if j < c.next then (some c, [-16]) else (some { c with days := c.days.set j ⟨x, y, z, u⟩ }, [0])) := by
      show (let r := (if c.days.length ≤ j then (some c, Kqk5.Result.value (-2)) else if Kqk5.isDay x y z u = false then (some c, Kqk5.Result.value (-22)) else if j < c.next then (some c, Kqk5.Result.value (-16)) else (some { c with days := c.days.set j ⟨x, y, z, u⟩ }, Kqk5.Result.value 0)); (r.1, Kqk5Neutral.fields r.2)) = _
      split
      · rfl
      · split
        · rfl
        · split <;> rfl
    refine ⟨_, rfl, b, _, rfl, hb, rfl, _, _, rfl, _, _, rfl, _, _, rfl, _, _, rfl, _, _, rfl, rfl, ?_⟩
    refine ⟨_, rfl, _, rfl, a, l, _, j, rfl, hc, fun q0 => ?_, fun q0 => kr _ (e.trans (if_pos q0))⟩
    have q0' : j < c.days.length := q0
    rw [if_neg (by omega)] at e
    refine ⟨_, rfl, _, rfl, _, rfl, _, rfl, x, y, z, u, rfl, _, _, rfl, fun q => ?_, fun q => kr _ (by rw [e, if_pos q])⟩
    rw [if_neg (by rw [q]; decide)] at e
    refine ⟨_, rfl, _, rfl, a, CC, dx, _, _, rfl, ha, g_c.cl, g_c.nn, cF_n, _, _, rfl, rfl, _, _, rfl, fun q2 => ?_, fun q2 => kr _ ?_⟩
    · have q3 := of_decide_eq_true q2
      rw [if_neg (by omega)] at e
      rw [e] at kt
      refine ⟨_, rfl, _, rfl, _, rfl, _, rfl, fun v dy nv ny ne => ⟨v, dy, ⟨x, y, z, u⟩, rfl, upd_same, rfl, ?_⟩⟩
      rw [upd_upd]
      have s1 : Same H (upd (upd H dy (.own v)) v (.ins CD dy (dF ⟨x, y, z, u⟩))) := sameU2 (sameU (Same.refl H) ny) nv
      have nal := h1.nal
      refine ⟨_, rfl, a, CC, dx, _, _, rfl, s1 _ _ ha, g_c.cl, g_c.nd, cF_d, _, rfl, l, _, (j : Int), j, rfl, rfl, s1 _ _ hl, ?_, ?_⟩
      · unfold ixN
        rw [if_pos (by omega), if_pos (by rw [List.length_map, hlen]; omega), Int.toNat_natCast]
      refine ⟨(by show 1 ≤ sizeLine; decide), fun p hp => ?_⟩
      have npl : l ≠ p := nn_of upd_same hp
      have hp1 : (upd (upd H dy (.own v)) v (.ins CD dy (dF ⟨x, y, z, u⟩))) p = none := by rw [upd_ne npl.symm] at hp; exact hp
      have kp : Kept a l H (upd (upd (upd (upd H dy (.own v)) v (.ins CD dy (dF ⟨x, y, z, u⟩))) l (.lst ((as.map V.ref).set j (V.ref v)))) p (.lst [V.int 0])) := fun b o q n1 n2 => by
        rw [upd_ne (nn_of (s1 _ _ q) hp1), upd_ne n2]
        exact s1 _ _ q
      have npa : a ≠ p := nn_of (s1 _ _ ha) hp1
      have nvl : v ≠ l := (nn_of hl nv).symm
      have nvp : v ≠ p := nn_of upd_same hp1
      refine kt _ p l kp (s1.free hp1) upd_same ⟨⟨dx, ?_⟩, ⟨as.set j v, ?_, ?_⟩, ?_, ?_, ?_⟩ (.inl rfl)
      · rw [upd_ne npa, upd_ne nal]
        exact s1 _ _ ha
      · rw [upd_ne npl, upd_same, List.map_set]
      · refine DaysOf.set (hD.kept g_nCD ha hl kp) j ⟨dy, ?_⟩
        rw [upd_ne nvp, upd_ne nvl, upd_same]
      · intro d hd
        rcases List.mem_or_eq_of_mem_set hd with h | h
        · exact ok d h
        · cases h
          exact dayOk_of q
      · show (c.days.set j _).length ≤ 10
        rw [List.length_set]; exact ln
      · show c.next ≤ (c.days.set j _).length
        rw [List.length_set]; exact nx
    · have q3 := of_decide_eq_false q2
      rw [e, if_pos (by omega)]
abbrev s_do_remove_last_day : Stmt := top 61
theorem sc_do_remove_last_day : FnScope ["campaign", "numbers"] ["campaign", "numbers"] (defScope s_do_remove_last_day) := ⟨rfl, rfl, rfl, by decide +kernel, rfl, by decide +kernel, by decide +kernel⟩
theorem ok_do_remove_last_day {f f_need : Addr} (D : Dn K mg "do_remove_last_day" s_do_remove_last_day ["campaign", "numbers"] f) (D_need : Kn P w K mg base "need" (L2.CX P w) 3 ["holds", "code"] (spNeed CR) f_need) (g_c : TCamp K CC) (g_nCD : CC ≠ CD) (g_len : mg "len" = none) (g_NOTHING_TO_REMOVE : ∃ t, mg "NOTHING_TO_REMOVE" = some (.int (-6) t)) : Kn P w K mg base "do_remove_last_day" (L2.CX P w) 10 ["campaign", "numbers"] (spDeed K CC CD CR 3) f := by
  obtain ⟨⟨fd, F, b⟩, g⟩ := D
  obtain ⟨⟨_, G_need, b_need⟩, g_need, k_need⟩ := D_need
  obtain ⟨_, g_NOTHING_TO_REMOVE⟩ := g_NOTHING_TO_REMOVE
  refine ⟨⟨fd, F.okX sc_do_remove_last_day (fun vs H Q E h => ?_) (fun cdv A outer s H vs Q E hr h => ?_), b⟩, g, F.kp⟩
  · obtain ⟨_, _, _, _, _, rfl, _⟩ := h
    rfl
  · obtain ⟨a, b, l, s, ns, rfl, hc, hb, hn, hs, kt, kr⟩ := h
    refine ⟨_, (pss_cons (ps_expr (pe_call G_need (hr.mono (by decide)) rfl g_need k_need b_need .nil passX (pa_cons (pe_cmpR op_lt (pe_fld (pv 0) rfl) (pe_callB call_len_seq (by rfl) g_len PySem.boot_len (pa_cons (pe_fld (pv 0) rfl) pa_nil)) (nomark _)) (pa_cons (pe_glob (v := .int (-6)) rfl g_NOTHING_TO_REMOVE ⟨_, rfl⟩) pa_nil)))) (pss_cons (ps_expr (pe_bm0 PySem.F.plainAttrs_list PySem.F.slot_list_pop PySem.F.type_list_pop mt_pop (pe_fld (pv 0) rfl))) (pss_one (ps_ret (pe_lst (pa_cons (pe_callB call_len_seq (by rfl) g_len PySem.boot_len (pa_cons (pe_fld (pv 0) rfl) pa_nil)) pa_nil)))))), ?_⟩
    obtain ⟨c, rfl⟩ := hs.resolve_left (by decide)
    cases len0 hn
    obtain ⟨dx, as, h1⟩ := hc.ex
    obtain ⟨ha, hl, hD, ok, ln, nx⟩ := id h1
    have hlen := hD.len
    have e : stepN (some c) 3 [] = (if c.days.length ≤ c.next then (some c, [-6]) else (some { c with days := c.days.dropLast }, [((c.days.length - 1 : Nat) : Int)])) := by
      show (let r := (if c.days.length ≤ c.next then (some c, Kqk5.Result.value (-6)) else (some { c with days := c.days.dropLast }, Kqk5.Result.value ((c.days.length - 1 : Nat) : Int))); (r.1, Kqk5Neutral.fields r.2)) = _
      split <;> rfl
    refine ⟨_, rfl, a, CC, dx, _, _, rfl, ha, g_c.cl, g_c.nn, cF_n, _, rfl, a, CC, dx, _, _, rfl, ha, g_c.cl, g_c.nd, cF_d, l, _, rfl, .inl (SqL.of hl), _, _, rfl, rfl, _, _, rfl, fun q2 => ?_, fun q2 => kr _ ?_⟩
    · have q3 := of_decide_eq_true q2
      rw [List.length_map, hlen] at q3
      rw [if_neg (by omega)] at e
      rw [e] at kt
      have hlt : as.length - 1 < as.length := by omega
      have nal := h1.nal
      refine ⟨_, rfl, a, CC, dx, _, _, rfl, ha, g_c.cl, g_c.nd, cF_d, .inl ⟨rfl, _, SqL.of hl⟩, l, _, .ref as[as.length - 1], rfl, rfl, hl, ?_, ?_⟩
      · rw [List.length_map, List.getElem?_map, List.getElem?_eq_getElem hlt]; rfl
      refine ⟨_, rfl, a, CC, dx, _, _, rfl, (by rw [upd_ne nal]; exact ha), g_c.cl, g_c.nd, cF_d, l, _, rfl, .inl (SqL.of upd_same), (by show 1 ≤ sizeLine; decide), fun p hp => ?_⟩
      have npl : l ≠ p := nn_of upd_same hp
      have hp1 : H p = none := by rw [upd_ne npl.symm] at hp; exact hp
      have kp : Kept a l H (upd (upd H l (.lst (as.map V.ref).dropLast)) p (.lst [V.int (((as.map V.ref).dropLast.length : Nat) : Int)])) := fun b o q n1 n2 => by
        rw [upd_ne (nn_of q hp1), upd_ne n2]
        exact q
      have npa : a ≠ p := nn_of ha hp1
      refine kt _ p l kp hp1 ?_ ⟨⟨dx, ?_⟩, ⟨as.dropLast, ?_, ?_⟩, ?_, ?_, ?_⟩ (.inl rfl)
      · rw [upd_same]
        simp [hlen]
      · rw [upd_ne npa, upd_ne nal]
        exact ha
      · rw [upd_ne npl, upd_same, List.map_dropLast]
      · exact (hD.kept g_nCD ha hl kp).pop
      · exact fun d hd => ok d (List.dropLast_subset _ hd)
      · show c.days.dropLast.length ≤ 10
        rw [List.length_dropLast]; omega
      · show c.next ≤ c.days.dropLast.length
        rw [List.length_dropLast]; omega
    · have q3 := of_decide_eq_false q2
      rw [List.length_map, hlen] at q3
      rw [e, if_pos (by omega)]
abbrev s_do_get_day : Stmt := top 62
theorem sc_do_get_day : FnScope ["campaign", "numbers"] ["campaign", "numbers"] (defScope s_do_get_day) := ⟨rfl, rfl, rfl, by decide +kernel, rfl, by decide +kernel, by decide +kernel⟩
theorem ok_do_get_day {f f_need_day f_fields_of : Addr} (D : Dn K mg "do_get_day" s_do_get_day ["campaign", "numbers"] f) (D_need_day : Kn P w K mg base "need_day" (L2.CX P w) 4 ["campaign", "number"] (spNeedDay CC CD CR) f_need_day) (D_fields_of : Kn P w K mg base "fields_of" CX0 1 ["day"] (spFieldsOf CD) f_fields_of) (g_c : TCamp K CC) : Kn P w K mg base "do_get_day" (L2.CX P w) 10 ["campaign", "numbers"] (spDeed K CC CD CR 4) f := by
  obtain ⟨⟨fd, F, b⟩, g⟩ := D
  obtain ⟨⟨_, G_need_day, b_need_day⟩, g_need_day, k_need_day⟩ := D_need_day
  obtain ⟨⟨_, G_fields_of, b_fields_of⟩, g_fields_of, k_fields_of⟩ := D_fields_of
  refine ⟨⟨fd, F.okX sc_do_get_day (fun vs H Q E h => ?_) (fun cdv A outer s H vs Q E hr h => ?_), b⟩, g, F.kp⟩
  · obtain ⟨_, _, _, _, _, rfl, _⟩ := h
    rfl
  · obtain ⟨a, b, l, s, ns, rfl, hc, hb, hn, hs, kt, kr⟩ := h
    refine ⟨_, (pss_cons (ps_expr (pe_call G_need_day (hr.mono (by decide)) rfl g_need_day k_need_day b_need_day .nil passX (pa_cons (pv 0) (pa_cons (pe_ix ix_list (pv 1) pe_int (fun _ _ => rfl)) pa_nil)))) (pss_one (ps_ret (pe_call G_fields_of (hr.mono (by decide)) rfl g_fields_of k_fields_of b_fields_of .nil pass0 (pa_cons (pe_ix ix_list (pe_fld (pv 0) rfl) (pe_ix ix_list (pv 1) pe_int (fun _ _ => rfl)) (fun _ _ => rfl)) pa_nil))))), ?_⟩
    obtain ⟨c, rfl⟩ := hs.resolve_left (by decide)
    obtain ⟨x, rfl⟩ := len1 hn
    obtain ⟨dx, as, h1⟩ := hc.ex
    obtain ⟨ha, hl, hD, ok, ln, nx⟩ := id h1
    have hlen := hD.len
    have e : stepN (some c) 4 [x] = (some c, match c.days[x]? with | none => [-2] | some d => [(d.gain : Int), (d.numerator : Int), (d.denominator : Int), (d.cost : Int)]) := by
      show (some c, Kqk5Neutral.fields (match c.days[x]? with | none => .value (-2) | some d => .values d.gain [(d.numerator : Int), (d.denominator : Int), (d.cost : Int)])) = _
      cases c.days[x]? <;> rfl
    refine ⟨_, rfl, _, rfl, b, _, _, _, rfl, rfl, hb, nv0, a, l, _, x, rfl, hc, fun q => ?_, fun q => kr _ (by rw [e, get_none (show c.days.length ≤ x from q)])⟩
    have q' : x < c.days.length := q
    obtain ⟨v, hv, hda⟩ := hD.here (i := x) (d := c.days[x]) (by simp [q'])
    have hg : c.days[x]? = some c.days[x] := by simp [q']
    refine ⟨_, rfl, a, CC, dx, _, _, rfl, ha, g_c.cl, g_c.nd, cF_d, _, rfl, b, _, _, _, rfl, rfl, hb, nv0, l, _, _, _, rfl, rfl, SqL.of hl, at_ref hv, ?_⟩
    refine ⟨v, c.days[x], rfl, hda, fun p hp => ?_⟩
    rw [e, hg] at kt
    exact kt.same hc (Same.refl H) hp
abbrev s_do_value : Stmt := top 63
theorem sc_do_value : FnScope ["campaign", "numbers"] ["campaign", "numbers"] (defScope s_do_value) := ⟨rfl, rfl, rfl, by decide +kernel, rfl, by decide +kernel, by decide +kernel⟩
theorem ok_do_value {f f_Campaign_remaining f_value_of f_told_fraction : Addr} (D : Dn K mg "do_value" s_do_value ["campaign", "numbers"] f) (D_Campaign_remaining : Km P w K mg base CC "remaining" 1 ["self"] (spRemaining K CC CD) f_Campaign_remaining) (D_value_of : Kn P w K mg base "value_of" CX0 6 ["days"] (spList K CD Kqk5.value) f_value_of) (D_told_fraction : Kn P w K mg base "told_fraction" CX0 1 ["fraction"] (spToldF K) f_told_fraction) (g_c : TCamp K CC) : Kn P w K mg base "do_value" (L2.CX P w) 10 ["campaign", "numbers"] (spDeed K CC CD CR 5) f := by
  obtain ⟨⟨fd, F, b⟩, g⟩ := D
  obtain ⟨⟨_, G_Campaign_remaining, b_Campaign_remaining⟩, m_Campaign_remaining⟩ := D_Campaign_remaining
  obtain ⟨⟨_, G_value_of, b_value_of⟩, g_value_of, k_value_of⟩ := D_value_of
  obtain ⟨⟨_, G_told_fraction, b_told_fraction⟩, g_told_fraction, k_told_fraction⟩ := D_told_fraction
  refine ⟨⟨fd, F.okX sc_do_value (fun vs H Q E h => ?_) (fun cdv A outer s H vs Q E hr h => ?_), b⟩, g, F.kp⟩
  · obtain ⟨_, _, _, _, _, rfl, _⟩ := h
    rfl
  · obtain ⟨a, b, l, s, ns, rfl, hc, hb, hn, hs, kt, kr⟩ := h
    refine ⟨_, (pss_one (ps_ret (pe_call G_told_fraction (hr.mono (by decide)) rfl g_told_fraction k_told_fraction b_told_fraction .nil pass0 (pa_cons (pe_call G_value_of (hr.mono (by decide)) rfl g_value_of k_value_of b_value_of .nil pass0 (pa_cons (pe_meth0 (pv 0) g_c.cl m_Campaign_remaining G_Campaign_remaining (hr.mono (by decide)) b_Campaign_remaining .nil pass0) pa_nil)) pa_nil)))), ?_⟩
    obtain ⟨c, rfl⟩ := hs.resolve_left (by decide)
    cases len0 hn
    obtain ⟨dx, as, h1⟩ := hc.ex
    obtain ⟨ha, hl, hD, ok, ln, nx⟩ := id h1
    have hlen := hD.len
    have e : stepN (some c) 5 [] = (some c, [0, (Kqk5.value (c.days.drop c.next)).num, ((Kqk5.value (c.days.drop c.next)).den : Int)]) := rfl
    rw [e] at kt
    refine ⟨_, rfl, a, dx, _, rfl, ha, (cF_no (by decide +kernel) (by decide +kernel) (by decide +kernel) (by decide +kernel) (by decide +kernel)), a, l, _, rfl, hc, fun H1 p1 s1 t1 => ⟨p1, _, rfl, t1, fun H2 p2 s2 t2 => ⟨p2, _, rfl, t2, fun p hp => kt.same hc (s1.trans s2) hp⟩⟩⟩
abbrev s_do_value_from : Stmt := top 64
theorem sc_do_value_from : FnScope ["campaign", "numbers"] ["campaign", "numbers"] (defScope s_do_value_from) := ⟨rfl, rfl, rfl, by decide +kernel, rfl, by decide +kernel, by decide +kernel⟩
theorem ok_do_value_from {f f_need f_value_of f_told_fraction : Addr} (D : Dn K mg "do_value_from" s_do_value_from ["campaign", "numbers"] f) (D_need : Kn P w K mg base "need" (L2.CX P w) 3 ["holds", "code"] (spNeed CR) f_need) (D_value_of : Kn P w K mg base "value_of" CX0 6 ["days"] (spList K CD Kqk5.value) f_value_of) (D_told_fraction : Kn P w K mg base "told_fraction" CX0 1 ["fraction"] (spToldF K) f_told_fraction) (g_c : TCamp K CC) (g_len : mg "len" = none) (g_NO_DAY : ∃ t, mg "NO_DAY" = some (.int (-2) t)) : Kn P w K mg base "do_value_from" (L2.CX P w) 10 ["campaign", "numbers"] (spDeed K CC CD CR 6) f := by
  obtain ⟨⟨fd, F, b⟩, g⟩ := D
  obtain ⟨⟨_, G_need, b_need⟩, g_need, k_need⟩ := D_need
  obtain ⟨⟨_, G_value_of, b_value_of⟩, g_value_of, k_value_of⟩ := D_value_of
  obtain ⟨⟨_, G_told_fraction, b_told_fraction⟩, g_told_fraction, k_told_fraction⟩ := D_told_fraction
  obtain ⟨_, g_NO_DAY⟩ := g_NO_DAY
  refine ⟨⟨fd, F.okX sc_do_value_from (fun vs H Q E h => ?_) (fun cdv A outer s H vs Q E hr h => ?_), b⟩, g, F.kp⟩
  · obtain ⟨_, _, _, _, _, rfl, _⟩ := h
    rfl
  · obtain ⟨a, b, l, s, ns, rfl, hc, hb, hn, hs, kt, kr⟩ := h
    refine ⟨_, (pss_cons (ps_expr (pe_call G_need (hr.mono (by decide)) rfl g_need k_need b_need .nil passX (pa_cons (pe_cmpR op_le (pe_ix ix_list (pv 1) pe_int (fun _ _ => rfl)) (pe_callB call_len_seq (by rfl) g_len PySem.boot_len (pa_cons (pe_fld (pv 0) rfl) pa_nil)) (nomark _)) (pa_cons (pe_glob (v := .int (-2)) rfl g_NO_DAY ⟨_, rfl⟩) pa_nil)))) (pss_one (ps_ret (pe_call G_told_fraction (hr.mono (by decide)) rfl g_told_fraction k_told_fraction b_told_fraction .nil pass0 (pa_cons (pe_call G_value_of (hr.mono (by decide)) rfl g_value_of k_value_of b_value_of .nil pass0 (pa_cons (pe_slice sl_list (pe_fld (pv 0) rfl) (po_some (pe_ix ix_list (pv 1) pe_int (fun _ _ => rfl))) po_none) pa_nil)) pa_nil))))), ?_⟩
    obtain ⟨c, rfl⟩ := hs.resolve_left (by decide)
    obtain ⟨x, rfl⟩ := len1 hn
    obtain ⟨dx, as, h1⟩ := hc.ex
    obtain ⟨ha, hl, hD, ok, ln, nx⟩ := id h1
    have hlen := hD.len
    have e : stepN (some c) 6 [x] = (if c.days.length < x then (some c, [-2]) else (some c, [0, (Kqk5.value (c.days.drop x)).num, ((Kqk5.value (c.days.drop x)).den : Int)])) := by
      show (some c, Kqk5Neutral.fields (if c.days.length < x then .value (-2) else Kqk5.fraction (Kqk5.value (c.days.drop x)))) = _
      split <;> rfl
    refine ⟨_, rfl, b, _, _, _, rfl, rfl, hb, nv0, _, rfl, a, CC, dx, _, _, rfl, ha, g_c.cl, g_c.nd, cF_d, l, _, rfl, .inl (SqL.of hl), _, _, rfl, rfl, _, _, rfl, fun q2 => ?_, fun q2 => kr _ ?_⟩
    · have q3 := of_decide_eq_true q2
      rw [List.length_map, hlen] at q3
      rw [if_neg (by omega)] at e
      rw [e] at kt
      refine ⟨_, rfl, a, CC, dx, _, _, rfl, ha, g_c.cl, g_c.nd, cF_d, _, rfl, b, _, _, _, rfl, rfl, hb, nv0, _, rfl, l, _, rfl, SqL.of hl, fun p0 h0 => ?_⟩
      exact ⟨p0, _, rfl, newFrom hD ok ln x h0, fun H2 p2 s2 t2 => ⟨p2, _, rfl, t2, fun p hp => kt.same hc ((sameU (Same.refl H) h0).trans s2) hp⟩⟩
    · have q3 := of_decide_eq_false q2
      rw [List.length_map, hlen] at q3
      rw [e, if_pos (by omega)]
abbrev s_do_plan_value : Stmt := top 65
theorem sc_do_plan_value : FnScope ["campaign", "numbers"] ["campaign", "numbers"] (defScope s_do_plan_value) := ⟨rfl, rfl, rfl, by decide +kernel, rfl, by decide +kernel, by decide +kernel⟩
theorem ok_do_plan_value {f f_first_remaining f_plan_value f_told_fraction : Addr} (D : Dn K mg "do_plan_value" s_do_plan_value ["campaign", "numbers"] f) (D_first_remaining : Kn P w K mg base "first_remaining" (L2.CX P w) 4 ["campaign", "count"] (spFirst K CC CD CR) f_first_remaining) (D_plan_value : Kn P w K mg base "plan_value" CX0 6 ["days"] (spList K CD planAll) f_plan_value) (D_told_fraction : Kn P w K mg base "told_fraction" CX0 1 ["fraction"] (spToldF K) f_told_fraction) (g_c : TCamp K CC) : Kn P w K mg base "do_plan_value" (L2.CX P w) 10 ["campaign", "numbers"] (spDeed K CC CD CR 7) f := by
  obtain ⟨⟨fd, F, b⟩, g⟩ := D
  obtain ⟨⟨_, G_first_remaining, b_first_remaining⟩, g_first_remaining, k_first_remaining⟩ := D_first_remaining
  obtain ⟨⟨_, G_plan_value, b_plan_value⟩, g_plan_value, k_plan_value⟩ := D_plan_value
  obtain ⟨⟨_, G_told_fraction, b_told_fraction⟩, g_told_fraction, k_told_fraction⟩ := D_told_fraction
  refine ⟨⟨fd, F.okX sc_do_plan_value (fun vs H Q E h => ?_) (fun cdv A outer s H vs Q E hr h => ?_), b⟩, g, F.kp⟩
  · obtain ⟨_, _, _, _, _, rfl, _⟩ := h
    rfl
  · obtain ⟨a, b, l, s, ns, rfl, hc, hb, hn, hs, kt, kr⟩ := h
    refine ⟨_, (pss_one (ps_ret (pe_call G_told_fraction (hr.mono (by decide)) rfl g_told_fraction k_told_fraction b_told_fraction .nil pass0 (pa_cons (pe_call G_plan_value (hr.mono (by decide)) rfl g_plan_value k_plan_value b_plan_value .nil pass0 (pa_cons (pe_call G_first_remaining (hr.mono (by decide)) rfl g_first_remaining k_first_remaining b_first_remaining .nil passX (pa_cons (pv 0) (pa_cons (pe_ix ix_list (pv 1) pe_int (fun _ _ => rfl)) pa_nil))) pa_nil)) pa_nil)))), ?_⟩
    obtain ⟨c, rfl⟩ := hs.resolve_left (by decide)
    obtain ⟨x, rfl⟩ := len1 hn
    obtain ⟨dx, as, h1⟩ := hc.ex
    obtain ⟨ha, hl, hD, ok, ln, nx⟩ := id h1
    have hlen := hD.len
    have e : stepN (some c) 7 [x] = (if (c.days.drop c.next).length < x then (some c, [-2]) else (some c, [0, (Kqk5.planValue x (c.days.drop c.next)).num, ((Kqk5.planValue x (c.days.drop c.next)).den : Int)])) := by
      show (some c, Kqk5Neutral.fields (if (c.days.drop c.next).length < x then .value (-2) else Kqk5.fraction (Kqk5.planValue x (c.days.drop c.next)))) = _
      split <;> rfl
    refine ⟨_, rfl, _, rfl, b, _, _, _, rfl, rfl, hb, nv0, a, l, _, x, rfl, hc, fun q H1 p1 s1 t1 => ?_, fun q => kr _ (e.trans (if_pos q))⟩
    have q' : x ≤ (c.days.drop c.next).length := q
    rw [if_neg (by omega)] at e
    rw [e] at kt
    refine ⟨p1, _, rfl, t1, fun H2 p2 s2 t2 => ⟨p2, _, rfl, t2, fun p hp => ?_⟩⟩
    have z := kt.same hc (s1.trans s2) hp
    rw [← plan_take] at z
    exact z
abbrev s_do_best_count : Stmt := top 66
theorem sc_do_best_count : FnScope ["campaign", "numbers"] ["campaign", "numbers"] (defScope s_do_best_count) := ⟨rfl, rfl, rfl, by decide +kernel, rfl, by decide +kernel, by decide +kernel⟩
theorem ok_do_best_count {f f_Campaign_remaining f_best_count : Addr} (D : Dn K mg "do_best_count" s_do_best_count ["campaign", "numbers"] f) (D_Campaign_remaining : Km P w K mg base CC "remaining" 1 ["self"] (spRemaining K CC CD) f_Campaign_remaining) (D_best_count : Kn P w K mg base "best_count" CX0 7 ["days"] (spCount K CD (fun ds => .int ((Kqk5.bestCount ds : Nat) : Int))) f_best_count) (g_c : TCamp K CC) : Kn P w K mg base "do_best_count" (L2.CX P w) 10 ["campaign", "numbers"] (spDeed K CC CD CR 8) f := by
  obtain ⟨⟨fd, F, b⟩, g⟩ := D
  obtain ⟨⟨_, G_Campaign_remaining, b_Campaign_remaining⟩, m_Campaign_remaining⟩ := D_Campaign_remaining
  obtain ⟨⟨_, G_best_count, b_best_count⟩, g_best_count, k_best_count⟩ := D_best_count
  refine ⟨⟨fd, F.okX sc_do_best_count (fun vs H Q E h => ?_) (fun cdv A outer s H vs Q E hr h => ?_), b⟩, g, F.kp⟩
  · obtain ⟨_, _, _, _, _, rfl, _⟩ := h
    rfl
  · obtain ⟨a, b, l, s, ns, rfl, hc, hb, hn, hs, kt, kr⟩ := h
    refine ⟨_, (pss_one (ps_ret (pe_lst (pa_cons (pe_call G_best_count (hr.mono (by decide)) rfl g_best_count k_best_count b_best_count .nil pass0 (pa_cons (pe_meth0 (pv 0) g_c.cl m_Campaign_remaining G_Campaign_remaining (hr.mono (by decide)) b_Campaign_remaining .nil pass0) pa_nil)) pa_nil)))), ?_⟩
    obtain ⟨c, rfl⟩ := hs.resolve_left (by decide)
    cases len0 hn
    obtain ⟨dx, as, h1⟩ := hc.ex
    obtain ⟨ha, hl, hD, ok, ln, nx⟩ := id h1
    have hlen := hD.len
    have e : stepN (some c) 8 [] = (some c, [((Kqk5.bestCount (c.days.drop c.next) : Nat) : Int)]) := rfl
    rw [e] at kt
    refine ⟨_, rfl, a, dx, _, rfl, ha, (cF_no (by decide +kernel) (by decide +kernel) (by decide +kernel) (by decide +kernel) (by decide +kernel)), a, l, _, rfl, hc, fun H1 p1 s1 t1 => ⟨p1, _, rfl, t1, fun H2 s2 => ⟨(by show 1 ≤ sizeLine; decide), fun p hp => kt.same hc (s1.trans s2) hp⟩⟩⟩
abbrev s_do_lookahead_count : Stmt := top 67
theorem sc_do_lookahead_count : FnScope ["campaign", "numbers"] ["campaign", "numbers"] (defScope s_do_lookahead_count) := ⟨rfl, rfl, rfl, by decide +kernel, rfl, by decide +kernel, by decide +kernel⟩
theorem ok_do_lookahead_count {f f_Campaign_remaining f_lookahead_count : Addr} (D : Dn K mg "do_lookahead_count" s_do_lookahead_count ["campaign", "numbers"] f) (D_Campaign_remaining : Km P w K mg base CC "remaining" 1 ["self"] (spRemaining K CC CD) f_Campaign_remaining) (D_lookahead_count : Kn P w K mg base "lookahead_count" CX0 8 ["days"] (spCount K CD (fun ds => .int ((Kqk5.lookaheadCount ds : Nat) : Int))) f_lookahead_count) (g_c : TCamp K CC) : Kn P w K mg base "do_lookahead_count" (L2.CX P w) 10 ["campaign", "numbers"] (spDeed K CC CD CR 9) f := by
  obtain ⟨⟨fd, F, b⟩, g⟩ := D
  obtain ⟨⟨_, G_Campaign_remaining, b_Campaign_remaining⟩, m_Campaign_remaining⟩ := D_Campaign_remaining
  obtain ⟨⟨_, G_lookahead_count, b_lookahead_count⟩, g_lookahead_count, k_lookahead_count⟩ := D_lookahead_count
  refine ⟨⟨fd, F.okX sc_do_lookahead_count (fun vs H Q E h => ?_) (fun cdv A outer s H vs Q E hr h => ?_), b⟩, g, F.kp⟩
  · obtain ⟨_, _, _, _, _, rfl, _⟩ := h
    rfl
  · obtain ⟨a, b, l, s, ns, rfl, hc, hb, hn, hs, kt, kr⟩ := h
    refine ⟨_, (pss_one (ps_ret (pe_lst (pa_cons (pe_call G_lookahead_count (hr.mono (by decide)) rfl g_lookahead_count k_lookahead_count b_lookahead_count .nil pass0 (pa_cons (pe_meth0 (pv 0) g_c.cl m_Campaign_remaining G_Campaign_remaining (hr.mono (by decide)) b_Campaign_remaining .nil pass0) pa_nil)) pa_nil)))), ?_⟩
    obtain ⟨c, rfl⟩ := hs.resolve_left (by decide)
    cases len0 hn
    obtain ⟨dx, as, h1⟩ := hc.ex
    obtain ⟨ha, hl, hD, ok, ln, nx⟩ := id h1
    have hlen := hD.len
    have e : stepN (some c) 9 [] = (some c, [((Kqk5.lookaheadCount (c.days.drop c.next) : Nat) : Int)]) := rfl
    rw [e] at kt
    refine ⟨_, rfl, a, dx, _, rfl, ha, (cF_no (by decide +kernel) (by decide +kernel) (by decide +kernel) (by decide +kernel) (by decide +kernel)), a, l, _, rfl, hc, fun H1 p1 s1 t1 => ⟨p1, _, rfl, t1, fun H2 s2 => ⟨(by show 1 ≤ sizeLine; decide), fun p hp => kt.same hc (s1.trans s2) hp⟩⟩⟩
abbrev s_do_single_day_value : Stmt := top 68
theorem sc_do_single_day_value : FnScope ["campaign", "numbers"] ["campaign", "numbers"] (defScope s_do_single_day_value) := ⟨rfl, rfl, rfl, by decide +kernel, rfl, by decide +kernel, by decide +kernel⟩
theorem ok_do_single_day_value {f f_need_day f_single_day_value f_told_fraction : Addr} (D : Dn K mg "do_single_day_value" s_do_single_day_value ["campaign", "numbers"] f) (D_need_day : Kn P w K mg base "need_day" (L2.CX P w) 4 ["campaign", "number"] (spNeedDay CC CD CR) f_need_day) (D_single_day_value : Kn P w K mg base "single_day_value" CX0 6 ["day"] (spDay1 K CD Kqk5.singleDayValue) f_single_day_value) (D_told_fraction : Kn P w K mg base "told_fraction" CX0 1 ["fraction"] (spToldF K) f_told_fraction) (g_c : TCamp K CC) : Kn P w K mg base "do_single_day_value" (L2.CX P w) 10 ["campaign", "numbers"] (spDeed K CC CD CR 10) f := by
  obtain ⟨⟨fd, F, b⟩, g⟩ := D
  obtain ⟨⟨_, G_need_day, b_need_day⟩, g_need_day, k_need_day⟩ := D_need_day
  obtain ⟨⟨_, G_single_day_value, b_single_day_value⟩, g_single_day_value, k_single_day_value⟩ := D_single_day_value
  obtain ⟨⟨_, G_told_fraction, b_told_fraction⟩, g_told_fraction, k_told_fraction⟩ := D_told_fraction
  refine ⟨⟨fd, F.okX sc_do_single_day_value (fun vs H Q E h => ?_) (fun cdv A outer s H vs Q E hr h => ?_), b⟩, g, F.kp⟩
  · obtain ⟨_, _, _, _, _, rfl, _⟩ := h
    rfl
  · obtain ⟨a, b, l, s, ns, rfl, hc, hb, hn, hs, kt, kr⟩ := h
    refine ⟨_, (pss_cons (ps_expr (pe_call G_need_day (hr.mono (by decide)) rfl g_need_day k_need_day b_need_day .nil passX (pa_cons (pv 0) (pa_cons (pe_ix ix_list (pv 1) pe_int (fun _ _ => rfl)) pa_nil)))) (pss_one (ps_ret (pe_call G_told_fraction (hr.mono (by decide)) rfl g_told_fraction k_told_fraction b_told_fraction .nil pass0 (pa_cons (pe_call G_single_day_value (hr.mono (by decide)) rfl g_single_day_value k_single_day_value b_single_day_value .nil pass0 (pa_cons (pe_ix ix_list (pe_fld (pv 0) rfl) (pe_ix ix_list (pv 1) pe_int (fun _ _ => rfl)) (fun _ _ => rfl)) pa_nil)) pa_nil))))), ?_⟩
    obtain ⟨c, rfl⟩ := hs.resolve_left (by decide)
    obtain ⟨x, rfl⟩ := len1 hn
    obtain ⟨dx, as, h1⟩ := hc.ex
    obtain ⟨ha, hl, hD, ok, ln, nx⟩ := id h1
    have hlen := hD.len
    have e : stepN (some c) 10 [x] = (some c, match c.days[x]? with | none => [-2] | some d => [0, (Kqk5.singleDayValue d).num, ((Kqk5.singleDayValue d).den : Int)]) := by
      show (some c, Kqk5Neutral.fields (match c.days[x]? with | none => .value (-2) | some d => Kqk5.fraction (Kqk5.singleDayValue d))) = _
      cases c.days[x]? <;> rfl
    refine ⟨_, rfl, _, rfl, b, _, _, _, rfl, rfl, hb, nv0, a, l, _, x, rfl, hc, fun q => ?_, fun q => kr _ (by rw [e, get_none (show c.days.length ≤ x from q)])⟩
    have q' : x < c.days.length := q
    obtain ⟨v, hv, hda⟩ := hD.here (i := x) (d := c.days[x]) (by simp [q'])
    have hg : c.days[x]? = some c.days[x] := by simp [q']
    refine ⟨_, rfl, a, CC, dx, _, _, rfl, ha, g_c.cl, g_c.nd, cF_d, _, rfl, b, _, _, _, rfl, rfl, hb, nv0, l, _, _, _, rfl, rfl, SqL.of hl, at_ref hv, ?_⟩
    refine ⟨v, c.days[x], rfl, hda, ok.at hg, fun H2 p2 s2 t2 => ⟨p2, _, rfl, t2, fun p hp => ?_⟩⟩
    rw [e, hg] at kt
    exact kt.same hc s2 hp
abbrev s_do_is_monotone : Stmt := top 69
theorem sc_do_is_monotone : FnScope ["campaign", "numbers"] ["campaign", "numbers"] (defScope s_do_is_monotone) := ⟨rfl, rfl, rfl, by decide +kernel, rfl, by decide +kernel, by decide +kernel⟩
theorem ok_do_is_monotone {f f_Campaign_remaining f_is_monotone f_told_truth : Addr} (D : Dn K mg "do_is_monotone" s_do_is_monotone ["campaign", "numbers"] f) (D_Campaign_remaining : Km P w K mg base CC "remaining" 1 ["self"] (spRemaining K CC CD) f_Campaign_remaining) (D_is_monotone : Kn P w K mg base "is_monotone" CX0 9 ["days"] (spCount K CD (fun ds => .bl (Kqk5.isMonotone ds))) f_is_monotone) (D_told_truth : Kn P w K mg base "told_truth" CX0 1 ["holds"] (spToldT) f_told_truth) (g_c : TCamp K CC) : Kn P w K mg base "do_is_monotone" (L2.CX P w) 10 ["campaign", "numbers"] (spDeed K CC CD CR 11) f := by
  obtain ⟨⟨fd, F, b⟩, g⟩ := D
  obtain ⟨⟨_, G_Campaign_remaining, b_Campaign_remaining⟩, m_Campaign_remaining⟩ := D_Campaign_remaining
  obtain ⟨⟨_, G_is_monotone, b_is_monotone⟩, g_is_monotone, k_is_monotone⟩ := D_is_monotone
  obtain ⟨⟨_, G_told_truth, b_told_truth⟩, g_told_truth, k_told_truth⟩ := D_told_truth
  refine ⟨⟨fd, F.okX sc_do_is_monotone (fun vs H Q E h => ?_) (fun cdv A outer s H vs Q E hr h => ?_), b⟩, g, F.kp⟩
  · obtain ⟨_, _, _, _, _, rfl, _⟩ := h
    rfl
  · obtain ⟨a, b, l, s, ns, rfl, hc, hb, hn, hs, kt, kr⟩ := h
    refine ⟨_, (pss_one (ps_ret (pe_call G_told_truth (hr.mono (by decide)) rfl g_told_truth k_told_truth b_told_truth .nil pass0 (pa_cons (pe_call G_is_monotone (hr.mono (by decide)) rfl g_is_monotone k_is_monotone b_is_monotone .nil pass0 (pa_cons (pe_meth0 (pv 0) g_c.cl m_Campaign_remaining G_Campaign_remaining (hr.mono (by decide)) b_Campaign_remaining .nil pass0) pa_nil)) pa_nil)))), ?_⟩
    obtain ⟨c, rfl⟩ := hs.resolve_left (by decide)
    cases len0 hn
    obtain ⟨dx, as, h1⟩ := hc.ex
    obtain ⟨ha, hl, hD, ok, ln, nx⟩ := id h1
    have hlen := hD.len
    have e : stepN (some c) 11 [] = (some c, [if Kqk5.isMonotone (c.days.drop c.next) = true then 1 else 0]) := rfl
    rw [e] at kt
    refine ⟨_, rfl, a, dx, _, rfl, ha, (cF_no (by decide +kernel) (by decide +kernel) (by decide +kernel) (by decide +kernel) (by decide +kernel)), a, l, _, rfl, hc, fun H1 p1 s1 t1 => ⟨p1, _, rfl, t1, fun H2 s2 => ⟨_, rfl, fun p hp => kt.same hc (s1.trans s2) hp⟩⟩⟩
abbrev s_do_quiet_probability : Stmt := top 70
theorem sc_do_quiet_probability : FnScope ["campaign", "numbers"] ["campaign", "numbers"] (defScope s_do_quiet_probability) := ⟨rfl, rfl, rfl, by decide +kernel, rfl, by decide +kernel, by decide +kernel⟩
theorem ok_do_quiet_probability {f f_first_remaining f_quiet_chance_of f_told_fraction : Addr} (D : Dn K mg "do_quiet_probability" s_do_quiet_probability ["campaign", "numbers"] f) (D_first_remaining : Kn P w K mg base "first_remaining" (L2.CX P w) 4 ["campaign", "count"] (spFirst K CC CD CR) f_first_remaining) (D_quiet_chance_of : Kn P w K mg base "quiet_chance_of" CX0 4 ["days"] (spList K CD (fun ds => ds.foldl (fun p d => p * Kqk5.quietProbability d) 1)) f_quiet_chance_of) (D_told_fraction : Kn P w K mg base "told_fraction" CX0 1 ["fraction"] (spToldF K) f_told_fraction) (g_c : TCamp K CC) : Kn P w K mg base "do_quiet_probability" (L2.CX P w) 10 ["campaign", "numbers"] (spDeed K CC CD CR 12) f := by
  obtain ⟨⟨fd, F, b⟩, g⟩ := D
  obtain ⟨⟨_, G_first_remaining, b_first_remaining⟩, g_first_remaining, k_first_remaining⟩ := D_first_remaining
  obtain ⟨⟨_, G_quiet_chance_of, b_quiet_chance_of⟩, g_quiet_chance_of, k_quiet_chance_of⟩ := D_quiet_chance_of
  obtain ⟨⟨_, G_told_fraction, b_told_fraction⟩, g_told_fraction, k_told_fraction⟩ := D_told_fraction
  refine ⟨⟨fd, F.okX sc_do_quiet_probability (fun vs H Q E h => ?_) (fun cdv A outer s H vs Q E hr h => ?_), b⟩, g, F.kp⟩
  · obtain ⟨_, _, _, _, _, rfl, _⟩ := h
    rfl
  · obtain ⟨a, b, l, s, ns, rfl, hc, hb, hn, hs, kt, kr⟩ := h
    refine ⟨_, (pss_one (ps_ret (pe_call G_told_fraction (hr.mono (by decide)) rfl g_told_fraction k_told_fraction b_told_fraction .nil pass0 (pa_cons (pe_call G_quiet_chance_of (hr.mono (by decide)) rfl g_quiet_chance_of k_quiet_chance_of b_quiet_chance_of .nil pass0 (pa_cons (pe_call G_first_remaining (hr.mono (by decide)) rfl g_first_remaining k_first_remaining b_first_remaining .nil passX (pa_cons (pv 0) (pa_cons (pe_ix ix_list (pv 1) pe_int (fun _ _ => rfl)) pa_nil))) pa_nil)) pa_nil)))), ?_⟩
    obtain ⟨c, rfl⟩ := hs.resolve_left (by decide)
    obtain ⟨x, rfl⟩ := len1 hn
    obtain ⟨dx, as, h1⟩ := hc.ex
    obtain ⟨ha, hl, hD, ok, ln, nx⟩ := id h1
    have hlen := hD.len
    have e : stepN (some c) 12 [x] = (if (c.days.drop c.next).length < x then (some c, [-2]) else (some c, [0, ((((c.days.drop c.next).take x).foldl (fun p d => p * Kqk5.quietProbability d) 1)).num, (((((c.days.drop c.next).take x).foldl (fun p d => p * Kqk5.quietProbability d) 1)).den : Int)])) := by
      show (some c, Kqk5Neutral.fields (if (c.days.drop c.next).length < x then .value (-2) else Kqk5.fraction ((((c.days.drop c.next).take x).foldl (fun p d => p * Kqk5.quietProbability d) 1)))) = _
      split <;> rfl
    refine ⟨_, rfl, _, rfl, b, _, _, _, rfl, rfl, hb, nv0, a, l, _, x, rfl, hc, fun q H1 p1 s1 t1 => ?_, fun q => kr _ (e.trans (if_pos q))⟩
    have q' : x ≤ (c.days.drop c.next).length := q
    rw [if_neg (by omega)] at e
    rw [e] at kt
    refine ⟨p1, _, rfl, t1, fun H2 p2 s2 t2 => ⟨p2, _, rfl, t2, fun p hp => ?_⟩⟩
    have z := kt.same hc (s1.trans s2) hp
    exact z
end
end Hd

namespace Hd
open PySem PySem.Spec PyProof.Rows L2
open Kqk5 (Day Campaign)
theorem free_upd {H : Hp} {a p : Addr} {o : HO} (h : (upd H a o) p = none) : H p = none := by
  by_cases c : p = a
  · rw [c, upd_same] at h; cases h
  · rw [upd_ne c] at h; exact h
/-- the campaign's own fields change, then new things are laid -/
theorem Tells.fields {CC CD : Addr} (n : CC ≠ CD) {H H' : Hp} {a l dx : Addr} {c c' : Campaign} {as : List Addr} {out : List Int} {Q : VK} (h1 : Camp1 CC CD H a l c dx as) (ed : c'.days = c.days) (nx : c'.next ≤ c.days.length)
    (t : Tells CC CD H a l (some c', out) Q) (e : Same (upd H a (.ins CC dx (cF true l (c'.next : Int) c'.total (c'.status : Int)))) H') {p : Addr} (hp : H' p = none) : Q (.ref p) (upd H' p (.lst (out.map V.int))) := by
  have s := sameU (o := .lst (out.map V.int)) e hp
  have kp : Kept a l H (upd H' p (.lst (out.map V.int))) := fun b o q n1 _ => s _ _ ((upd_ne n1).trans q)
  refine t _ p l kp (free_upd (e.free hp)) upd_same ⟨⟨dx, s _ _ upd_same⟩, ⟨as, s _ _ ((upd_ne h1.nal.symm).trans h1.hl), ?_⟩, ?_, ?_, ?_⟩ (.inl rfl)
  · show DaysOf CD _ as c'.days
    rw [ed]; exact h1.hD.kept n h1.ha h1.hl kp
  · show AllOk c'.days
    rw [ed]; exact h1.ok
  · show c'.days.length ≤ 10
    rw [ed]; exact h1.ln
  · show c'.next ≤ c'.days.length
    rw [ed]; exact nx
theorem int_eq_nat (n : Nat) : decide (V.int (n : Int) = V.int 0) = decide (n = 0) := by
  by_cases h : n = 0
  · rw [h]; rfl
  · rw [decide_eq_false h, decide_eq_false (fun z => h (by injection z with z; omega))]
theorem max_is {ds : List Day} {x : Nat} {d : Day} {r : List Day} (ok : DayOk d) (e : ds.drop x = d :: r) : (∃ k : Nat, greatest d r = .int (k : Int) ∧ Kqk5.maxEventCostOf ds x = some k) ∨ (greatest d r = .non ∧ Kqk5.maxEventCostOf ds x = none) := by
  unfold greatest
  by_cases c : d.numerator = 0
  · rw [if_pos c, most_zero d r c ds x e]
    exact .inl ⟨10000, rfl, rfl⟩
  · rw [if_neg c, most_is d r ok c ds x e]
    by_cases c2 : 0 < (Kqk5.quietProbability d * ((d.gain : Rat) + Kqk5.value r)).num
    · rw [if_pos c2, if_pos c2]
      refine .inl ⟨_, ?_, rfl⟩
      rw [Int.toNat_of_nonneg (most_nonneg _ _ c2 (event_pos ok c))]
    · rw [if_neg c2, if_neg c2]
      exact .inr ⟨rfl, rfl⟩
section
variable {P : Program} {w : World} {K : PySem.W.Frag} {mg : Str → Option Value} {base : Heap} {CD CC CR fR zA oA : Addr}
abbrev s_do_continue_campaign : Stmt := top 71
theorem sc_do_continue_campaign : FnScope ["campaign", "numbers", "sample", "occurred"] ["campaign", "numbers"] (defScope s_do_continue_campaign) := ⟨rfl, rfl, rfl, by decide +kernel, rfl, by decide +kernel, by decide +kernel⟩
theorem ok_do_continue_campaign {f f_need f_Campaign_go_on f_told_truth : Addr} (D : Dn K mg "do_continue_campaign" s_do_continue_campaign ["campaign", "numbers"] f) (D_need : Kn P w K mg base "need" (L2.CX P w) 3 ["holds", "code"] (spNeed CR) f_need) (D_Campaign_go_on : Km P w K mg base CC "go_on" 2 ["self", "sample"] (spGoOn CC CD) f_Campaign_go_on) (D_told_truth : Kn P w K mg base "told_truth" CX0 1 ["holds"] (spToldT) f_told_truth) (g_c : TCamp K CC) (g_nCD : CC ≠ CD) (g_len : mg "len" = none) (g_OUT_OF_RANGE : ∃ t, mg "OUT_OF_RANGE" = some (.int (-22) t)) (g_NOT_POSSIBLE : ∃ t, mg "NOT_POSSIBLE" = some (.int (-16) t)) (g_NONE_LEFT : ∃ t, mg "NONE_LEFT" = some (.int (-33) t)) (g_MOST_SAMPLE : ∃ t, mg "MOST_SAMPLE" = some (.int 999 t)) (g_RUNNING : ∃ t, mg "RUNNING" = some (.int 0 t)) : Kn P w K mg base "do_continue_campaign" (L2.CX P w) 10 ["campaign", "numbers"] (spDeed K CC CD CR 13) f := by
  obtain ⟨⟨fd, F, b⟩, g⟩ := D
  obtain ⟨⟨_, G_need, b_need⟩, g_need, k_need⟩ := D_need
  obtain ⟨⟨_, G_Campaign_go_on, b_Campaign_go_on⟩, m_Campaign_go_on⟩ := D_Campaign_go_on
  obtain ⟨⟨_, G_told_truth, b_told_truth⟩, g_told_truth, k_told_truth⟩ := D_told_truth
  obtain ⟨_, g_OUT_OF_RANGE⟩ := g_OUT_OF_RANGE
  obtain ⟨_, g_NOT_POSSIBLE⟩ := g_NOT_POSSIBLE
  obtain ⟨_, g_NONE_LEFT⟩ := g_NONE_LEFT
  obtain ⟨_, g_MOST_SAMPLE⟩ := g_MOST_SAMPLE
  obtain ⟨_, g_RUNNING⟩ := g_RUNNING
  refine ⟨⟨fd, F.okX sc_do_continue_campaign (fun vs H Q E h => ?_) (fun cdv A outer s H vs Q E hr h => ?_), b⟩, g, F.kp⟩
  · obtain ⟨_, _, _, _, _, rfl, _⟩ := h
    rfl
  · obtain ⟨a, b, l, s, ns, rfl, hc, hb, hn, hs, kt, kr⟩ := h
    refine ⟨_, (pss_cons (ps_set (i := 2) sc_do_continue_campaign.nd rfl (Or.inl rfl) (pe_ix ix_list (pv 1) pe_int (fun _ _ => rfl))) (pss_cons (ps_expr (pe_call G_need (hr.mono (by decide)) rfl g_need k_need b_need .nil passX (pa_cons (pe_cmpR op_le (pv 2) (pe_glob (v := .int (999)) rfl g_MOST_SAMPLE ⟨_, rfl⟩) (nomark _)) (pa_cons (pe_glob (v := .int (-22)) rfl g_OUT_OF_RANGE ⟨_, rfl⟩) pa_nil)))) (pss_cons (ps_expr (pe_call G_need (hr.mono (by decide)) rfl g_need k_need b_need .nil passX (pa_cons (pe_cmpR op_eq (pe_fld (pv 0) rfl) (pe_glob (v := .int (0)) rfl g_RUNNING ⟨_, rfl⟩) (nomark _)) (pa_cons (pe_glob (v := .int (-16)) rfl g_NOT_POSSIBLE ⟨_, rfl⟩) pa_nil)))) (pss_cons (ps_expr (pe_call G_need (hr.mono (by decide)) rfl g_need k_need b_need .nil passX (pa_cons (pe_cmpR op_lt (pe_fld (pv 0) rfl) (pe_callB call_len_seq (by rfl) g_len PySem.boot_len (pa_cons (pe_fld (pv 0) rfl) pa_nil)) (nomark _)) (pa_cons (pe_glob (v := .int (-33)) rfl g_NONE_LEFT ⟨_, rfl⟩) pa_nil)))) (pss_cons (ps_set (i := 3) sc_do_continue_campaign.nd rfl (Or.inl rfl) (pe_meth (pv 0) g_c.cl m_Campaign_go_on G_Campaign_go_on (hr.mono (by decide)) b_Campaign_go_on .nil pass0 (pa_cons (pv 2) pa_nil))) (pss_one (ps_ret (pe_op op_cat (pe_call G_told_truth (hr.mono (by decide)) rfl g_told_truth k_told_truth b_told_truth .nil pass0 (pa_cons (pv 3) pa_nil)) (pe_lst (pa_cons (pe_fld (pv 0) rfl) pa_nil)))))))))), ?_⟩
    obtain ⟨c, rfl⟩ := hs.resolve_left (by decide)
    obtain ⟨x, rfl⟩ := len1 hn
    obtain ⟨dx, as, h1⟩ := hc.ex
    obtain ⟨ha, hl, hD, ok, ln, nx⟩ := id h1
    have hlen := hD.len
    have e : stepN (some c) 13 [x] = (if 999 < x then (some c, [-22]) else if c.status ≠ 0 then (some c, [-16]) else match c.days[c.next]? with
        | none => (some c, [-33])
        | some d => if x * d.denominator < 1000 * d.numerator then (some { c with next := c.next + 1, total := c.total - (d.cost : Int), status := 1 }, [1, c.total - (d.cost : Int)]) else (some { c with next := c.next + 1, total := c.total + (d.gain : Int) }, [0, c.total + (d.gain : Int)])) := by
      show (let r := (if 999 < x then (some c, Kqk5.Result.value (-22)) else if c.status ≠ 0 then (some c, Kqk5.Result.value (-16)) else match c.days[c.next]? with
        | none => (some c, Kqk5.Result.value (-33))
        | some d => if x * d.denominator < 1000 * d.numerator then (some { c with next := c.next + 1, total := c.total - (d.cost : Int), status := 1 }, Kqk5.Result.values 1 [c.total - (d.cost : Int)]) else (some { c with next := c.next + 1, total := c.total + (d.gain : Int) }, Kqk5.Result.values 0 [c.total + (d.gain : Int)])); (r.1, Kqk5Neutral.fields r.2)) = _
      split
      · rfl
      · split
        · rfl
        · cases c.days[c.next]? with
          | none => rfl
          | some d => by_cases q : x * d.denominator < 1000 * d.numerator
                      · simp only [if_pos q]; rfl
                      · simp only [if_neg q]; rfl
    refine ⟨_, rfl, b, _, _, _, rfl, rfl, hb, nv0, _, rfl, _, _, rfl, rfl, _, _, rfl, fun q1 => ?_, fun q1 => kr _ (e.trans (if_pos (by have := of_decide_eq_false q1; omega)))⟩
    rw [if_neg (by have := of_decide_eq_true q1; omega)] at e
    refine ⟨_, rfl, a, CC, dx, _, _, rfl, ha, g_c.cl, g_c.ns, cF_s, rfl, _, _, rfl, fun q2 => ?_, fun q2 => ?_⟩
    case refine_2 =>
      rw [int_eq_nat] at q2
      exact kr _ (e.trans (if_pos (of_decide_eq_false q2)))
    rw [int_eq_nat] at q2
    have q2' := of_decide_eq_true q2
    rw [if_neg (fun z => z q2')] at e
    refine ⟨_, rfl, a, CC, dx, _, _, rfl, ha, g_c.cl, g_c.nn, cF_n, _, rfl, a, CC, dx, _, _, rfl, ha, g_c.cl, g_c.nd, cF_d, l, _, rfl, .inl (SqL.of hl), _, _, rfl, rfl, _, _, rfl, fun q3 => ?_, fun q3 => ?_⟩
    case refine_2 =>
      have q4 := of_decide_eq_false q3
      rw [List.length_map, hlen] at q4
      refine kr _ ?_
      rw [e, get_none (by omega)]
    have q4 := of_decide_eq_true q3
    rw [List.length_map, hlen] at q4
    have q5 : c.next < c.days.length := by omega
    obtain ⟨v, hv, hda⟩ := hD.here (i := c.next) (d := c.days[c.next]) (by simp [q5])
    have hg : c.days[c.next]? = some c.days[c.next] := by simp [q5]
    rw [hg] at e
    generalize c.days[c.next] = d at e hda hg
    have nal := h1.nal
    refine ⟨_, rfl, a, dx, _, rfl, ha, (cF_no (by decide +kernel) (by decide +kernel) (by decide +kernel) (by decide +kernel) (by decide +kernel)), _, rfl, a, dx, l, true, c.next, _, _, x, as, v, d, rfl, ha, hl, hv, hda, ok.at hg, g_nCD, fun q => ?_, fun q => ?_⟩
    · rw [e.trans (if_pos q)] at kt
      refine ⟨_, rfl, true, rfl, fun q1 h1' => ?_⟩
      have s1 := sameU (o := .lst [V.int (if true = true then 1 else 0)]) (Same.refl (upd H a (.ins CC dx (cF true l ((c.next + 1 : Nat) : Int) (c.total - (d.cost : Int)) 1)))) h1'
      refine ⟨_, rfl, a, CC, dx, _, _, rfl, s1 _ _ upd_same, g_c.cl, g_c.nt, cF_t, (by show 1 ≤ sizeLine; decide), fun q2 h2 => ⟨q1, q2, _, _, rfl, rfl, (upd_ne (nn_of upd_same h2)).trans upd_same, upd_same, (by show 2 ≤ sizeLine; decide), fun p hp => ?_⟩⟩
      exact Tells.fields (c' := { c with next := c.next + 1, total := c.total - (d.cost : Int), status := 1 }) g_nCD h1 rfl q5 kt (sameU s1 h2) hp
    · rw [e.trans (if_neg q)] at kt
      refine ⟨_, rfl, false, rfl, fun q1 h1' => ?_⟩
      have s1 := sameU (o := .lst [V.int (if false = true then 1 else 0)]) (Same.refl (upd H a (.ins CC dx (cF true l ((c.next + 1 : Nat) : Int) (c.total + (d.gain : Int)) (c.status : Int))))) h1'
      refine ⟨_, rfl, a, CC, dx, _, _, rfl, s1 _ _ upd_same, g_c.cl, g_c.nt, cF_t, (by show 1 ≤ sizeLine; decide), fun q2 h2 => ⟨q1, q2, _, _, rfl, rfl, (upd_ne (nn_of upd_same h2)).trans upd_same, upd_same, (by show 2 ≤ sizeLine; decide), fun p hp => ?_⟩⟩
      exact Tells.fields (c' := { c with next := c.next + 1, total := c.total + (d.gain : Int) }) g_nCD h1 rfl q5 kt (sameU s1 h2) hp
abbrev s_do_stop : Stmt := top 72
theorem sc_do_stop : FnScope ["campaign", "numbers"] ["campaign", "numbers"] (defScope s_do_stop) := ⟨rfl, rfl, rfl, by decide +kernel, rfl, by decide +kernel, by decide +kernel⟩
theorem ok_do_stop {f f_need : Addr} (D : Dn K mg "do_stop" s_do_stop ["campaign", "numbers"] f) (D_need : Kn P w K mg base "need" (L2.CX P w) 3 ["holds", "code"] (spNeed CR) f_need) (g_c : TCamp K CC) (g_nCD : CC ≠ CD) (g_NOT_POSSIBLE : ∃ t, mg "NOT_POSSIBLE" = some (.int (-16) t)) (g_RUNNING : ∃ t, mg "RUNNING" = some (.int 0 t)) (g_STOPPED : ∃ t, mg "STOPPED" = some (.int 2 t)) : Kn P w K mg base "do_stop" (L2.CX P w) 10 ["campaign", "numbers"] (spDeed K CC CD CR 14) f := by
  obtain ⟨⟨fd, F, b⟩, g⟩ := D
  obtain ⟨⟨_, G_need, b_need⟩, g_need, k_need⟩ := D_need
  obtain ⟨_, g_NOT_POSSIBLE⟩ := g_NOT_POSSIBLE
  obtain ⟨_, g_RUNNING⟩ := g_RUNNING
  obtain ⟨_, g_STOPPED⟩ := g_STOPPED
  refine ⟨⟨fd, F.okX sc_do_stop (fun vs H Q E h => ?_) (fun cdv A outer s H vs Q E hr h => ?_), b⟩, g, F.kp⟩
  · obtain ⟨_, _, _, _, _, rfl, _⟩ := h
    rfl
  · obtain ⟨a, b, l, s, ns, rfl, hc, hb, hn, hs, kt, kr⟩ := h
    refine ⟨_, (pss_cons (ps_expr (pe_call G_need (hr.mono (by decide)) rfl g_need k_need b_need .nil passX (pa_cons (pe_cmpR op_eq (pe_fld (pv 0) rfl) (pe_glob (v := .int (0)) rfl g_RUNNING ⟨_, rfl⟩) (nomark _)) (pa_cons (pe_glob (v := .int (-16)) rfl g_NOT_POSSIBLE ⟨_, rfl⟩) pa_nil)))) (pss_cons (ps_fld (pv 0) (pe_glob (v := .int (2)) rfl g_STOPPED ⟨_, rfl⟩) rfl) (pss_one (ps_ret (pe_lst (pa_cons pe_int (pa_cons (pe_fld (pv 0) rfl) pa_nil))))))), ?_⟩
    obtain ⟨c, rfl⟩ := hs.resolve_left (by decide)
    cases len0 hn
    obtain ⟨dx, as, h1⟩ := hc.ex
    obtain ⟨ha, hl, hD, ok, ln, nx⟩ := id h1
    have hlen := hD.len
    have e : stepN (some c) 14 [] = (if c.status ≠ 0 then (some c, [-16]) else (some { c with status := 2 }, [0, c.total])) := by
      show (let r := (if c.status ≠ 0 then (some c, Kqk5.Result.value (-16)) else (some { c with status := 2 }, Kqk5.Result.values 0 [c.total])); (r.1, Kqk5Neutral.fields r.2)) = _
      split <;> rfl
    refine ⟨_, rfl, a, CC, dx, _, _, rfl, ha, g_c.cl, g_c.ns, cF_s, rfl, _, _, rfl, fun q2 => ?_, fun q2 => ?_⟩
    case refine_2 =>
      rw [int_eq_nat] at q2
      exact kr _ (e.trans (if_pos (of_decide_eq_false q2)))
    rw [int_eq_nat] at q2
    have q2' := of_decide_eq_true q2
    rw [if_neg (fun z => z q2')] at e
    rw [e] at kt
    refine ⟨_, rfl, a, CC, dx, _, rfl, ha, g_c.cl, g_c.ns, pc_len, ?_⟩
    rw [pc_s]
    refine ⟨_, rfl, a, CC, dx, _, _, rfl, upd_same, g_c.cl, g_c.nt, cF_t, (by show 2 ≤ sizeLine; decide), fun p hp => ?_⟩
    exact Tells.fields (c' := { c with status := 2 }) g_nCD h1 rfl nx kt (Same.refl _) hp
abbrev s_do_restart : Stmt := top 73
theorem sc_do_restart : FnScope ["campaign", "numbers", "before"] ["campaign", "numbers"] (defScope s_do_restart) := ⟨rfl, rfl, rfl, by decide +kernel, rfl, by decide +kernel, by decide +kernel⟩
theorem ok_do_restart {f f_Campaign_begin_again : Addr} (D : Dn K mg "do_restart" s_do_restart ["campaign", "numbers"] f) (D_Campaign_begin_again : Km P w K mg base CC "begin_again" 1 ["self"] (spBegin CC) f_Campaign_begin_again) (g_c : TCamp K CC) (g_nCD : CC ≠ CD) : Kn P w K mg base "do_restart" (L2.CX P w) 10 ["campaign", "numbers"] (spDeed K CC CD CR 15) f := by
  obtain ⟨⟨fd, F, b⟩, g⟩ := D
  obtain ⟨⟨_, G_Campaign_begin_again, b_Campaign_begin_again⟩, m_Campaign_begin_again⟩ := D_Campaign_begin_again
  refine ⟨⟨fd, F.okX sc_do_restart (fun vs H Q E h => ?_) (fun cdv A outer s H vs Q E hr h => ?_), b⟩, g, F.kp⟩
  · obtain ⟨_, _, _, _, _, rfl, _⟩ := h
    rfl
  · obtain ⟨a, b, l, s, ns, rfl, hc, hb, hn, hs, kt, kr⟩ := h
    refine ⟨_, (pss_cons (ps_set (i := 2) sc_do_restart.nd rfl (Or.inl rfl) (pe_fld (pv 0) rfl)) (pss_cons (ps_expr (pe_meth0 (pv 0) g_c.cl m_Campaign_begin_again G_Campaign_begin_again (hr.mono (by decide)) b_Campaign_begin_again .nil pass0)) (pss_one (ps_ret (pe_lst (pa_cons (pv 2) pa_nil)))))), ?_⟩
    obtain ⟨c, rfl⟩ := hs.resolve_left (by decide)
    cases len0 hn
    obtain ⟨dx, as, h1⟩ := hc.ex
    obtain ⟨ha, hl, hD, ok, ln, nx⟩ := id h1
    have hlen := hD.len
    have e : stepN (some c) 15 [] = (some { c with next := 0, total := 0, status := 0 }, [(c.next : Int)]) := rfl
    rw [e] at kt
    refine ⟨_, rfl, a, CC, dx, _, _, rfl, ha, g_c.cl, g_c.nn, cF_n, _, rfl, a, dx, _, rfl, ha, (cF_no (by decide +kernel) (by decide +kernel) (by decide +kernel) (by decide +kernel) (by decide +kernel)), a, dx, l, true, _, _, _, rfl, ha, ?_⟩
    refine ⟨_, rfl, (by show 1 ≤ sizeLine; decide), fun p hp => ?_⟩
    exact Tells.fields (c' := { c with next := 0, total := 0, status := 0 }) g_nCD h1 rfl (Nat.zero_le _) kt (Same.refl _) hp
abbrev s_do_max_event_cost : Stmt := top 74
theorem sc_do_max_event_cost : FnScope ["campaign", "numbers", "found"] ["campaign", "numbers"] (defScope s_do_max_event_cost) := ⟨rfl, rfl, rfl, by decide +kernel, rfl, by decide +kernel, by decide +kernel⟩
theorem ok_do_max_event_cost {f f_need_day f_need f_greatest_cost : Addr} (D : Dn K mg "do_max_event_cost" s_do_max_event_cost ["campaign", "numbers"] f) (D_need_day : Kn P w K mg base "need_day" (L2.CX P w) 4 ["campaign", "number"] (spNeedDay CC CD CR) f_need_day) (D_need : Kn P w K mg base "need" (L2.CX P w) 3 ["holds", "code"] (spNeed CR) f_need) (D_greatest_cost : Kn P w K mg base "greatest_cost" CX0 7 ["days"] (spGreatest K CD) f_greatest_cost) (g_c : TCamp K CC) (g_NONE_LEFT : ∃ t, mg "NONE_LEFT" = some (.int (-33) t)) : Kn P w K mg base "do_max_event_cost" (L2.CX P w) 10 ["campaign", "numbers"] (spDeed K CC CD CR 16) f := by
  obtain ⟨⟨fd, F, b⟩, g⟩ := D
  obtain ⟨⟨_, G_need_day, b_need_day⟩, g_need_day, k_need_day⟩ := D_need_day
  obtain ⟨⟨_, G_need, b_need⟩, g_need, k_need⟩ := D_need
  obtain ⟨⟨_, G_greatest_cost, b_greatest_cost⟩, g_greatest_cost, k_greatest_cost⟩ := D_greatest_cost
  obtain ⟨_, g_NONE_LEFT⟩ := g_NONE_LEFT
  refine ⟨⟨fd, F.okX sc_do_max_event_cost (fun vs H Q E h => ?_) (fun cdv A outer s H vs Q E hr h => ?_), b⟩, g, F.kp⟩
  · obtain ⟨_, _, _, _, _, rfl, _⟩ := h
    rfl
  · obtain ⟨a, b, l, s, ns, rfl, hc, hb, hn, hs, kt, kr⟩ := h
    refine ⟨_, (pss_cons (ps_expr (pe_call G_need_day (hr.mono (by decide)) rfl g_need_day k_need_day b_need_day .nil passX (pa_cons (pv 0) (pa_cons (pe_ix ix_list (pv 1) pe_int (fun _ _ => rfl)) pa_nil)))) (pss_cons (ps_set (i := 2) sc_do_max_event_cost.nd rfl (Or.inl rfl) (pe_call G_greatest_cost (hr.mono (by decide)) rfl g_greatest_cost k_greatest_cost b_greatest_cost .nil pass0 (pa_cons (pe_slice sl_list (pe_fld (pv 0) rfl) (po_some (pe_ix ix_list (pv 1) pe_int (fun _ _ => rfl))) po_none) pa_nil))) (pss_cons (ps_expr (pe_call G_need (hr.mono (by decide)) rfl g_need k_need b_need .nil passX (pa_cons (pe_cmp (pc_notN (pv 2))) (pa_cons (pe_glob (v := .int (-33)) rfl g_NONE_LEFT ⟨_, rfl⟩) pa_nil)))) (pss_one (ps_ret (pe_lst (pa_cons (pv 2) pa_nil))))))), ?_⟩
    obtain ⟨c, rfl⟩ := hs.resolve_left (by decide)
    obtain ⟨x, rfl⟩ := len1 hn
    obtain ⟨dx, as, h1⟩ := hc.ex
    obtain ⟨ha, hl, hD, ok, ln, nx⟩ := id h1
    have hlen := hD.len
    have e : stepN (some c) 16 [x] = (some c, if c.days.length ≤ x then [-2] else match Kqk5.maxEventCostOf c.days x with | none => [-33] | some k => [(k : Int)]) := by
      show (some c, Kqk5Neutral.fields (if c.days.length ≤ x then .value (-2) else match Kqk5.maxEventCostOf c.days x with | none => .value (-33) | some k => .value (k : Int))) = _
      split
      · rfl
      · cases Kqk5.maxEventCostOf c.days x <;> rfl
    refine ⟨_, rfl, _, rfl, b, _, _, _, rfl, rfl, hb, nv0, a, l, _, x, rfl, hc, fun q => ?_, fun q => kr _ (by rw [e, if_pos (show c.days.length ≤ x from q)])⟩
    have q' : x < c.days.length := q
    have hg : c.days[x]? = some c.days[x] := by simp [q']
    rw [if_neg (by omega)] at e
    have ed := drop_at hg
    refine ⟨_, rfl, a, CC, dx, _, _, rfl, ha, g_c.cl, g_c.nd, cF_d, _, rfl, b, _, _, _, rfl, rfl, hb, nv0, _, rfl, l, _, rfl, SqL.of hl, fun p0 h0 => ?_⟩
    have hN := newFrom (K := K) hD ok ln x h0
    rw [ed] at hN
    refine ⟨p0, _, _, rfl, hN, fun H1 s1 => ?_⟩
    have s2 := (sameU (o := .lst (cutV (as.map V.ref) (some (x : Int)) none)) (Same.refl H) h0).trans s1
    rcases max_is (ok.at hg) ed with ⟨k, g1, g2⟩ | ⟨g1, g2⟩
    · rw [g1]
      rw [g2] at e
      rw [e] at kt
      refine ⟨_, rfl, _, _, rfl, fun _ => ?_, fun z => by cases z⟩
      exact ⟨_, rfl, (by show 1 ≤ sizeLine; decide), fun p hp => kt.same hc s2 hp⟩
    · rw [g1]
      rw [g2] at e
      exact ⟨_, rfl, _, _, rfl, (fun z => by cases z), fun _ => (kr _ e).same s2⟩
abbrev s_do_value_with_cost : Stmt := top 75
theorem sc_do_value_with_cost : FnScope ["campaign", "numbers", "at", "cost", "days"] ["campaign", "numbers"] (defScope s_do_value_with_cost) := ⟨rfl, rfl, rfl, by decide +kernel, rfl, by decide +kernel, by decide +kernel⟩
theorem ok_do_value_with_cost {f f_need_day f_need f_with_cost f_value_of f_told_fraction : Addr} (D : Dn K mg "do_value_with_cost" s_do_value_with_cost ["campaign", "numbers"] f) (D_need_day : Kn P w K mg base "need_day" (L2.CX P w) 4 ["campaign", "number"] (spNeedDay CC CD CR) f_need_day) (D_need : Kn P w K mg base "need" (L2.CX P w) 3 ["holds", "code"] (spNeed CR) f_need) (D_with_cost : Kn P w K mg base "with_cost" CX0 3 ["day", "cost"] (spWithCost CD) f_with_cost) (D_value_of : Kn P w K mg base "value_of" CX0 6 ["days"] (spList K CD Kqk5.value) f_value_of) (D_told_fraction : Kn P w K mg base "told_fraction" CX0 1 ["fraction"] (spToldF K) f_told_fraction) (g_c : TCamp K CC) (g_nCD : CC ≠ CD) (g_list : mg "list" = none) (g_OUT_OF_RANGE : ∃ t, mg "OUT_OF_RANGE" = some (.int (-22) t)) (g_MOST_COST : ∃ t, mg "MOST_COST" = some (.int 10000 t)) : Kn P w K mg base "do_value_with_cost" (L2.CX P w) 10 ["campaign", "numbers"] (spDeed K CC CD CR 17) f := by
  obtain ⟨⟨fd, F, b⟩, g⟩ := D
  obtain ⟨⟨_, G_need_day, b_need_day⟩, g_need_day, k_need_day⟩ := D_need_day
  obtain ⟨⟨_, G_need, b_need⟩, g_need, k_need⟩ := D_need
  obtain ⟨⟨_, G_with_cost, b_with_cost⟩, g_with_cost, k_with_cost⟩ := D_with_cost
  obtain ⟨⟨_, G_value_of, b_value_of⟩, g_value_of, k_value_of⟩ := D_value_of
  obtain ⟨⟨_, G_told_fraction, b_told_fraction⟩, g_told_fraction, k_told_fraction⟩ := D_told_fraction
  obtain ⟨_, g_OUT_OF_RANGE⟩ := g_OUT_OF_RANGE
  obtain ⟨_, g_MOST_COST⟩ := g_MOST_COST
  refine ⟨⟨fd, F.okX sc_do_value_with_cost (fun vs H Q E h => ?_) (fun cdv A outer s H vs Q E hr h => ?_), b⟩, g, F.kp⟩
  · obtain ⟨_, _, _, _, _, rfl, _⟩ := h
    rfl
  · obtain ⟨a, b, l, s, ns, rfl, hc, hb, hn, hs, kt, kr⟩ := h
    refine ⟨_, (pss_cons (ps_asg (pv 1) (pg_lst (by rfl) (pgs_cons (pg_name (i := 2) sc_do_value_with_cost.nd rfl (Or.inl rfl)) (pgs_cons (pg_name (i := 3) sc_do_value_with_cost.nd rfl (Or.inl rfl)) pgs_nil)))) (pss_cons (ps_expr (pe_call G_need_day (hr.mono (by decide)) rfl g_need_day k_need_day b_need_day .nil passX (pa_cons (pv 0) (pa_cons (pv 2) pa_nil)))) (pss_cons (ps_expr (pe_call G_need (hr.mono (by decide)) rfl g_need k_need b_need .nil passX (pa_cons (pe_cmpR op_le (pv 3) (pe_glob (v := .int (10000)) rfl g_MOST_COST ⟨_, rfl⟩) (nomark _)) (pa_cons (pe_glob (v := .int (-22)) rfl g_OUT_OF_RANGE ⟨_, rfl⟩) pa_nil)))) (pss_cons (ps_set (i := 4) sc_do_value_with_cost.nd rfl (Or.inl rfl) (pe_callTy call_list_of (by rfl) g_list (by decide +kernel) (pa_cons (pe_fld (pv 0) rfl) pa_nil))) (pss_cons (ps_asg (pe_call G_with_cost (hr.mono (by decide)) rfl g_with_cost k_with_cost b_with_cost .nil pass0 (pa_cons (pe_ix ix_list (pv 4) (pv 2) (fun _ _ => rfl)) (pa_cons (pv 3) pa_nil))) (pg_sub (pv 4) (pv 2) set_list)) (pss_one (ps_ret (pe_call G_told_fraction (hr.mono (by decide)) rfl g_told_fraction k_told_fraction b_told_fraction .nil pass0 (pa_cons (pe_call G_value_of (hr.mono (by decide)) rfl g_value_of k_value_of b_value_of .nil pass0 (pa_cons (pe_slice sl_list (pv 4) (po_some (pe_fld (pv 0) rfl)) po_none) pa_nil)) pa_nil))))))))), ?_⟩
    obtain ⟨c, rfl⟩ := hs.resolve_left (by decide)
    obtain ⟨x, y, rfl⟩ := len2 hn
    obtain ⟨dx, as, h1⟩ := hc.ex
    obtain ⟨ha, hl, hD, ok, ln, nx⟩ := id h1
    have hlen := hD.len
    have e : stepN (some c) 17 [x, y] = (some c, match c.days[x]? with | none => [-2] | some d => if 10000 < y then [-22] else [0, (Kqk5.value ((c.days.set x { d with cost := y }).drop c.next)).num, ((Kqk5.value ((c.days.set x { d with cost := y }).drop c.next)).den : Int)]) := by
      show (some c, Kqk5Neutral.fields (match c.days[x]? with | none => .value (-2) | some d => if 10000 < y then .value (-22) else Kqk5.fraction (Kqk5.value ((c.days.set x { d with cost := y }).drop c.next)))) = _
      cases c.days[x]? with
      | none => rfl
      | some d => by_cases q : 10000 < y
                  · simp only [if_pos q]; rfl
                  · simp only [if_neg q]; rfl
    refine ⟨_, rfl, b, _, rfl, hb, rfl, _, _, rfl, _, _, rfl, rfl, _, rfl, _, rfl, a, l, _, x, rfl, hc, fun q => ?_, fun q => kr _ (by rw [e, get_none (show c.days.length ≤ x from q)])⟩
    have q' : x < c.days.length := q
    obtain ⟨v, hv, hda⟩ := hD.here (i := x) (d := c.days[x]) (by simp [q'])
    have hg : c.days[x]? = some c.days[x] := by simp [q']
    rw [hg] at e
    have okd := ok.at hg
    generalize c.days[x] = d at e hda hg okd
    refine ⟨_, rfl, _, _, rfl, rfl, _, _, rfl, fun q1 => ?_, fun q1 => kr _ (by rw [e]; simp only [if_pos (show 10000 < y by have := of_decide_eq_false q1; omega)])⟩
    have q2 : y ≤ 10000 := by have := of_decide_eq_true q1; omega
    simp only [if_neg (show ¬ 10000 < y by omega)] at e
    rw [e] at kt
    refine ⟨_, rfl, a, CC, dx, _, _, rfl, ha, g_c.cl, g_c.nd, cF_d, l, _, rfl, .inl (SqL.of hl), fun m hm => ?_⟩
    have s1 := sameU (o := .lst (as.map V.ref)) (Same.refl H) hm
    refine ⟨_, rfl, _, rfl, m, _, _, _, rfl, rfl, SqL.of upd_same, at_ref hv, _, rfl, v, d, y, rfl, hda.same s1, fun H2 v2 s2 hd2 => ?_⟩
    have s12 := s1.trans s2
    have hm2 : H2 m = some (.lst (as.map V.ref)) := s2 _ _ upd_same
    refine ⟨_, rfl, _, rfl, m, _, (x : Int), x, rfl, rfl, hm2, ?_, ?_⟩
    · unfold ixN
      rw [if_pos (by omega), if_pos (by rw [List.length_map, hlen]; omega), Int.toNat_natCast]
    rw [show (as.map V.ref).set x (V.ref v2) = (as.set x v2).map V.ref from (List.map_set ..).symm]
    have s3 : Same H (upd H2 m (.lst ((as.set x v2).map V.ref))) := sameU2 s12 hm
    have nvm : v2 ≠ m := by
      obtain ⟨_, hd2⟩ := hd2
      exact kind_ne hd2 hm2 (by intro z; cases z)
    have hD3 : DaysOf CD (upd H2 m (.lst ((as.set x v2).map V.ref))) (as.set x v2) (c.days.set x { d with cost := y }) := by
      refine (hD.same s3).set x ?_
      obtain ⟨dy, hd2⟩ := hd2
      exact ⟨dy, (upd_ne nvm).trans hd2⟩
    have ok3 : AllOk (c.days.set x { d with cost := y }) := fun f hf => by
      rcases List.mem_or_eq_of_mem_set hf with h | h
      · exact ok f h
      · rw [h]; exact ⟨okd.gain, okd.den1, okd.den, okd.num, q2⟩
    refine ⟨_, rfl, _, rfl, a, CC, dx, _, _, rfl, s3 _ _ ha, g_c.cl, g_c.nn, cF_n, _, rfl, m, _, rfl, SqL.of upd_same, fun p0 h0 => ?_⟩
    refine ⟨p0, _, rfl, newFrom hD3 ok3 (by rw [List.length_set]; exact ln) c.next h0, fun H4 p4 s4 t4 => ⟨p4, _, rfl, t4, fun p hp => ?_⟩⟩
    exact kt.same hc ((s3.trans (sameU (Same.refl _) h0)).trans s4) hp
abbrev s_do_is_worthwhile : Stmt := top 76
theorem sc_do_is_worthwhile : FnScope ["campaign", "numbers"] ["campaign", "numbers"] (defScope s_do_is_worthwhile) := ⟨rfl, rfl, rfl, by decide +kernel, rfl, by decide +kernel, by decide +kernel⟩
theorem ok_do_is_worthwhile {f f_Campaign_remaining f_value_of f_is_positive f_told_truth : Addr} (D : Dn K mg "do_is_worthwhile" s_do_is_worthwhile ["campaign", "numbers"] f) (D_Campaign_remaining : Km P w K mg base CC "remaining" 1 ["self"] (spRemaining K CC CD) f_Campaign_remaining) (D_value_of : Kn P w K mg base "value_of" CX0 6 ["days"] (spList K CD Kqk5.value) f_value_of) (D_is_positive : Kn P w K mg base "is_positive" CX0 1 ["one"] (spPos K) f_is_positive) (D_told_truth : Kn P w K mg base "told_truth" CX0 1 ["holds"] (spToldT) f_told_truth) (g_c : TCamp K CC) : Kn P w K mg base "do_is_worthwhile" (L2.CX P w) 10 ["campaign", "numbers"] (spDeed K CC CD CR 18) f := by
  obtain ⟨⟨fd, F, b⟩, g⟩ := D
  obtain ⟨⟨_, G_Campaign_remaining, b_Campaign_remaining⟩, m_Campaign_remaining⟩ := D_Campaign_remaining
  obtain ⟨⟨_, G_value_of, b_value_of⟩, g_value_of, k_value_of⟩ := D_value_of
  obtain ⟨⟨_, G_is_positive, b_is_positive⟩, g_is_positive, k_is_positive⟩ := D_is_positive
  obtain ⟨⟨_, G_told_truth, b_told_truth⟩, g_told_truth, k_told_truth⟩ := D_told_truth
  refine ⟨⟨fd, F.okX sc_do_is_worthwhile (fun vs H Q E h => ?_) (fun cdv A outer s H vs Q E hr h => ?_), b⟩, g, F.kp⟩
  · obtain ⟨_, _, _, _, _, rfl, _⟩ := h
    rfl
  · obtain ⟨a, b, l, s, ns, rfl, hc, hb, hn, hs, kt, kr⟩ := h
    refine ⟨_, (pss_one (ps_ret (pe_call G_told_truth (hr.mono (by decide)) rfl g_told_truth k_told_truth b_told_truth .nil pass0 (pa_cons (pe_call G_is_positive (hr.mono (by decide)) rfl g_is_positive k_is_positive b_is_positive .nil pass0 (pa_cons (pe_call G_value_of (hr.mono (by decide)) rfl g_value_of k_value_of b_value_of .nil pass0 (pa_cons (pe_meth0 (pv 0) g_c.cl m_Campaign_remaining G_Campaign_remaining (hr.mono (by decide)) b_Campaign_remaining .nil pass0) pa_nil)) pa_nil)) pa_nil)))), ?_⟩
    obtain ⟨c, rfl⟩ := hs.resolve_left (by decide)
    cases len0 hn
    obtain ⟨dx, as, h1⟩ := hc.ex
    obtain ⟨ha, hl, hD, ok, ln, nx⟩ := id h1
    have hlen := hD.len
    have e : stepN (some c) 18 [] = (some c, [if decide (0 < Kqk5.value (c.days.drop c.next)) = true then 1 else 0]) := by
      show (some c, [if 0 < Kqk5.value (c.days.drop c.next) then 1 else 0]) = _
      by_cases q : 0 < Kqk5.value (c.days.drop c.next)
      · rw [if_pos q, decide_eq_true q]; rfl
      · rw [if_neg q, decide_eq_false q]; rfl
    rw [e] at kt
    refine ⟨_, rfl, a, dx, _, rfl, ha, (cF_no (by decide +kernel) (by decide +kernel) (by decide +kernel) (by decide +kernel) (by decide +kernel)), a, l, _, rfl, hc, fun H1 p1 s1 t1 => ⟨p1, _, rfl, t1, fun H2 p2 s2 t2 => ⟨p2, _, rfl, t2, _, rfl, fun p hp => kt.same hc (s1.trans s2) hp⟩⟩⟩
abbrev s_do_summary : Stmt := top 77
theorem sc_do_summary : FnScope ["campaign", "numbers"] ["campaign", "numbers"] (defScope s_do_summary) := ⟨rfl, rfl, rfl, by decide +kernel, rfl, by decide +kernel, by decide +kernel⟩
theorem ok_do_summary {f : Addr} (D : Dn K mg "do_summary" s_do_summary ["campaign", "numbers"] f) (g_c : TCamp K CC) (g_len : mg "len" = none) : Kn P w K mg base "do_summary" (L2.CX P w) 10 ["campaign", "numbers"] (spDeed K CC CD CR 19) f := by
  obtain ⟨⟨fd, F, b⟩, g⟩ := D
  refine ⟨⟨fd, F.okX sc_do_summary (fun vs H Q E h => ?_) (fun cdv A outer s H vs Q E hr h => ?_), b⟩, g, F.kp⟩
  · obtain ⟨_, _, _, _, _, rfl, _⟩ := h
    rfl
  · obtain ⟨a, b, l, s, ns, rfl, hc, hb, hn, hs, kt, kr⟩ := h
    refine ⟨_, (pss_one (ps_ret (pe_lst (pa_cons (pe_callB call_len_seq (by rfl) g_len PySem.boot_len (pa_cons (pe_fld (pv 0) rfl) pa_nil)) (pa_cons (pe_fld (pv 0) rfl) (pa_cons (pe_fld (pv 0) rfl) (pa_cons (pe_fld (pv 0) rfl) pa_nil))))))), ?_⟩
    obtain ⟨c, rfl⟩ := hs.resolve_left (by decide)
    cases len0 hn
    obtain ⟨dx, as, h1⟩ := hc.ex
    obtain ⟨ha, hl, hD, ok, ln, nx⟩ := id h1
    have hlen := hD.len
    have e : stepN (some c) 19 [] = (some c, [(c.days.length : Int), (c.next : Int), (c.status : Int), c.total]) := rfl
    rw [e] at kt
    refine ⟨_, rfl, a, CC, dx, _, _, rfl, ha, g_c.cl, g_c.nd, cF_d, l, _, rfl, .inl (SqL.of hl), _, rfl, a, CC, dx, _, _, rfl, ha, g_c.cl, g_c.nn, cF_n, _, rfl, a, CC, dx, _, _, rfl, ha, g_c.cl, g_c.ns, cF_s, _, rfl, a, CC, dx, _, _, rfl, ha, g_c.cl, g_c.nt, cF_t, (by show 4 ≤ sizeLine; decide), fun p hp => ?_⟩
    rw [List.length_map, hlen]
    exact kt.same hc (Same.refl H) hp
end
end Hd

namespace Hd
open PySem PySem.Spec PyProof.Rows L2
open Kqk5 (Day Campaign)
theorem step_none (i : Nat) (ns : List Nat) (hi : i < 20) (h0 : i ≠ 0) (hn : ns.length = Hd.sizes.getD i 0) : stepN none i ns = (none, [-11]) := by
  match i, hi, h0, hn with
  | 0, _, h0, _ => exact absurd rfl h0
  | 1, _, _, hn => obtain ⟨x, y, z, u, rfl⟩ := len4 hn; rfl
  | 2, _, _, hn => obtain ⟨j, x, y, z, u, rfl⟩ := len5 hn; rfl
  | 3, _, _, hn => cases len0 hn; rfl
  | 4, _, _, hn => obtain ⟨x, rfl⟩ := len1 hn; rfl
  | 5, _, _, hn => cases len0 hn; rfl
  | 6, _, _, hn => obtain ⟨x, rfl⟩ := len1 hn; rfl
  | 7, _, _, hn => obtain ⟨x, rfl⟩ := len1 hn; rfl
  | 8, _, _, hn => cases len0 hn; rfl
  | 9, _, _, hn => cases len0 hn; rfl
  | 10, _, _, hn => obtain ⟨x, rfl⟩ := len1 hn; rfl
  | 11, _, _, hn => cases len0 hn; rfl
  | 12, _, _, hn => obtain ⟨x, rfl⟩ := len1 hn; rfl
  | 13, _, _, hn => obtain ⟨x, rfl⟩ := len1 hn; rfl
  | 14, _, _, hn => cases len0 hn; rfl
  | 15, _, _, hn => cases len0 hn; rfl
  | 16, _, _, hn => obtain ⟨x, rfl⟩ := len1 hn; rfl
  | 17, _, _, hn => obtain ⟨x, y, rfl⟩ := len2 hn; rfl
  | 18, _, _, hn => cases len0 hn; rfl
  | 19, _, _, hn => cases len0 hn; rfl
  | n + 20, hi, _, _ => omega
theorem each_nn : ∀ (b : List (Int × Int)) (xs : List Int), PyInside.each b xs = true → xs.length ≤ b.length → (∀ r ∈ b, r.1 = 0) → ∀ x ∈ xs, 0 ≤ x
  | _, [], _, _, _ => fun x hx => absurd hx (by simp)
  | [], x :: xs, _, hl, _ => absurd hl (by simp)
  | (lo, hi) :: b, x :: xs, h, hl, hz => by
    have h' : (PyInside.within lo hi x && PyInside.each b xs) = true := h
    rw [Bool.and_eq_true] at h'
    unfold PyInside.within at h'
    rw [Bool.and_eq_true, decide_eq_true_eq, decide_eq_true_eq] at h'
    have h0 : lo = 0 := hz (lo, hi) List.mem_cons_self
    intro y hy
    rcases List.mem_cons.mp hy with e | e
    · rw [e]; omega
    · exact each_nn b xs h'.2 (by simpa using hl) (fun r hr => hz r (List.mem_cons_of_mem _ hr)) y e
theorem bound_is (q : Nat) (h : q < 20) : (PyKqk5.bound (q : Int)).1.length = Hd.sizes.getD q 0 ∧ ∀ r ∈ (PyKqk5.bound (q : Int)).1, r.1 = 0 := by
  have z : ∀ q : Fin 20, (PyKqk5.bound ((q.val : Nat) : Int)).1.length = Hd.sizes.getD q.val 0 ∧ (PyKqk5.bound ((q.val : Nat) : Int)).1.all (fun r => decide (r.1 = 0)) = true := by decide +kernel
  obtain ⟨z1, z2⟩ := z ⟨q, h⟩
  exact ⟨z1, fun r hr => of_decide_eq_true (List.all_eq_true.mp z2 r hr)⟩
theorem nats_of {xs : List Int} (h : ∀ x ∈ xs, 0 ≤ x) : ∃ ns : List Nat, xs = ns.map fun (n : Nat) => (n : Int) := by
  refine ⟨xs.map Int.toNat, ?_⟩
  rw [List.map_map]
  conv => lhs; rw [← List.map_id xs]
  refine List.map_congr_left fun x hx => ?_
  have := h x hx
  show x = ((x.toNat : Nat) : Int)
  omega
theorem sizes_len : Hd.sizes.length = 20 := rfl
theorem size_of {q n : Nat} (h : Hd.sizes[q]? = some n) : Hd.sizes.getD q 0 = n := by
  rw [List.getD_eq_getElem?_getD, h]; rfl
theorem cut_mid (xs : List V) {a b : Nat} (h1 : a ≤ b) (h2 : b ≤ xs.length) : cutV xs (some (a : Int)) (some (b : Int)) = (xs.drop a).take (b - a) := by
  unfold cutV
  rw [HT.sIx_nat, HT.sIx_nat, Nat.min_eq_left h2, Nat.min_eq_left (Nat.le_trans h1 h2)]
/-! ### one call -/
def spDone (K : PySem.W.Frag) (CC CD CR : Addr) : Sp := fun vs H Q E => ∃ (a b l : Addr) (s : Option Campaign) (i : Nat) (ns : List Nat), vs = [.ref a, .int (i : Int), .ref b] ∧ CampAt CC CD H a l s ∧ SqL K H b (numV ns) ∧ i < 20 ∧ ns.length = Hd.sizes.getD i 0 ∧
  Tells CC CD H a l (stepN s i ns) Q ∧ ∀ c : Int, stepN s i ns = (s, [c]) → Refuse CR H c E
def spAnswer (K : PySem.W.Frag) (CC CD : Addr) : Sp := fun vs H Q _ => ∃ (a b l : Addr) (s : Option Campaign) (i : Nat) (ns : List Nat), vs = [.ref a, .int (i : Int), .ref b] ∧ CampAt CC CD H a l s ∧ SqL K H b (numV ns) ∧ i < 20 ∧ ns.length = Hd.sizes.getD i 0 ∧
  Tells CC CD H a l (stepN s i ns) Q
def DeedsOk (P : Program) (w : World) (K : PySem.W.Frag) (mg : Str → Option Value) (base : Heap) (CC CD CR : Addr) (xs : List V) : Prop :=
  ∀ i, i < 20 → ∃ (f : Addr) (fd : FuncData), xs[i]? = some (.ref f) ∧ FnOk P w K mg base (L2.CX P w) 10 f fd ["campaign", "numbers"] (spDeed K CC CD CR i) ∧ Binds K fd ["campaign", "numbers"] [] ∧ PySem.W.keepIn K (.ref f) = true
def spAnswers (K : PySem.W.Frag) : Sp := fun vs H Q _ => ∃ (ca : Addr) (ns : List Int), vs = [.ref ca] ∧ SqL K H ca (ns.map V.int) ∧ PyKqk5.answers_asked ns = true ∧
  ∀ (H' : Hp) (p : Addr), H' p = some (.lst ((PyKqk5.answers ns).map V.int)) → Q (.ref p) H'
/-- one error of the class, told by its code -/
def tSuite (C : Addr) : Addr → Value → Option Addr → TS := fun a cls d => tRet (tLst (tCons (tByLow C a cls d (tVar 3)) tNil))
/-- in the midst of the calls -/
structure Mid (CC CD : Addr) (ns : List Int) (H H' : Hp) (a t l : Addr) (s : Option Campaign) (i : Nat) (told out : List Int) (f : Nat) : Prop where
  same : Same H H'
  na : H a = none
  nt : H t = none
  nl : H l = none
  tl : t ≠ l
  tt : H' t = some (.lst (told.map V.int))
  camp : CampAt CC CD H' a l s
  rest : Rest f s (ns.drop i) out
  sum : told ++ out = PyKqk5.answers ns
  le : i ≤ ns.length
theorem CampAt.put {CC CD : Addr} {H : Hp} {a l t : Addr} {s : Option Campaign} {xs ys : List V} (h : CampAt CC CD H a l s) (ht : H t = some (.lst xs)) (n : t ≠ l) : CampAt CC CD (upd H t (.lst ys)) a l s := by
  obtain ⟨⟨dx, h1⟩, ⟨as, h2, h3⟩, h4, h5, h6⟩ := h
  refine ⟨⟨dx, (upd_ne (kind_ne h1 ht (by intro z; cases z))).trans h1⟩, ⟨as, (upd_ne n.symm).trans h2, h3.len, fun i b d e1 e2 => ?_⟩, h4, h5, h6⟩
  obtain ⟨dy, e⟩ := h3.at_ i b d e1 e2
  exact ⟨dy, (upd_ne (kind_ne e ht (by intro z; cases z))).trans e⟩
theorem int_at {ns : List Int} {i : Nat} {p : Int} (h : ns[i]? = some p) : atI (ns.map V.int) (i : Int) = some (.int p) := atI_nat (by rw [List.getElem?_map, h]; rfl)
def left (n : Nat) (σ : L2.St) : Nat := n - (match σ[3]? with | some (some (V.int k)) => k.toNat | _ => 0)
section
variable {P : Program} {w : World} {K : PySem.W.Frag} {mg : Str → Option Value} {base : Heap} {CD CC CR fR zA oA sA dA : Addr} {dV : List V}
abbrev s_done : Stmt := top 82
theorem sc_done : FnScope ["campaign", "number", "numbers", "deed"] ["campaign", "number", "numbers"] (defScope s_done) := ⟨rfl, rfl, rfl, by decide +kernel, rfl, by decide +kernel, by decide +kernel⟩
theorem ok_done {f f_need : Addr} (D : Dn K mg "done" s_done ["campaign", "number", "numbers"] f) (D_need : Kn P w K mg base "need" (L2.CX P w) 3 ["holds", "code"] (spNeed CR) f_need) (g_c : TCamp K CC) (g_DEEDS : mg "DEEDS" = some (.ref dA)) (g_dt : KTup K dA dV) (g_dd : DeedsOk P w K mg base CC CD CR dV) (g_CREATE : ∃ t, mg "CREATE" = some (.int 0 t)) (g_NOT_CREATED : ∃ t, mg "NOT_CREATED" = some (.int (-11) t)) : Kn P w K mg base "done" (L2.CX P w) 11 ["campaign", "number", "numbers"] (spDone K CC CD CR) f := by
  obtain ⟨⟨fd, F, b⟩, g⟩ := D
  obtain ⟨⟨_, G_need, b_need⟩, g_need, k_need⟩ := D_need
  obtain ⟨_, g_CREATE⟩ := g_CREATE
  obtain ⟨_, g_NOT_CREATED⟩ := g_NOT_CREATED
  refine ⟨⟨fd, F.okX sc_done (fun vs H Q E h => ?_) (fun cdv A outer s H vs Q E hr h => ?_), b⟩, g, F.kp⟩
  · obtain ⟨_, _, _, _, _, _, rfl, _⟩ := h
    rfl
  · obtain ⟨a, b, l, s, i, ns, rfl, hc, hb, hi, hn, kt, kr⟩ := h
    obtain ⟨fdd, fdf, ed, Gd, bd, kd⟩ := g_dd i hi
    refine ⟨_, (pss_cons (ps_expr (pe_call G_need (hr.mono (by decide)) rfl g_need k_need b_need .nil passX (pa_cons (pe_or (pe_fld (pv 0) rfl) (pe_one (pe_cmpR op_eq (pv 1) (pe_glob (v := .int (0)) rfl g_CREATE ⟨_, rfl⟩) (nomark _)))) (pa_cons (pe_glob (v := .int (-11)) rfl g_NOT_CREATED ⟨_, rfl⟩) pa_nil)))) (pss_cons (ps_set (i := 3) sc_done.nd rfl (Or.inl rfl) (pe_ix ix_tup (pe_glob (v := .ref dA) rfl g_DEEDS rfl) (pv 1) (fun _ _ => rfl))) (pss_one (ps_ret (pe_callL (i := 3) Gd (hr.mono (by decide)) rfl (Or.inl rfl) kd bd .nil passX (pa_cons (pv 0) (pa_cons (pv 2) pa_nil))))))), ?_⟩
    obtain ⟨⟨dx, ha⟩, ⟨as, hl, hD⟩, ok, ln, nx⟩ := id hc
    cases s with
    | some c =>
      refine ⟨_, rfl, a, CC, dx, _, _, rfl, ha, g_c.cl, g_c.nc, cF_c, _, rfl, ?_⟩
      refine if_true_of rfl ⟨_, _, rfl, fun _ => ?_, fun z => by cases z⟩
      exact ⟨_, rfl, dA, dV, (i : Int), _, rfl, rfl, g_dt.sq, atI_nat ed, rfl, _, rfl, _, rfl, a, b, l, _, ns, rfl, hc, hb, hn, .inr ⟨c, rfl⟩, kt, kr⟩
    | none =>
      refine ⟨_, rfl, a, CC, dx, _, _, rfl, ha, g_c.cl, g_c.nc, cF_c, _, rfl, ?_⟩
      refine if_false_of rfl ⟨_, rfl, rfl, _, _, rfl, fun q => ?_, fun q => ?_⟩
      · rw [int_eq_nat] at q
        exact ⟨_, rfl, dA, dV, (i : Int), _, rfl, rfl, g_dt.sq, atI_nat ed, rfl, _, rfl, _, rfl, a, b, l, _, ns, rfl, hc, hb, hn, .inl (of_decide_eq_true q), kt, kr⟩
      · rw [int_eq_nat] at q
        exact kr _ (step_none i ns hi (of_decide_eq_false q) hn)
abbrev s_answer : Stmt := top 83
theorem sc_answer : FnScope ["campaign", "number", "numbers", "e"] ["campaign", "number", "numbers"] (defScope s_answer) := ⟨rfl, rfl, rfl, by decide +kernel, rfl, by decide +kernel, by decide +kernel⟩
theorem ok_answer {f f_done : Addr} (D : Dn K mg "answer" s_answer ["campaign", "number", "numbers"] f) (D_done : Kn P w K mg base "done" (L2.CX P w) 11 ["campaign", "number", "numbers"] (spDone K CC CD CR) f_done) (g_low : PySem.LowX.LowTxt K mg CR fR) : Kn P w K mg base "answer" CX0 12 ["campaign", "number", "numbers"] (spAnswer K CC CD) f := by
  obtain ⟨⟨fd, F, b⟩, g⟩ := D
  obtain ⟨⟨_, G_done, b_done⟩, g_done, k_done⟩ := D_done
  refine ⟨⟨fd, F.ok sc_answer (fun vs H Q E h => ?_) (fun cdv A outer s H vs Q E hr h => ?_), b⟩, g, F.kp⟩
  · obtain ⟨_, _, _, _, _, _, rfl, _⟩ := h
    rfl
  · obtain ⟨a, b, l, s, i, ns, rfl, hc, hb, hi, hn, kt⟩ := h
    refine ⟨_, (pss_one (ps_try_as (i := 3) (tb := fun W => tRet (tCallS (spDone K CC CD CR) (WE W) (tCons (tVar 0) (tCons (tVar 1) (tCons (tVar 2) tNil))))) (ts := tSuite CR) (Wout := fun _ _ _ _ => False) rfl rfl sc_answer.nd rfl rfl ⟨rfl, by decide, Or.inl g_low.gC⟩ takes0 (fun W pn xe tk _ => pss_one (ps_ret (by exact (pe_callS G_done (hr.mono (by decide)) rfl g_done k_done b_done (fun σ => passAt tk σ) (by exact (pa_cons (pv 0) (pa_cons (pv 1) (pa_cons (pv 2) pa_nil)))))))) (fun a oe cls d pn hz hf => pss_one (ps_ret (by exact (pe_lst (pa_cons (pe_byLow g_low hz hf (pv 3)) pa_nil))))))), ?_⟩
    refine ⟨_, rfl, _, rfl, _, rfl, a, b, l, s, i, ns, rfl, hc, hb, hi, hn, kt, fun c ec H' d s1 hd => ?_⟩
    rw [ec] at kt
    refine ⟨true, g_low.te, fun _ a0 _ => ?_, fun q => Bool.noConfusion q⟩
    exact ⟨_, rfl, rfl, rfl, d, _, rfl, hd, (by show 1 ≤ sizeLine; decide), fun p hp => kt.same hc s1 hp⟩
abbrev s_answers : Stmt := top 84
theorem sc_answers : FnScope ["calls", "campaign", "told", "at", "number", "end", "found"] ["calls"] (defScope s_answers) := ⟨rfl, rfl, rfl, by decide +kernel, rfl, by decide +kernel, by decide +kernel⟩
theorem ok_answers {f f_answer f_Campaign___init__ : Addr} {fd : FuncData} (F : Fun K "answers" "answers" s_answers f fd) (D_answer : Kn P w K mg base "answer" CX0 12 ["campaign", "number", "numbers"] (spAnswer K CC CD) f_answer) (D_Campaign___init__ : Km P w K mg base CC "__init__" 1 ["self"] (spCampInit CC) f_Campaign___init__) (g_len : mg "len" = none) (g_nCD : CC ≠ CD) (g_SIZES : mg "SIZES" = some (.ref sA)) (g_s : KTup K sA (numV Hd.sizes)) (g_Campaign : mg "Campaign" = some (.ref CC)) (g_M : Mk K CC f_Campaign___init__) : FnOk P w K mg base CX0 13 f fd ["calls"] (spAnswers K) := by
  obtain ⟨⟨_, G_answer, b_answer⟩, g_answer, k_answer⟩ := D_answer
  obtain ⟨⟨_, G_Campaign___init__, b_Campaign___init__⟩, m_Campaign___init__⟩ := D_Campaign___init__
  refine F.ok sc_answers (fun vs H Q E h => ?_) (fun cdv A outer s H vs Q E hr h => ?_)
  · obtain ⟨_, _, rfl, _⟩ := h
    rfl
  · obtain ⟨ca, ns, rfl, hS, hask, k⟩ := h
    refine ⟨_, (pss_cons (ps_par3 (i := 1) (j := 2) (l := 3) (by rfl) sc_answers.nd rfl rfl rfl (by decide) (by decide) (by decide) rfl rfl rfl (pa_cons (pe_make0 g_M G_Campaign___init__ (hr.mono (by decide)) rfl g_Campaign b_Campaign___init__ .nil pass0) (pa_cons (pe_lst pa_nil) (pa_cons pe_int pa_nil))) (by rfl)) (pss_cons (ps_while PassesOwn.never (pt_cmpR op_lt (pv 3) (pe_callB call_len_seq (by rfl) g_len PySem.boot_len (pa_cons (pv 0) pa_nil)) (nomark _)) (pss_cons (ps_set (i := 4) sc_answers.nd rfl (Or.inl rfl) (pe_ix ix_list (pv 0) (pv 3) (fun _ _ => rfl))) (pss_cons (ps_set (i := 5) sc_answers.nd rfl (Or.inl rfl) (pe_op op_add (pe_op op_add (pv 3) pe_int) (pe_ix ix_tup (pe_glob (v := .ref sA) rfl g_SIZES rfl) (pv 4) (fun _ _ => rfl)))) (pss_cons (ps_set (i := 6) sc_answers.nd rfl (Or.inl rfl) (pe_call G_answer (hr.mono (by decide)) rfl g_answer k_answer b_answer .nil pass0 (pa_cons (pv 1) (pa_cons (pv 4) (pa_cons (pe_slice sl_list (pv 0) (po_some (pe_op op_add (pv 3) pe_int)) (po_some (pv 5))) pa_nil))))) (pss_cons (ps_expr (pe_bm PySem.F.plainAttrs_list PySem.F.slot_list_append PySem.F.type_list_append mt_append (pv 2) (pa_cons (pe_callB call_len_seq (by rfl) g_len PySem.boot_len (pa_cons (pv 6) pa_nil)) pa_nil))) (pss_cons (ps_expr (pe_bm PySem.F.plainAttrs_list PySem.F.slot_list_extend PySem.F.type_list_extend mt_extend (pv 2) (pa_cons (pv 6) pa_nil))) (pss_one (ps_set (i := 3) sc_answers.nd rfl (Or.inl rfl) (pv 5))))))))) (pss_one (ps_ret (pv 2))))), ?_⟩
    obtain ⟨hrest, hshort⟩ := asked_rest hask
    refine fun x dx nx ndx ne => ⟨x, dx, rfl, upd_same, fun H1 l h1 h2 h3 h4 => ⟨rfl, (by show 0 ≤ sizeLine; decide), fun t ht => ⟨_, _, _, rfl, ?_⟩⟩⟩
    have sH : Same H H1 := fun b o q => h4 b o (sameU2 (sameU2 (Same.refl H) ndx) nx b o q) (nn_of q nx)
    have nl : H l = none := (sameU2 (sameU2 (Same.refl H) ndx) nx).free h3
    have nxt : x ≠ t := nn_of h1 ht
    have nlt : l ≠ t := nn_of h2 ht
    refine while_by (fun σ H' => ∃ (a t l : Addr) (s : Option Campaign) (i : Nat) (told out : List Int) (f : Nat) (v4 v5 v6 : Option V), σ = [some (.ref ca), some (.ref a), some (.ref t), some (.int (i : Int)), v4, v5, v6] ∧ Mid CC CD ns H H' a t l s i told out f) (fun σ _ => left ns.length σ) ⟨x, t, l, none, 0, [], PyKqk5.answers ns, ns.length, none, none, none, rfl, ?_⟩ ?_ ?_
    · refine ⟨sameU sH ht, nx, sH.free ht, nl, nlt.symm, upd_same, ⟨⟨dx, (upd_ne nxt).trans h1⟩, ⟨[], (upd_ne nlt).trans h2, DaysOf.nil⟩, fun d hd => absurd hd (by simp [stOf]), by show 0 ≤ 10; decide, Nat.le_refl _⟩, ?_, rfl, Nat.zero_le _⟩
      rw [List.drop_zero]; exact hrest
    · rintro σ H' ⟨a, t, l, s, i, told, out, f, v4, v5, v6, rfl, M⟩
      have hca := Same.seq M.same hS
      refine ⟨_, rfl, _, rfl, ca, _, rfl, .inl hca, _, _, rfl, rfl, _, rfl, ?_⟩
      rw [List.length_map]
      by_cases c : i < ns.length
      · refine if_true_of (decide_eq_true (by omega)) ?_
        have hp : ns[i]? = some ns[i] := by simp [c]
        have ed := drop_at hp
        have hr0 := M.rest
        rw [ed] at hr0
        obtain ⟨n, out', f', c1⟩ := hr0.cons
        generalize ns[i] = p at hp ed hr0 c1
        obtain ⟨q, rfl⟩ : ∃ q : Nat, p = (q : Int) := ⟨p.toNat, by have := c1.p0; omega⟩
        have hq : q < 20 := by have := c1.p1; omega
        have hsz : Hd.sizes[q]? = some n := by have := c1.size; rwa [Int.toNat_natCast] at this
        have hsz2 := size_of hsz
        obtain ⟨b1, b2⟩ := bound_is q hq
        have hcall := c1.bound
        have hcall2 : (PyInside.each (PyKqk5.bound (q : Int)).1 ((ns.drop (i + 1)).take n) && PyInside.lists (PyKqk5.bound (q : Int)).2 []) = true := hcall
        rw [Bool.and_eq_true] at hcall2
        have hlen1 : ((ns.drop (i + 1)).take n).length = n := by rw [List.length_take]; have := c1.len; omega
        obtain ⟨xs, hxs⟩ := nats_of (each_nn _ _ hcall2.1 (by rw [hlen1, b1, hsz2]; exact Nat.le_refl _) b2)
        have hxl : xs.length = n := by rw [← hlen1, hxs, List.length_map]
        have hend : i + 1 + n ≤ ns.length := by have := c1.len; rw [List.length_drop] at this; omega
        have crest := c1.rest
        have cout := c1.out
        rw [hxs] at crest cout
        have e1 : (i : Int) + 1 = ((i + 1 : Nat) : Int) := by omega
        have e2 : ((i + 1 : Nat) : Int) + (n : Int) = ((i + 1 + n : Nat) : Int) := by omega
        have hat : atI (numV Hd.sizes) (q : Int) = some (.int (n : Int)) := atI_nat (by show (Hd.sizes.map _)[q]? = _; rw [List.getElem?_map, hsz]; rfl)
        refine ⟨_, rfl, _, rfl, ca, _, _, _, rfl, rfl, hca, int_at hp, ?_⟩
        refine ⟨_, rfl, _, _, rfl, rfl, _, rfl, sA, _, _, _, rfl, rfl, g_s.sq, hat, _, _, rfl, rfl, ?_⟩
        have ec : cutV (ns.map V.int) (some ((i : Int) + 1)) (some ((i : Int) + 1 + (n : Int))) = numV xs := by
          rw [e1, e2, cut_mid _ (by omega) (by rw [List.length_map]; exact hend), Nat.add_sub_cancel_left, ← List.map_drop, ← List.map_take, hxs, List.map_map]
          rfl
        have e12 : (i : Int) + 1 + (n : Int) = ((i + 1 + n : Nat) : Int) := by omega
        have crest1 : Rest f' (stepN s q xs).1 ((ns.drop (i + 1)).drop n) out' := crest
        have cout1 : out = ((stepN s q xs).2.length : Int) :: ((stepN s q xs).2 ++ out') := cout
        have hsum := M.sum
        rw [cout1] at hsum
        have hl1 : told.length + (stepN s q xs).2.length + 1 ≤ 10000000 := by
          have := hshort
          rw [← hsum] at this
          simp only [List.length_append, List.length_cons] at this
          omega
        have hline : 10000000 < sizeLine := by decide
        refine ⟨_, rfl, _, rfl, _, rfl, _, rfl, _, _, rfl, rfl, _, rfl, _, rfl, _, rfl, ca, _, rfl, hca, fun b hb => ?_⟩
        have s1 : Same H' (upd H' b (.lst (cutV (ns.map V.int) (some ((i : Int) + 1)) (some ((i : Int) + 1 + (n : Int)))))) := sameU (Same.refl _) hb
        have hb2 : SqL K (upd H' b (.lst (cutV (ns.map V.int) (some ((i : Int) + 1)) (some ((i : Int) + 1 + (n : Int)))))) b (numV xs) := by
          rw [ec]; exact SqL.of upd_same
        refine ⟨a, b, l, s, q, xs, rfl, M.camp.same s1, hb2, hq, hxl.trans hsz2.symm, fun H2 p l2 kp hp0 hp hc hl => ?_⟩
        have hp0' : (upd H' b (.lst (cutV (ns.map V.int) (some ((i : Int) + 1)) (some ((i : Int) + 1 + (n : Int)))))) p = none := hp0
        have kp' : Kept a l (upd H' b (.lst (cutV (ns.map V.int) (some ((i : Int) + 1)) (some ((i : Int) + 1 + (n : Int)))))) H2 := kp
        have hl' : l2 = l ∨ (upd H' b (.lst (cutV (ns.map V.int) (some ((i : Int) + 1)) (some ((i : Int) + 1 + (n : Int)))))) l2 = none := hl
        generalize upd H' b (.lst (cutV (ns.map V.int) (some ((i : Int) + 1)) (some ((i : Int) + 1 + (n : Int))))) = Hb at s1 hp0' kp' hl'
        have nta : t ≠ a := by
          obtain ⟨_, hob⟩ := M.camp.ob
          exact kind_ne M.tt hob (by intro z; cases z)
        have ht2 : H2 t = some (.lst (told.map V.int)) := kp' _ _ (s1 _ _ M.tt) nta M.tl
        have sH2 : Same H H2 := fun b' o q0 => kp' _ _ (s1 _ _ (M.same _ _ q0)) (nn_of q0 M.na) (nn_of q0 M.nl)
        have nl2 : H l2 = none := hl'.elim (fun z => z ▸ M.nl) (fun z => (M.same.trans s1).free z)
        have tl2 : t ≠ l2 := hl'.elim (fun z => z ▸ M.tl) (fun z => nn_of (s1 _ _ M.tt) z)
        have ntp : t ≠ p := nn_of (s1 _ _ M.tt) hp0'
        refine ⟨_, rfl, .inl ⟨rfl, _, SqL.of ht2⟩, _, rfl, p, _, rfl, .inl (SqL.of hp), t, _, _, rfl, rfl, ht2, ?_, _, rfl, .inl ⟨rfl, _, SqL.of upd_same⟩, _, rfl, t, p, _, _, rfl, rfl, upd_same, (upd_ne ntp.symm).trans hp, ?_, _, rfl, ?_⟩
        · rw [List.length_map]; omega
        · simp only [List.length_append, List.length_map, List.length_cons, List.length_nil]; omega
        refine ⟨⟨a, t, l2, (stepN s q xs).1, i + 1 + n, told ++ [((stepN s q xs).2.length : Int)] ++ (stepN s q xs).2, out', f', _, _, _, congrArg (fun z => [some (V.ref ca), some (V.ref a), some (V.ref t), some (V.int z), some (V.int (q : Int)), some (V.int ((i : Int) + 1 + (n : Int))), some (V.ref p)]) e12, ?_⟩, ?_⟩
        · refine ⟨sameU2 (sameU2 sH2 M.nt) M.nt, M.na, M.nt, nl2, tl2, ?_, (hc.put ht2 tl2).put upd_same tl2, ?_, ?_, hend⟩
          · rw [upd_same]
            simp
          · rw [← List.drop_drop]; exact crest1
          · rw [← hsum]
            simp
        · show ns.length - ((i : Int) + 1 + (n : Int)).toNat < ns.length - ((i : Int)).toNat
          omega
      · refine if_false_of (decide_eq_false (by omega)) ⟨_, rfl, ?_⟩
        have hr := M.rest
        rw [List.drop_of_length_le (by omega)] at hr
        have hs := M.sum
        rw [hr.nil, List.append_nil] at hs
        refine k _ t ?_
        rw [← hs]
        exact M.tt
    · rintro σ H' Q1 Q2 h ⟨v, e, v0, e0, p, ys, e1, hq, i, j, e2, e3, kk, e4, q⟩
      exact ⟨v, e, v0, e0, p, ys, e1, hq, i, j, e2, e3, kk, e4, h _ _ q⟩
end
end Hd

namespace Hd
open PySem PySem.Spec PyProof.Rows L2
open Kqk5 (Day Campaign)
/-- an error of the class at S is what «except S» names -/
theorem exm_self {K : PySem.W.Frag} {S : Addr} (h1 : PySem.W.subIn K (.ref S) (.type "BaseException") = some true) (h2 : PySem.W.isClsIn K S = true) (h3 : PySem.W.typeIn K (.ref S) = some (.type "type")) (h4 : PySem.W.subIn K (.ref S) (.ref S) = some true) :
    PySem.W.exmOne K (.ref S) (.ref S) = some true := by
  have e1 : (PySem.W.subIn K (.ref S) (.type "BaseException") == some true) = true := by rw [h1] <;> rfl
  have e2 : ((PySem.W.clsIn K S).isSome && PySem.W.typeIn K (.ref S) == some (.type "type")) = true := by
    have h2' : (PySem.W.clsIn K S).isSome = true := h2
    rw [h2', h3] <;> rfl
  show (if (PySem.W.subIn K (.ref S) (.type "BaseException") == some true) = true then (if ((PySem.W.clsIn K S).isSome && PySem.W.typeIn K (.ref S) == some (.type "type")) = true then PySem.W.subIn K (.ref S) (.ref S) else none) else none) = some true
  rw [if_pos e1, if_pos e2]
  exact h4
theorem deed_of {P : Program} {w : World} {K : PySem.W.Frag} {mg : Str → Option Value} {base : Heap} {CC CD CR f : Addr} {x : Str} {i : Nat} {xs : List V} (D : Kn P w K mg base x (L2.CX P w) 10 ["campaign", "numbers"] (spDeed K CC CD CR i) f) (h : xs[i]? = some (.ref f)) :
    ∃ (f : Addr) (fd : FuncData), xs[i]? = some (.ref f) ∧ FnOk P w K mg base (L2.CX P w) 10 f fd ["campaign", "numbers"] (spDeed K CC CD CR i) ∧ Binds K fd ["campaign", "numbers"] [] ∧ PySem.W.keepIn K (.ref f) = true := by
  obtain ⟨⟨fd, G, b⟩, g, k⟩ := D
  exact ⟨f, fd, h, G, b, k⟩
theorem all_mk {P : Program} {w : World} {K : PySem.W.Frag} {h : Heap} {mg : Str → Option Value} {fa CD CC CR : Addr} (X : K.In h) (G : h.Ns mainGlobals mg) (hfa : mg "answers" = some (.ref fa))
    {f_common_divisor : Addr} {od_common_divisor an_common_divisor : Option Addr} {sl_common_divisor : Array (Option Value)} {oc_common_divisor kv_common_divisor dc_common_divisor pm_common_divisor cd_common_divisor ct_common_divisor : Value}
    {f_ratio : Addr} {od_ratio an_ratio : Option Addr} {sl_ratio : Array (Option Value)} {oc_ratio kv_ratio dc_ratio pm_ratio cd_ratio ct_ratio : Value}
    {f_whole : Addr} {od_whole an_whole : Option Addr} {sl_whole : Array (Option Value)} {oc_whole kv_whole dc_whole pm_whole cd_whole ct_whole : Value}
    {f_total_of : Addr} {od_total_of an_total_of : Option Addr} {sl_total_of : Array (Option Value)} {oc_total_of kv_total_of dc_total_of pm_total_of cd_total_of ct_total_of : Value}
    {f_difference_of : Addr} {od_difference_of an_difference_of : Option Addr} {sl_difference_of : Array (Option Value)} {oc_difference_of kv_difference_of dc_difference_of pm_difference_of cd_difference_of ct_difference_of : Value}
    {f_product_of : Addr} {od_product_of an_product_of : Option Addr} {sl_product_of : Array (Option Value)} {oc_product_of kv_product_of dc_product_of pm_product_of cd_product_of ct_product_of : Value}
    {f_is_greater : Addr} {od_is_greater an_is_greater : Option Addr} {sl_is_greater : Array (Option Value)} {oc_is_greater kv_is_greater dc_is_greater pm_is_greater cd_is_greater ct_is_greater : Value}
    {f_is_positive : Addr} {od_is_positive an_is_positive : Option Addr} {sl_is_positive : Array (Option Value)} {oc_is_positive kv_is_positive dc_is_positive pm_is_positive cd_is_positive ct_is_positive : Value}
    {f_greater_of : Addr} {od_greater_of an_greater_of : Option Addr} {sl_greater_of : Array (Option Value)} {oc_greater_of kv_greater_of dc_greater_of pm_greater_of cd_greater_of ct_greater_of : Value}
    {f_Day___init__ : Addr} {od_Day___init__ an_Day___init__ : Option Addr} {sl_Day___init__ : Array (Option Value)} {oc_Day___init__ kv_Day___init__ dc_Day___init__ pm_Day___init__ cd_Day___init__ ct_Day___init__ : Value}
    {f_are_fields : Addr} {od_are_fields an_are_fields : Option Addr} {sl_are_fields : Array (Option Value)} {oc_are_fields kv_are_fields dc_are_fields pm_are_fields cd_are_fields ct_are_fields : Value}
    {f_fields_of : Addr} {od_fields_of an_fields_of : Option Addr} {sl_fields_of : Array (Option Value)} {oc_fields_of kv_fields_of dc_fields_of pm_fields_of cd_fields_of ct_fields_of : Value}
    {f_with_cost : Addr} {od_with_cost an_with_cost : Option Addr} {sl_with_cost : Array (Option Value)} {oc_with_cost kv_with_cost dc_with_cost pm_with_cost cd_with_cost ct_with_cost : Value}
    {f_event_chance : Addr} {od_event_chance an_event_chance : Option Addr} {sl_event_chance : Array (Option Value)} {oc_event_chance kv_event_chance dc_event_chance pm_event_chance cd_event_chance ct_event_chance : Value}
    {f_quiet_chance : Addr} {od_quiet_chance an_quiet_chance : Option Addr} {sl_quiet_chance : Array (Option Value)} {oc_quiet_chance kv_quiet_chance dc_quiet_chance pm_quiet_chance cd_quiet_chance ct_quiet_chance : Value}
    {f_quiet_part : Addr} {od_quiet_part an_quiet_part : Option Addr} {sl_quiet_part : Array (Option Value)} {oc_quiet_part kv_quiet_part dc_quiet_part pm_quiet_part cd_quiet_part ct_quiet_part : Value}
    {f_event_part : Addr} {od_event_part an_event_part : Option Addr} {sl_event_part : Array (Option Value)} {oc_event_part kv_event_part dc_event_part pm_event_part cd_event_part ct_event_part : Value}
    {f_worth : Addr} {od_worth an_worth : Option Addr} {sl_worth : Array (Option Value)} {oc_worth kv_worth dc_worth pm_worth cd_worth ct_worth : Value}
    {f_single_day_value : Addr} {od_single_day_value an_single_day_value : Option Addr} {sl_single_day_value : Array (Option Value)} {oc_single_day_value kv_single_day_value dc_single_day_value pm_single_day_value cd_single_day_value ct_single_day_value : Value}
    {f_has_event : Addr} {od_has_event an_has_event : Option Addr} {sl_has_event : Array (Option Value)} {oc_has_event kv_has_event dc_has_event pm_has_event cd_has_event ct_has_event : Value}
    {f_value_of : Addr} {od_value_of an_value_of : Option Addr} {sl_value_of : Array (Option Value)} {oc_value_of kv_value_of dc_value_of pm_value_of cd_value_of ct_value_of : Value}
    {f_plan_value : Addr} {od_plan_value an_plan_value : Option Addr} {sl_plan_value : Array (Option Value)} {oc_plan_value kv_plan_value dc_plan_value pm_plan_value cd_plan_value ct_plan_value : Value}
    {f_best_count : Addr} {od_best_count an_best_count : Option Addr} {sl_best_count : Array (Option Value)} {oc_best_count kv_best_count dc_best_count pm_best_count cd_best_count ct_best_count : Value}
    {f_is_worthwhile_alone : Addr} {od_is_worthwhile_alone an_is_worthwhile_alone : Option Addr} {sl_is_worthwhile_alone : Array (Option Value)} {oc_is_worthwhile_alone kv_is_worthwhile_alone dc_is_worthwhile_alone pm_is_worthwhile_alone cd_is_worthwhile_alone ct_is_worthwhile_alone : Value}
    {f_lookahead_count : Addr} {od_lookahead_count an_lookahead_count : Option Addr} {sl_lookahead_count : Array (Option Value)} {oc_lookahead_count kv_lookahead_count dc_lookahead_count pm_lookahead_count cd_lookahead_count ct_lookahead_count : Value}
    {f_is_monotone : Addr} {od_is_monotone an_is_monotone : Option Addr} {sl_is_monotone : Array (Option Value)} {oc_is_monotone kv_is_monotone dc_is_monotone pm_is_monotone cd_is_monotone ct_is_monotone : Value}
    {f_quiet_chance_of : Addr} {od_quiet_chance_of an_quiet_chance_of : Option Addr} {sl_quiet_chance_of : Array (Option Value)} {oc_quiet_chance_of kv_quiet_chance_of dc_quiet_chance_of pm_quiet_chance_of cd_quiet_chance_of ct_quiet_chance_of : Value}
    {f_greatest_cost : Addr} {od_greatest_cost an_greatest_cost : Option Addr} {sl_greatest_cost : Array (Option Value)} {oc_greatest_cost kv_greatest_cost dc_greatest_cost pm_greatest_cost cd_greatest_cost ct_greatest_cost : Value}
    {f_need : Addr} {od_need an_need : Option Addr} {sl_need : Array (Option Value)} {oc_need kv_need dc_need pm_need cd_need ct_need : Value}
    {f_Campaign___init__ : Addr} {od_Campaign___init__ an_Campaign___init__ : Option Addr} {sl_Campaign___init__ : Array (Option Value)} {oc_Campaign___init__ kv_Campaign___init__ dc_Campaign___init__ pm_Campaign___init__ cd_Campaign___init__ ct_Campaign___init__ : Value}
    {f_Campaign_begin_again : Addr} {od_Campaign_begin_again an_Campaign_begin_again : Option Addr} {sl_Campaign_begin_again : Array (Option Value)} {oc_Campaign_begin_again kv_Campaign_begin_again dc_Campaign_begin_again pm_Campaign_begin_again cd_Campaign_begin_again ct_Campaign_begin_again : Value}
    {f_Campaign_create : Addr} {od_Campaign_create an_Campaign_create : Option Addr} {sl_Campaign_create : Array (Option Value)} {oc_Campaign_create kv_Campaign_create dc_Campaign_create pm_Campaign_create cd_Campaign_create ct_Campaign_create : Value}
    {f_Campaign_go_on : Addr} {od_Campaign_go_on an_Campaign_go_on : Option Addr} {sl_Campaign_go_on : Array (Option Value)} {oc_Campaign_go_on kv_Campaign_go_on dc_Campaign_go_on pm_Campaign_go_on cd_Campaign_go_on ct_Campaign_go_on : Value}
    {f_Campaign_remaining : Addr} {od_Campaign_remaining an_Campaign_remaining : Option Addr} {sl_Campaign_remaining : Array (Option Value)} {oc_Campaign_remaining kv_Campaign_remaining dc_Campaign_remaining pm_Campaign_remaining cd_Campaign_remaining ct_Campaign_remaining : Value}
    {f_need_day : Addr} {od_need_day an_need_day : Option Addr} {sl_need_day : Array (Option Value)} {oc_need_day kv_need_day dc_need_day pm_need_day cd_need_day ct_need_day : Value}
    {f_first_remaining : Addr} {od_first_remaining an_first_remaining : Option Addr} {sl_first_remaining : Array (Option Value)} {oc_first_remaining kv_first_remaining dc_first_remaining pm_first_remaining cd_first_remaining ct_first_remaining : Value}
    {f_told_fraction : Addr} {od_told_fraction an_told_fraction : Option Addr} {sl_told_fraction : Array (Option Value)} {oc_told_fraction kv_told_fraction dc_told_fraction pm_told_fraction cd_told_fraction ct_told_fraction : Value}
    {f_told_truth : Addr} {od_told_truth an_told_truth : Option Addr} {sl_told_truth : Array (Option Value)} {oc_told_truth kv_told_truth dc_told_truth pm_told_truth cd_told_truth ct_told_truth : Value}
    {f_do_create : Addr} {od_do_create an_do_create : Option Addr} {sl_do_create : Array (Option Value)} {oc_do_create kv_do_create dc_do_create pm_do_create cd_do_create ct_do_create : Value}
    {f_do_add_day : Addr} {od_do_add_day an_do_add_day : Option Addr} {sl_do_add_day : Array (Option Value)} {oc_do_add_day kv_do_add_day dc_do_add_day pm_do_add_day cd_do_add_day ct_do_add_day : Value}
    {f_do_set_day : Addr} {od_do_set_day an_do_set_day : Option Addr} {sl_do_set_day : Array (Option Value)} {oc_do_set_day kv_do_set_day dc_do_set_day pm_do_set_day cd_do_set_day ct_do_set_day : Value}
    {f_do_remove_last_day : Addr} {od_do_remove_last_day an_do_remove_last_day : Option Addr} {sl_do_remove_last_day : Array (Option Value)} {oc_do_remove_last_day kv_do_remove_last_day dc_do_remove_last_day pm_do_remove_last_day cd_do_remove_last_day ct_do_remove_last_day : Value}
    {f_do_get_day : Addr} {od_do_get_day an_do_get_day : Option Addr} {sl_do_get_day : Array (Option Value)} {oc_do_get_day kv_do_get_day dc_do_get_day pm_do_get_day cd_do_get_day ct_do_get_day : Value}
    {f_do_value : Addr} {od_do_value an_do_value : Option Addr} {sl_do_value : Array (Option Value)} {oc_do_value kv_do_value dc_do_value pm_do_value cd_do_value ct_do_value : Value}
    {f_do_value_from : Addr} {od_do_value_from an_do_value_from : Option Addr} {sl_do_value_from : Array (Option Value)} {oc_do_value_from kv_do_value_from dc_do_value_from pm_do_value_from cd_do_value_from ct_do_value_from : Value}
    {f_do_plan_value : Addr} {od_do_plan_value an_do_plan_value : Option Addr} {sl_do_plan_value : Array (Option Value)} {oc_do_plan_value kv_do_plan_value dc_do_plan_value pm_do_plan_value cd_do_plan_value ct_do_plan_value : Value}
    {f_do_best_count : Addr} {od_do_best_count an_do_best_count : Option Addr} {sl_do_best_count : Array (Option Value)} {oc_do_best_count kv_do_best_count dc_do_best_count pm_do_best_count cd_do_best_count ct_do_best_count : Value}
    {f_do_lookahead_count : Addr} {od_do_lookahead_count an_do_lookahead_count : Option Addr} {sl_do_lookahead_count : Array (Option Value)} {oc_do_lookahead_count kv_do_lookahead_count dc_do_lookahead_count pm_do_lookahead_count cd_do_lookahead_count ct_do_lookahead_count : Value}
    {f_do_single_day_value : Addr} {od_do_single_day_value an_do_single_day_value : Option Addr} {sl_do_single_day_value : Array (Option Value)} {oc_do_single_day_value kv_do_single_day_value dc_do_single_day_value pm_do_single_day_value cd_do_single_day_value ct_do_single_day_value : Value}
    {f_do_is_monotone : Addr} {od_do_is_monotone an_do_is_monotone : Option Addr} {sl_do_is_monotone : Array (Option Value)} {oc_do_is_monotone kv_do_is_monotone dc_do_is_monotone pm_do_is_monotone cd_do_is_monotone ct_do_is_monotone : Value}
    {f_do_quiet_probability : Addr} {od_do_quiet_probability an_do_quiet_probability : Option Addr} {sl_do_quiet_probability : Array (Option Value)} {oc_do_quiet_probability kv_do_quiet_probability dc_do_quiet_probability pm_do_quiet_probability cd_do_quiet_probability ct_do_quiet_probability : Value}
    {f_do_continue_campaign : Addr} {od_do_continue_campaign an_do_continue_campaign : Option Addr} {sl_do_continue_campaign : Array (Option Value)} {oc_do_continue_campaign kv_do_continue_campaign dc_do_continue_campaign pm_do_continue_campaign cd_do_continue_campaign ct_do_continue_campaign : Value}
    {f_do_stop : Addr} {od_do_stop an_do_stop : Option Addr} {sl_do_stop : Array (Option Value)} {oc_do_stop kv_do_stop dc_do_stop pm_do_stop cd_do_stop ct_do_stop : Value}
    {f_do_restart : Addr} {od_do_restart an_do_restart : Option Addr} {sl_do_restart : Array (Option Value)} {oc_do_restart kv_do_restart dc_do_restart pm_do_restart cd_do_restart ct_do_restart : Value}
    {f_do_max_event_cost : Addr} {od_do_max_event_cost an_do_max_event_cost : Option Addr} {sl_do_max_event_cost : Array (Option Value)} {oc_do_max_event_cost kv_do_max_event_cost dc_do_max_event_cost pm_do_max_event_cost cd_do_max_event_cost ct_do_max_event_cost : Value}
    {f_do_value_with_cost : Addr} {od_do_value_with_cost an_do_value_with_cost : Option Addr} {sl_do_value_with_cost : Array (Option Value)} {oc_do_value_with_cost kv_do_value_with_cost dc_do_value_with_cost pm_do_value_with_cost cd_do_value_with_cost ct_do_value_with_cost : Value}
    {f_do_is_worthwhile : Addr} {od_do_is_worthwhile an_do_is_worthwhile : Option Addr} {sl_do_is_worthwhile : Array (Option Value)} {oc_do_is_worthwhile kv_do_is_worthwhile dc_do_is_worthwhile pm_do_is_worthwhile cd_do_is_worthwhile ct_do_is_worthwhile : Value}
    {f_do_summary : Addr} {od_do_summary an_do_summary : Option Addr} {sl_do_summary : Array (Option Value)} {oc_do_summary kv_do_summary dc_do_summary pm_do_summary cd_do_summary ct_do_summary : Value}
    {f_done : Addr} {od_done an_done : Option Addr} {sl_done : Array (Option Value)} {oc_done kv_done dc_done pm_done cd_done ct_done : Value}
    {f_answer : Addr} {od_answer an_answer : Option Addr} {sl_answer : Array (Option Value)} {oc_answer kv_answer dc_answer pm_answer cd_answer ct_answer : Value}
    {f_answers : Addr} {od_answers an_answers : Option Addr} {sl_answers : Array (Option Value)} {oc_answers kv_answers dc_answers pm_answers cd_answers ct_answers : Value}
    {t_MOST_GAIN : Tok}
    {t_MOST_DENOMINATOR : Tok}
    {t_MOST_COST : Tok}
    {t_RUNNING : Tok}
    {t_ENDED : Tok}
    {t_NO_DAY : Tok}
    {t_MOST_DAYS : Tok}
    {t_TOO_MANY : Tok}
    {t_OUT_OF_RANGE : Tok}
    {t_NOT_POSSIBLE : Tok}
    {t_NOTHING_TO_REMOVE : Tok}
    {t_NONE_LEFT : Tok}
    {t_MOST_SAMPLE : Tok}
    {t_STOPPED : Tok}
    {t_CREATE : Tok}
    {t_NOT_CREATED : Tok}
    {zA oA sA dA : Addr}
    {u_ZERO : Obj} {its_ZERO : Array Value} {m_ZERO : Nat}
    {u_ONE : Obj} {its_ONE : Array Value} {m_ONE : Nat}
    {u_SIZES : Obj} {its_SIZES : Array Value} {m_SIZES : Nat}
    {u_DEEDS : Obj} {its_DEEDS : Array Value} {m_DEEDS : Nat}
    {fR : Addr} {nmR qR : Str} {NR : Addr} {bsR : List Value} {snR : List Str} {subR : List Value} {abR : Bool} {colR : Option Bool} {ddR : Option Addr} {m0R m1R m2R m3R m5R : Option Value} {odR anR : Option Addr} {slR : Array (Option Value)} {ocR dcR pmR cdR ctR : Value} {p1 p2 q1 q2 q3 q4 : Pos}
    (aCD : PySem.W.nsIn K mainGlobals "Day" = some (some (.ref CD)))
    (aCC : PySem.W.nsIn K mainGlobals "Campaign" = some (some (.ref CC)))
    (aCR : PySem.W.nsIn K mainGlobals "Refusal" = some (some (.ref CR)))
    (a_common_divisor : PySem.W.nsIn K mainGlobals "common_divisor" = some (some (.ref f_common_divisor)))
    (l_common_divisor : K.lookup f_common_divisor = some ⟨oc_common_divisor, od_common_divisor, .func (PySem.W.fnOf "common_divisor" "common_divisor" (defArgs s_common_divisor) (defBody s_common_divisor) (defScope s_common_divisor) .none kv_common_divisor dc_common_divisor pm_common_divisor an_common_divisor cd_common_divisor ct_common_divisor), sl_common_divisor⟩)
    (c_common_divisor : PySem.W.codeIn K cd_common_divisor "common_divisor" = true)
    (k_common_divisor : PySem.W.keepIn K (.ref f_common_divisor) = true)
    (a_ratio : PySem.W.nsIn K mainGlobals "ratio" = some (some (.ref f_ratio)))
    (l_ratio : K.lookup f_ratio = some ⟨oc_ratio, od_ratio, .func (PySem.W.fnOf "ratio" "ratio" (defArgs s_ratio) (defBody s_ratio) (defScope s_ratio) .none kv_ratio dc_ratio pm_ratio an_ratio cd_ratio ct_ratio), sl_ratio⟩)
    (c_ratio : PySem.W.codeIn K cd_ratio "ratio" = true)
    (k_ratio : PySem.W.keepIn K (.ref f_ratio) = true)
    (a_whole : PySem.W.nsIn K mainGlobals "whole" = some (some (.ref f_whole)))
    (l_whole : K.lookup f_whole = some ⟨oc_whole, od_whole, .func (PySem.W.fnOf "whole" "whole" (defArgs s_whole) (defBody s_whole) (defScope s_whole) .none kv_whole dc_whole pm_whole an_whole cd_whole ct_whole), sl_whole⟩)
    (c_whole : PySem.W.codeIn K cd_whole "whole" = true)
    (k_whole : PySem.W.keepIn K (.ref f_whole) = true)
    (a_total_of : PySem.W.nsIn K mainGlobals "total_of" = some (some (.ref f_total_of)))
    (l_total_of : K.lookup f_total_of = some ⟨oc_total_of, od_total_of, .func (PySem.W.fnOf "total_of" "total_of" (defArgs s_total_of) (defBody s_total_of) (defScope s_total_of) .none kv_total_of dc_total_of pm_total_of an_total_of cd_total_of ct_total_of), sl_total_of⟩)
    (c_total_of : PySem.W.codeIn K cd_total_of "total_of" = true)
    (k_total_of : PySem.W.keepIn K (.ref f_total_of) = true)
    (a_difference_of : PySem.W.nsIn K mainGlobals "difference_of" = some (some (.ref f_difference_of)))
    (l_difference_of : K.lookup f_difference_of = some ⟨oc_difference_of, od_difference_of, .func (PySem.W.fnOf "difference_of" "difference_of" (defArgs s_difference_of) (defBody s_difference_of) (defScope s_difference_of) .none kv_difference_of dc_difference_of pm_difference_of an_difference_of cd_difference_of ct_difference_of), sl_difference_of⟩)
    (c_difference_of : PySem.W.codeIn K cd_difference_of "difference_of" = true)
    (k_difference_of : PySem.W.keepIn K (.ref f_difference_of) = true)
    (a_product_of : PySem.W.nsIn K mainGlobals "product_of" = some (some (.ref f_product_of)))
    (l_product_of : K.lookup f_product_of = some ⟨oc_product_of, od_product_of, .func (PySem.W.fnOf "product_of" "product_of" (defArgs s_product_of) (defBody s_product_of) (defScope s_product_of) .none kv_product_of dc_product_of pm_product_of an_product_of cd_product_of ct_product_of), sl_product_of⟩)
    (c_product_of : PySem.W.codeIn K cd_product_of "product_of" = true)
    (k_product_of : PySem.W.keepIn K (.ref f_product_of) = true)
    (a_is_greater : PySem.W.nsIn K mainGlobals "is_greater" = some (some (.ref f_is_greater)))
    (l_is_greater : K.lookup f_is_greater = some ⟨oc_is_greater, od_is_greater, .func (PySem.W.fnOf "is_greater" "is_greater" (defArgs s_is_greater) (defBody s_is_greater) (defScope s_is_greater) .none kv_is_greater dc_is_greater pm_is_greater an_is_greater cd_is_greater ct_is_greater), sl_is_greater⟩)
    (c_is_greater : PySem.W.codeIn K cd_is_greater "is_greater" = true)
    (k_is_greater : PySem.W.keepIn K (.ref f_is_greater) = true)
    (a_is_positive : PySem.W.nsIn K mainGlobals "is_positive" = some (some (.ref f_is_positive)))
    (l_is_positive : K.lookup f_is_positive = some ⟨oc_is_positive, od_is_positive, .func (PySem.W.fnOf "is_positive" "is_positive" (defArgs s_is_positive) (defBody s_is_positive) (defScope s_is_positive) .none kv_is_positive dc_is_positive pm_is_positive an_is_positive cd_is_positive ct_is_positive), sl_is_positive⟩)
    (c_is_positive : PySem.W.codeIn K cd_is_positive "is_positive" = true)
    (k_is_positive : PySem.W.keepIn K (.ref f_is_positive) = true)
    (a_greater_of : PySem.W.nsIn K mainGlobals "greater_of" = some (some (.ref f_greater_of)))
    (l_greater_of : K.lookup f_greater_of = some ⟨oc_greater_of, od_greater_of, .func (PySem.W.fnOf "greater_of" "greater_of" (defArgs s_greater_of) (defBody s_greater_of) (defScope s_greater_of) .none kv_greater_of dc_greater_of pm_greater_of an_greater_of cd_greater_of ct_greater_of), sl_greater_of⟩)
    (c_greater_of : PySem.W.codeIn K cd_greater_of "greater_of" = true)
    (k_greater_of : PySem.W.keepIn K (.ref f_greater_of) = true)
    (a_Day___init__ : PySem.W.findIn K (.ref CD) "__init__" = some (some (.ref f_Day___init__)))
    (i_Day___init__ : PySem.W.isFn K (.ref f_Day___init__) = true)
    (l_Day___init__ : K.lookup f_Day___init__ = some ⟨oc_Day___init__, od_Day___init__, .func (PySem.W.fnOf "__init__" "Day.__init__" (defArgs s_Day___init__) (defBody s_Day___init__) (defScope s_Day___init__) .none kv_Day___init__ dc_Day___init__ pm_Day___init__ an_Day___init__ cd_Day___init__ ct_Day___init__), sl_Day___init__⟩)
    (c_Day___init__ : PySem.W.codeIn K cd_Day___init__ "Day.__init__" = true)
    (k_Day___init__ : PySem.W.keepIn K (.ref f_Day___init__) = true)
    (a_are_fields : PySem.W.nsIn K mainGlobals "are_fields" = some (some (.ref f_are_fields)))
    (l_are_fields : K.lookup f_are_fields = some ⟨oc_are_fields, od_are_fields, .func (PySem.W.fnOf "are_fields" "are_fields" (defArgs s_are_fields) (defBody s_are_fields) (defScope s_are_fields) .none kv_are_fields dc_are_fields pm_are_fields an_are_fields cd_are_fields ct_are_fields), sl_are_fields⟩)
    (c_are_fields : PySem.W.codeIn K cd_are_fields "are_fields" = true)
    (k_are_fields : PySem.W.keepIn K (.ref f_are_fields) = true)
    (a_fields_of : PySem.W.nsIn K mainGlobals "fields_of" = some (some (.ref f_fields_of)))
    (l_fields_of : K.lookup f_fields_of = some ⟨oc_fields_of, od_fields_of, .func (PySem.W.fnOf "fields_of" "fields_of" (defArgs s_fields_of) (defBody s_fields_of) (defScope s_fields_of) .none kv_fields_of dc_fields_of pm_fields_of an_fields_of cd_fields_of ct_fields_of), sl_fields_of⟩)
    (c_fields_of : PySem.W.codeIn K cd_fields_of "fields_of" = true)
    (k_fields_of : PySem.W.keepIn K (.ref f_fields_of) = true)
    (a_with_cost : PySem.W.nsIn K mainGlobals "with_cost" = some (some (.ref f_with_cost)))
    (l_with_cost : K.lookup f_with_cost = some ⟨oc_with_cost, od_with_cost, .func (PySem.W.fnOf "with_cost" "with_cost" (defArgs s_with_cost) (defBody s_with_cost) (defScope s_with_cost) .none kv_with_cost dc_with_cost pm_with_cost an_with_cost cd_with_cost ct_with_cost), sl_with_cost⟩)
    (c_with_cost : PySem.W.codeIn K cd_with_cost "with_cost" = true)
    (k_with_cost : PySem.W.keepIn K (.ref f_with_cost) = true)
    (a_event_chance : PySem.W.nsIn K mainGlobals "event_chance" = some (some (.ref f_event_chance)))
    (l_event_chance : K.lookup f_event_chance = some ⟨oc_event_chance, od_event_chance, .func (PySem.W.fnOf "event_chance" "event_chance" (defArgs s_event_chance) (defBody s_event_chance) (defScope s_event_chance) .none kv_event_chance dc_event_chance pm_event_chance an_event_chance cd_event_chance ct_event_chance), sl_event_chance⟩)
    (c_event_chance : PySem.W.codeIn K cd_event_chance "event_chance" = true)
    (k_event_chance : PySem.W.keepIn K (.ref f_event_chance) = true)
    (a_quiet_chance : PySem.W.nsIn K mainGlobals "quiet_chance" = some (some (.ref f_quiet_chance)))
    (l_quiet_chance : K.lookup f_quiet_chance = some ⟨oc_quiet_chance, od_quiet_chance, .func (PySem.W.fnOf "quiet_chance" "quiet_chance" (defArgs s_quiet_chance) (defBody s_quiet_chance) (defScope s_quiet_chance) .none kv_quiet_chance dc_quiet_chance pm_quiet_chance an_quiet_chance cd_quiet_chance ct_quiet_chance), sl_quiet_chance⟩)
    (c_quiet_chance : PySem.W.codeIn K cd_quiet_chance "quiet_chance" = true)
    (k_quiet_chance : PySem.W.keepIn K (.ref f_quiet_chance) = true)
    (a_quiet_part : PySem.W.nsIn K mainGlobals "quiet_part" = some (some (.ref f_quiet_part)))
    (l_quiet_part : K.lookup f_quiet_part = some ⟨oc_quiet_part, od_quiet_part, .func (PySem.W.fnOf "quiet_part" "quiet_part" (defArgs s_quiet_part) (defBody s_quiet_part) (defScope s_quiet_part) .none kv_quiet_part dc_quiet_part pm_quiet_part an_quiet_part cd_quiet_part ct_quiet_part), sl_quiet_part⟩)
    (c_quiet_part : PySem.W.codeIn K cd_quiet_part "quiet_part" = true)
    (k_quiet_part : PySem.W.keepIn K (.ref f_quiet_part) = true)
    (a_event_part : PySem.W.nsIn K mainGlobals "event_part" = some (some (.ref f_event_part)))
    (l_event_part : K.lookup f_event_part = some ⟨oc_event_part, od_event_part, .func (PySem.W.fnOf "event_part" "event_part" (defArgs s_event_part) (defBody s_event_part) (defScope s_event_part) .none kv_event_part dc_event_part pm_event_part an_event_part cd_event_part ct_event_part), sl_event_part⟩)
    (c_event_part : PySem.W.codeIn K cd_event_part "event_part" = true)
    (k_event_part : PySem.W.keepIn K (.ref f_event_part) = true)
    (a_worth : PySem.W.nsIn K mainGlobals "worth" = some (some (.ref f_worth)))
    (l_worth : K.lookup f_worth = some ⟨oc_worth, od_worth, .func (PySem.W.fnOf "worth" "worth" (defArgs s_worth) (defBody s_worth) (defScope s_worth) .none kv_worth dc_worth pm_worth an_worth cd_worth ct_worth), sl_worth⟩)
    (c_worth : PySem.W.codeIn K cd_worth "worth" = true)
    (k_worth : PySem.W.keepIn K (.ref f_worth) = true)
    (a_single_day_value : PySem.W.nsIn K mainGlobals "single_day_value" = some (some (.ref f_single_day_value)))
    (l_single_day_value : K.lookup f_single_day_value = some ⟨oc_single_day_value, od_single_day_value, .func (PySem.W.fnOf "single_day_value" "single_day_value" (defArgs s_single_day_value) (defBody s_single_day_value) (defScope s_single_day_value) .none kv_single_day_value dc_single_day_value pm_single_day_value an_single_day_value cd_single_day_value ct_single_day_value), sl_single_day_value⟩)
    (c_single_day_value : PySem.W.codeIn K cd_single_day_value "single_day_value" = true)
    (k_single_day_value : PySem.W.keepIn K (.ref f_single_day_value) = true)
    (a_has_event : PySem.W.nsIn K mainGlobals "has_event" = some (some (.ref f_has_event)))
    (l_has_event : K.lookup f_has_event = some ⟨oc_has_event, od_has_event, .func (PySem.W.fnOf "has_event" "has_event" (defArgs s_has_event) (defBody s_has_event) (defScope s_has_event) .none kv_has_event dc_has_event pm_has_event an_has_event cd_has_event ct_has_event), sl_has_event⟩)
    (c_has_event : PySem.W.codeIn K cd_has_event "has_event" = true)
    (k_has_event : PySem.W.keepIn K (.ref f_has_event) = true)
    (a_value_of : PySem.W.nsIn K mainGlobals "value_of" = some (some (.ref f_value_of)))
    (l_value_of : K.lookup f_value_of = some ⟨oc_value_of, od_value_of, .func (PySem.W.fnOf "value_of" "value_of" (defArgs s_value_of) (defBody s_value_of) (defScope s_value_of) .none kv_value_of dc_value_of pm_value_of an_value_of cd_value_of ct_value_of), sl_value_of⟩)
    (c_value_of : PySem.W.codeIn K cd_value_of "value_of" = true)
    (k_value_of : PySem.W.keepIn K (.ref f_value_of) = true)
    (a_plan_value : PySem.W.nsIn K mainGlobals "plan_value" = some (some (.ref f_plan_value)))
    (l_plan_value : K.lookup f_plan_value = some ⟨oc_plan_value, od_plan_value, .func (PySem.W.fnOf "plan_value" "plan_value" (defArgs s_plan_value) (defBody s_plan_value) (defScope s_plan_value) .none kv_plan_value dc_plan_value pm_plan_value an_plan_value cd_plan_value ct_plan_value), sl_plan_value⟩)
    (c_plan_value : PySem.W.codeIn K cd_plan_value "plan_value" = true)
    (k_plan_value : PySem.W.keepIn K (.ref f_plan_value) = true)
    (a_best_count : PySem.W.nsIn K mainGlobals "best_count" = some (some (.ref f_best_count)))
    (l_best_count : K.lookup f_best_count = some ⟨oc_best_count, od_best_count, .func (PySem.W.fnOf "best_count" "best_count" (defArgs s_best_count) (defBody s_best_count) (defScope s_best_count) .none kv_best_count dc_best_count pm_best_count an_best_count cd_best_count ct_best_count), sl_best_count⟩)
    (c_best_count : PySem.W.codeIn K cd_best_count "best_count" = true)
    (k_best_count : PySem.W.keepIn K (.ref f_best_count) = true)
    (a_is_worthwhile_alone : PySem.W.nsIn K mainGlobals "is_worthwhile_alone" = some (some (.ref f_is_worthwhile_alone)))
    (l_is_worthwhile_alone : K.lookup f_is_worthwhile_alone = some ⟨oc_is_worthwhile_alone, od_is_worthwhile_alone, .func (PySem.W.fnOf "is_worthwhile_alone" "is_worthwhile_alone" (defArgs s_is_worthwhile_alone) (defBody s_is_worthwhile_alone) (defScope s_is_worthwhile_alone) .none kv_is_worthwhile_alone dc_is_worthwhile_alone pm_is_worthwhile_alone an_is_worthwhile_alone cd_is_worthwhile_alone ct_is_worthwhile_alone), sl_is_worthwhile_alone⟩)
    (c_is_worthwhile_alone : PySem.W.codeIn K cd_is_worthwhile_alone "is_worthwhile_alone" = true)
    (k_is_worthwhile_alone : PySem.W.keepIn K (.ref f_is_worthwhile_alone) = true)
    (a_lookahead_count : PySem.W.nsIn K mainGlobals "lookahead_count" = some (some (.ref f_lookahead_count)))
    (l_lookahead_count : K.lookup f_lookahead_count = some ⟨oc_lookahead_count, od_lookahead_count, .func (PySem.W.fnOf "lookahead_count" "lookahead_count" (defArgs s_lookahead_count) (defBody s_lookahead_count) (defScope s_lookahead_count) .none kv_lookahead_count dc_lookahead_count pm_lookahead_count an_lookahead_count cd_lookahead_count ct_lookahead_count), sl_lookahead_count⟩)
    (c_lookahead_count : PySem.W.codeIn K cd_lookahead_count "lookahead_count" = true)
    (k_lookahead_count : PySem.W.keepIn K (.ref f_lookahead_count) = true)
    (a_is_monotone : PySem.W.nsIn K mainGlobals "is_monotone" = some (some (.ref f_is_monotone)))
    (l_is_monotone : K.lookup f_is_monotone = some ⟨oc_is_monotone, od_is_monotone, .func (PySem.W.fnOf "is_monotone" "is_monotone" (defArgs s_is_monotone) (defBody s_is_monotone) (defScope s_is_monotone) .none kv_is_monotone dc_is_monotone pm_is_monotone an_is_monotone cd_is_monotone ct_is_monotone), sl_is_monotone⟩)
    (c_is_monotone : PySem.W.codeIn K cd_is_monotone "is_monotone" = true)
    (k_is_monotone : PySem.W.keepIn K (.ref f_is_monotone) = true)
    (a_quiet_chance_of : PySem.W.nsIn K mainGlobals "quiet_chance_of" = some (some (.ref f_quiet_chance_of)))
    (l_quiet_chance_of : K.lookup f_quiet_chance_of = some ⟨oc_quiet_chance_of, od_quiet_chance_of, .func (PySem.W.fnOf "quiet_chance_of" "quiet_chance_of" (defArgs s_quiet_chance_of) (defBody s_quiet_chance_of) (defScope s_quiet_chance_of) .none kv_quiet_chance_of dc_quiet_chance_of pm_quiet_chance_of an_quiet_chance_of cd_quiet_chance_of ct_quiet_chance_of), sl_quiet_chance_of⟩)
    (c_quiet_chance_of : PySem.W.codeIn K cd_quiet_chance_of "quiet_chance_of" = true)
    (k_quiet_chance_of : PySem.W.keepIn K (.ref f_quiet_chance_of) = true)
    (a_greatest_cost : PySem.W.nsIn K mainGlobals "greatest_cost" = some (some (.ref f_greatest_cost)))
    (l_greatest_cost : K.lookup f_greatest_cost = some ⟨oc_greatest_cost, od_greatest_cost, .func (PySem.W.fnOf "greatest_cost" "greatest_cost" (defArgs s_greatest_cost) (defBody s_greatest_cost) (defScope s_greatest_cost) .none kv_greatest_cost dc_greatest_cost pm_greatest_cost an_greatest_cost cd_greatest_cost ct_greatest_cost), sl_greatest_cost⟩)
    (c_greatest_cost : PySem.W.codeIn K cd_greatest_cost "greatest_cost" = true)
    (k_greatest_cost : PySem.W.keepIn K (.ref f_greatest_cost) = true)
    (a_need : PySem.W.nsIn K mainGlobals "need" = some (some (.ref f_need)))
    (l_need : K.lookup f_need = some ⟨oc_need, od_need, .func (PySem.W.fnOf "need" "need" (defArgs s_need) (defBody s_need) (defScope s_need) .none kv_need dc_need pm_need an_need cd_need ct_need), sl_need⟩)
    (c_need : PySem.W.codeIn K cd_need "need" = true)
    (k_need : PySem.W.keepIn K (.ref f_need) = true)
    (a_Campaign___init__ : PySem.W.findIn K (.ref CC) "__init__" = some (some (.ref f_Campaign___init__)))
    (i_Campaign___init__ : PySem.W.isFn K (.ref f_Campaign___init__) = true)
    (l_Campaign___init__ : K.lookup f_Campaign___init__ = some ⟨oc_Campaign___init__, od_Campaign___init__, .func (PySem.W.fnOf "__init__" "Campaign.__init__" (defArgs s_Campaign___init__) (defBody s_Campaign___init__) (defScope s_Campaign___init__) .none kv_Campaign___init__ dc_Campaign___init__ pm_Campaign___init__ an_Campaign___init__ cd_Campaign___init__ ct_Campaign___init__), sl_Campaign___init__⟩)
    (c_Campaign___init__ : PySem.W.codeIn K cd_Campaign___init__ "Campaign.__init__" = true)
    (k_Campaign___init__ : PySem.W.keepIn K (.ref f_Campaign___init__) = true)
    (a_Campaign_begin_again : PySem.W.findIn K (.ref CC) "begin_again" = some (some (.ref f_Campaign_begin_again)))
    (i_Campaign_begin_again : PySem.W.isFn K (.ref f_Campaign_begin_again) = true)
    (l_Campaign_begin_again : K.lookup f_Campaign_begin_again = some ⟨oc_Campaign_begin_again, od_Campaign_begin_again, .func (PySem.W.fnOf "begin_again" "Campaign.begin_again" (defArgs s_Campaign_begin_again) (defBody s_Campaign_begin_again) (defScope s_Campaign_begin_again) .none kv_Campaign_begin_again dc_Campaign_begin_again pm_Campaign_begin_again an_Campaign_begin_again cd_Campaign_begin_again ct_Campaign_begin_again), sl_Campaign_begin_again⟩)
    (c_Campaign_begin_again : PySem.W.codeIn K cd_Campaign_begin_again "Campaign.begin_again" = true)
    (k_Campaign_begin_again : PySem.W.keepIn K (.ref f_Campaign_begin_again) = true)
    (a_Campaign_create : PySem.W.findIn K (.ref CC) "create" = some (some (.ref f_Campaign_create)))
    (i_Campaign_create : PySem.W.isFn K (.ref f_Campaign_create) = true)
    (l_Campaign_create : K.lookup f_Campaign_create = some ⟨oc_Campaign_create, od_Campaign_create, .func (PySem.W.fnOf "create" "Campaign.create" (defArgs s_Campaign_create) (defBody s_Campaign_create) (defScope s_Campaign_create) .none kv_Campaign_create dc_Campaign_create pm_Campaign_create an_Campaign_create cd_Campaign_create ct_Campaign_create), sl_Campaign_create⟩)
    (c_Campaign_create : PySem.W.codeIn K cd_Campaign_create "Campaign.create" = true)
    (k_Campaign_create : PySem.W.keepIn K (.ref f_Campaign_create) = true)
    (a_Campaign_go_on : PySem.W.findIn K (.ref CC) "go_on" = some (some (.ref f_Campaign_go_on)))
    (i_Campaign_go_on : PySem.W.isFn K (.ref f_Campaign_go_on) = true)
    (l_Campaign_go_on : K.lookup f_Campaign_go_on = some ⟨oc_Campaign_go_on, od_Campaign_go_on, .func (PySem.W.fnOf "go_on" "Campaign.go_on" (defArgs s_Campaign_go_on) (defBody s_Campaign_go_on) (defScope s_Campaign_go_on) .none kv_Campaign_go_on dc_Campaign_go_on pm_Campaign_go_on an_Campaign_go_on cd_Campaign_go_on ct_Campaign_go_on), sl_Campaign_go_on⟩)
    (c_Campaign_go_on : PySem.W.codeIn K cd_Campaign_go_on "Campaign.go_on" = true)
    (k_Campaign_go_on : PySem.W.keepIn K (.ref f_Campaign_go_on) = true)
    (a_Campaign_remaining : PySem.W.findIn K (.ref CC) "remaining" = some (some (.ref f_Campaign_remaining)))
    (i_Campaign_remaining : PySem.W.isFn K (.ref f_Campaign_remaining) = true)
    (l_Campaign_remaining : K.lookup f_Campaign_remaining = some ⟨oc_Campaign_remaining, od_Campaign_remaining, .func (PySem.W.fnOf "remaining" "Campaign.remaining" (defArgs s_Campaign_remaining) (defBody s_Campaign_remaining) (defScope s_Campaign_remaining) .none kv_Campaign_remaining dc_Campaign_remaining pm_Campaign_remaining an_Campaign_remaining cd_Campaign_remaining ct_Campaign_remaining), sl_Campaign_remaining⟩)
    (c_Campaign_remaining : PySem.W.codeIn K cd_Campaign_remaining "Campaign.remaining" = true)
    (k_Campaign_remaining : PySem.W.keepIn K (.ref f_Campaign_remaining) = true)
    (a_need_day : PySem.W.nsIn K mainGlobals "need_day" = some (some (.ref f_need_day)))
    (l_need_day : K.lookup f_need_day = some ⟨oc_need_day, od_need_day, .func (PySem.W.fnOf "need_day" "need_day" (defArgs s_need_day) (defBody s_need_day) (defScope s_need_day) .none kv_need_day dc_need_day pm_need_day an_need_day cd_need_day ct_need_day), sl_need_day⟩)
    (c_need_day : PySem.W.codeIn K cd_need_day "need_day" = true)
    (k_need_day : PySem.W.keepIn K (.ref f_need_day) = true)
    (a_first_remaining : PySem.W.nsIn K mainGlobals "first_remaining" = some (some (.ref f_first_remaining)))
    (l_first_remaining : K.lookup f_first_remaining = some ⟨oc_first_remaining, od_first_remaining, .func (PySem.W.fnOf "first_remaining" "first_remaining" (defArgs s_first_remaining) (defBody s_first_remaining) (defScope s_first_remaining) .none kv_first_remaining dc_first_remaining pm_first_remaining an_first_remaining cd_first_remaining ct_first_remaining), sl_first_remaining⟩)
    (c_first_remaining : PySem.W.codeIn K cd_first_remaining "first_remaining" = true)
    (k_first_remaining : PySem.W.keepIn K (.ref f_first_remaining) = true)
    (a_told_fraction : PySem.W.nsIn K mainGlobals "told_fraction" = some (some (.ref f_told_fraction)))
    (l_told_fraction : K.lookup f_told_fraction = some ⟨oc_told_fraction, od_told_fraction, .func (PySem.W.fnOf "told_fraction" "told_fraction" (defArgs s_told_fraction) (defBody s_told_fraction) (defScope s_told_fraction) .none kv_told_fraction dc_told_fraction pm_told_fraction an_told_fraction cd_told_fraction ct_told_fraction), sl_told_fraction⟩)
    (c_told_fraction : PySem.W.codeIn K cd_told_fraction "told_fraction" = true)
    (k_told_fraction : PySem.W.keepIn K (.ref f_told_fraction) = true)
    (a_told_truth : PySem.W.nsIn K mainGlobals "told_truth" = some (some (.ref f_told_truth)))
    (l_told_truth : K.lookup f_told_truth = some ⟨oc_told_truth, od_told_truth, .func (PySem.W.fnOf "told_truth" "told_truth" (defArgs s_told_truth) (defBody s_told_truth) (defScope s_told_truth) .none kv_told_truth dc_told_truth pm_told_truth an_told_truth cd_told_truth ct_told_truth), sl_told_truth⟩)
    (c_told_truth : PySem.W.codeIn K cd_told_truth "told_truth" = true)
    (k_told_truth : PySem.W.keepIn K (.ref f_told_truth) = true)
    (a_do_create : PySem.W.nsIn K mainGlobals "do_create" = some (some (.ref f_do_create)))
    (l_do_create : K.lookup f_do_create = some ⟨oc_do_create, od_do_create, .func (PySem.W.fnOf "do_create" "do_create" (defArgs s_do_create) (defBody s_do_create) (defScope s_do_create) .none kv_do_create dc_do_create pm_do_create an_do_create cd_do_create ct_do_create), sl_do_create⟩)
    (c_do_create : PySem.W.codeIn K cd_do_create "do_create" = true)
    (k_do_create : PySem.W.keepIn K (.ref f_do_create) = true)
    (a_do_add_day : PySem.W.nsIn K mainGlobals "do_add_day" = some (some (.ref f_do_add_day)))
    (l_do_add_day : K.lookup f_do_add_day = some ⟨oc_do_add_day, od_do_add_day, .func (PySem.W.fnOf "do_add_day" "do_add_day" (defArgs s_do_add_day) (defBody s_do_add_day) (defScope s_do_add_day) .none kv_do_add_day dc_do_add_day pm_do_add_day an_do_add_day cd_do_add_day ct_do_add_day), sl_do_add_day⟩)
    (c_do_add_day : PySem.W.codeIn K cd_do_add_day "do_add_day" = true)
    (k_do_add_day : PySem.W.keepIn K (.ref f_do_add_day) = true)
    (a_do_set_day : PySem.W.nsIn K mainGlobals "do_set_day" = some (some (.ref f_do_set_day)))
    (l_do_set_day : K.lookup f_do_set_day = some ⟨oc_do_set_day, od_do_set_day, .func (PySem.W.fnOf "do_set_day" "do_set_day" (defArgs s_do_set_day) (defBody s_do_set_day) (defScope s_do_set_day) .none kv_do_set_day dc_do_set_day pm_do_set_day an_do_set_day cd_do_set_day ct_do_set_day), sl_do_set_day⟩)
    (c_do_set_day : PySem.W.codeIn K cd_do_set_day "do_set_day" = true)
    (k_do_set_day : PySem.W.keepIn K (.ref f_do_set_day) = true)
    (a_do_remove_last_day : PySem.W.nsIn K mainGlobals "do_remove_last_day" = some (some (.ref f_do_remove_last_day)))
    (l_do_remove_last_day : K.lookup f_do_remove_last_day = some ⟨oc_do_remove_last_day, od_do_remove_last_day, .func (PySem.W.fnOf "do_remove_last_day" "do_remove_last_day" (defArgs s_do_remove_last_day) (defBody s_do_remove_last_day) (defScope s_do_remove_last_day) .none kv_do_remove_last_day dc_do_remove_last_day pm_do_remove_last_day an_do_remove_last_day cd_do_remove_last_day ct_do_remove_last_day), sl_do_remove_last_day⟩)
    (c_do_remove_last_day : PySem.W.codeIn K cd_do_remove_last_day "do_remove_last_day" = true)
    (k_do_remove_last_day : PySem.W.keepIn K (.ref f_do_remove_last_day) = true)
    (a_do_get_day : PySem.W.nsIn K mainGlobals "do_get_day" = some (some (.ref f_do_get_day)))
    (l_do_get_day : K.lookup f_do_get_day = some ⟨oc_do_get_day, od_do_get_day, .func (PySem.W.fnOf "do_get_day" "do_get_day" (defArgs s_do_get_day) (defBody s_do_get_day) (defScope s_do_get_day) .none kv_do_get_day dc_do_get_day pm_do_get_day an_do_get_day cd_do_get_day ct_do_get_day), sl_do_get_day⟩)
    (c_do_get_day : PySem.W.codeIn K cd_do_get_day "do_get_day" = true)
    (k_do_get_day : PySem.W.keepIn K (.ref f_do_get_day) = true)
    (a_do_value : PySem.W.nsIn K mainGlobals "do_value" = some (some (.ref f_do_value)))
    (l_do_value : K.lookup f_do_value = some ⟨oc_do_value, od_do_value, .func (PySem.W.fnOf "do_value" "do_value" (defArgs s_do_value) (defBody s_do_value) (defScope s_do_value) .none kv_do_value dc_do_value pm_do_value an_do_value cd_do_value ct_do_value), sl_do_value⟩)
    (c_do_value : PySem.W.codeIn K cd_do_value "do_value" = true)
    (k_do_value : PySem.W.keepIn K (.ref f_do_value) = true)
    (a_do_value_from : PySem.W.nsIn K mainGlobals "do_value_from" = some (some (.ref f_do_value_from)))
    (l_do_value_from : K.lookup f_do_value_from = some ⟨oc_do_value_from, od_do_value_from, .func (PySem.W.fnOf "do_value_from" "do_value_from" (defArgs s_do_value_from) (defBody s_do_value_from) (defScope s_do_value_from) .none kv_do_value_from dc_do_value_from pm_do_value_from an_do_value_from cd_do_value_from ct_do_value_from), sl_do_value_from⟩)
    (c_do_value_from : PySem.W.codeIn K cd_do_value_from "do_value_from" = true)
    (k_do_value_from : PySem.W.keepIn K (.ref f_do_value_from) = true)
    (a_do_plan_value : PySem.W.nsIn K mainGlobals "do_plan_value" = some (some (.ref f_do_plan_value)))
    (l_do_plan_value : K.lookup f_do_plan_value = some ⟨oc_do_plan_value, od_do_plan_value, .func (PySem.W.fnOf "do_plan_value" "do_plan_value" (defArgs s_do_plan_value) (defBody s_do_plan_value) (defScope s_do_plan_value) .none kv_do_plan_value dc_do_plan_value pm_do_plan_value an_do_plan_value cd_do_plan_value ct_do_plan_value), sl_do_plan_value⟩)
    (c_do_plan_value : PySem.W.codeIn K cd_do_plan_value "do_plan_value" = true)
    (k_do_plan_value : PySem.W.keepIn K (.ref f_do_plan_value) = true)
    (a_do_best_count : PySem.W.nsIn K mainGlobals "do_best_count" = some (some (.ref f_do_best_count)))
    (l_do_best_count : K.lookup f_do_best_count = some ⟨oc_do_best_count, od_do_best_count, .func (PySem.W.fnOf "do_best_count" "do_best_count" (defArgs s_do_best_count) (defBody s_do_best_count) (defScope s_do_best_count) .none kv_do_best_count dc_do_best_count pm_do_best_count an_do_best_count cd_do_best_count ct_do_best_count), sl_do_best_count⟩)
    (c_do_best_count : PySem.W.codeIn K cd_do_best_count "do_best_count" = true)
    (k_do_best_count : PySem.W.keepIn K (.ref f_do_best_count) = true)
    (a_do_lookahead_count : PySem.W.nsIn K mainGlobals "do_lookahead_count" = some (some (.ref f_do_lookahead_count)))
    (l_do_lookahead_count : K.lookup f_do_lookahead_count = some ⟨oc_do_lookahead_count, od_do_lookahead_count, .func (PySem.W.fnOf "do_lookahead_count" "do_lookahead_count" (defArgs s_do_lookahead_count) (defBody s_do_lookahead_count) (defScope s_do_lookahead_count) .none kv_do_lookahead_count dc_do_lookahead_count pm_do_lookahead_count an_do_lookahead_count cd_do_lookahead_count ct_do_lookahead_count), sl_do_lookahead_count⟩)
    (c_do_lookahead_count : PySem.W.codeIn K cd_do_lookahead_count "do_lookahead_count" = true)
    (k_do_lookahead_count : PySem.W.keepIn K (.ref f_do_lookahead_count) = true)
    (a_do_single_day_value : PySem.W.nsIn K mainGlobals "do_single_day_value" = some (some (.ref f_do_single_day_value)))
    (l_do_single_day_value : K.lookup f_do_single_day_value = some ⟨oc_do_single_day_value, od_do_single_day_value, .func (PySem.W.fnOf "do_single_day_value" "do_single_day_value" (defArgs s_do_single_day_value) (defBody s_do_single_day_value) (defScope s_do_single_day_value) .none kv_do_single_day_value dc_do_single_day_value pm_do_single_day_value an_do_single_day_value cd_do_single_day_value ct_do_single_day_value), sl_do_single_day_value⟩)
    (c_do_single_day_value : PySem.W.codeIn K cd_do_single_day_value "do_single_day_value" = true)
    (k_do_single_day_value : PySem.W.keepIn K (.ref f_do_single_day_value) = true)
    (a_do_is_monotone : PySem.W.nsIn K mainGlobals "do_is_monotone" = some (some (.ref f_do_is_monotone)))
    (l_do_is_monotone : K.lookup f_do_is_monotone = some ⟨oc_do_is_monotone, od_do_is_monotone, .func (PySem.W.fnOf "do_is_monotone" "do_is_monotone" (defArgs s_do_is_monotone) (defBody s_do_is_monotone) (defScope s_do_is_monotone) .none kv_do_is_monotone dc_do_is_monotone pm_do_is_monotone an_do_is_monotone cd_do_is_monotone ct_do_is_monotone), sl_do_is_monotone⟩)
    (c_do_is_monotone : PySem.W.codeIn K cd_do_is_monotone "do_is_monotone" = true)
    (k_do_is_monotone : PySem.W.keepIn K (.ref f_do_is_monotone) = true)
    (a_do_quiet_probability : PySem.W.nsIn K mainGlobals "do_quiet_probability" = some (some (.ref f_do_quiet_probability)))
    (l_do_quiet_probability : K.lookup f_do_quiet_probability = some ⟨oc_do_quiet_probability, od_do_quiet_probability, .func (PySem.W.fnOf "do_quiet_probability" "do_quiet_probability" (defArgs s_do_quiet_probability) (defBody s_do_quiet_probability) (defScope s_do_quiet_probability) .none kv_do_quiet_probability dc_do_quiet_probability pm_do_quiet_probability an_do_quiet_probability cd_do_quiet_probability ct_do_quiet_probability), sl_do_quiet_probability⟩)
    (c_do_quiet_probability : PySem.W.codeIn K cd_do_quiet_probability "do_quiet_probability" = true)
    (k_do_quiet_probability : PySem.W.keepIn K (.ref f_do_quiet_probability) = true)
    (a_do_continue_campaign : PySem.W.nsIn K mainGlobals "do_continue_campaign" = some (some (.ref f_do_continue_campaign)))
    (l_do_continue_campaign : K.lookup f_do_continue_campaign = some ⟨oc_do_continue_campaign, od_do_continue_campaign, .func (PySem.W.fnOf "do_continue_campaign" "do_continue_campaign" (defArgs s_do_continue_campaign) (defBody s_do_continue_campaign) (defScope s_do_continue_campaign) .none kv_do_continue_campaign dc_do_continue_campaign pm_do_continue_campaign an_do_continue_campaign cd_do_continue_campaign ct_do_continue_campaign), sl_do_continue_campaign⟩)
    (c_do_continue_campaign : PySem.W.codeIn K cd_do_continue_campaign "do_continue_campaign" = true)
    (k_do_continue_campaign : PySem.W.keepIn K (.ref f_do_continue_campaign) = true)
    (a_do_stop : PySem.W.nsIn K mainGlobals "do_stop" = some (some (.ref f_do_stop)))
    (l_do_stop : K.lookup f_do_stop = some ⟨oc_do_stop, od_do_stop, .func (PySem.W.fnOf "do_stop" "do_stop" (defArgs s_do_stop) (defBody s_do_stop) (defScope s_do_stop) .none kv_do_stop dc_do_stop pm_do_stop an_do_stop cd_do_stop ct_do_stop), sl_do_stop⟩)
    (c_do_stop : PySem.W.codeIn K cd_do_stop "do_stop" = true)
    (k_do_stop : PySem.W.keepIn K (.ref f_do_stop) = true)
    (a_do_restart : PySem.W.nsIn K mainGlobals "do_restart" = some (some (.ref f_do_restart)))
    (l_do_restart : K.lookup f_do_restart = some ⟨oc_do_restart, od_do_restart, .func (PySem.W.fnOf "do_restart" "do_restart" (defArgs s_do_restart) (defBody s_do_restart) (defScope s_do_restart) .none kv_do_restart dc_do_restart pm_do_restart an_do_restart cd_do_restart ct_do_restart), sl_do_restart⟩)
    (c_do_restart : PySem.W.codeIn K cd_do_restart "do_restart" = true)
    (k_do_restart : PySem.W.keepIn K (.ref f_do_restart) = true)
    (a_do_max_event_cost : PySem.W.nsIn K mainGlobals "do_max_event_cost" = some (some (.ref f_do_max_event_cost)))
    (l_do_max_event_cost : K.lookup f_do_max_event_cost = some ⟨oc_do_max_event_cost, od_do_max_event_cost, .func (PySem.W.fnOf "do_max_event_cost" "do_max_event_cost" (defArgs s_do_max_event_cost) (defBody s_do_max_event_cost) (defScope s_do_max_event_cost) .none kv_do_max_event_cost dc_do_max_event_cost pm_do_max_event_cost an_do_max_event_cost cd_do_max_event_cost ct_do_max_event_cost), sl_do_max_event_cost⟩)
    (c_do_max_event_cost : PySem.W.codeIn K cd_do_max_event_cost "do_max_event_cost" = true)
    (k_do_max_event_cost : PySem.W.keepIn K (.ref f_do_max_event_cost) = true)
    (a_do_value_with_cost : PySem.W.nsIn K mainGlobals "do_value_with_cost" = some (some (.ref f_do_value_with_cost)))
    (l_do_value_with_cost : K.lookup f_do_value_with_cost = some ⟨oc_do_value_with_cost, od_do_value_with_cost, .func (PySem.W.fnOf "do_value_with_cost" "do_value_with_cost" (defArgs s_do_value_with_cost) (defBody s_do_value_with_cost) (defScope s_do_value_with_cost) .none kv_do_value_with_cost dc_do_value_with_cost pm_do_value_with_cost an_do_value_with_cost cd_do_value_with_cost ct_do_value_with_cost), sl_do_value_with_cost⟩)
    (c_do_value_with_cost : PySem.W.codeIn K cd_do_value_with_cost "do_value_with_cost" = true)
    (k_do_value_with_cost : PySem.W.keepIn K (.ref f_do_value_with_cost) = true)
    (a_do_is_worthwhile : PySem.W.nsIn K mainGlobals "do_is_worthwhile" = some (some (.ref f_do_is_worthwhile)))
    (l_do_is_worthwhile : K.lookup f_do_is_worthwhile = some ⟨oc_do_is_worthwhile, od_do_is_worthwhile, .func (PySem.W.fnOf "do_is_worthwhile" "do_is_worthwhile" (defArgs s_do_is_worthwhile) (defBody s_do_is_worthwhile) (defScope s_do_is_worthwhile) .none kv_do_is_worthwhile dc_do_is_worthwhile pm_do_is_worthwhile an_do_is_worthwhile cd_do_is_worthwhile ct_do_is_worthwhile), sl_do_is_worthwhile⟩)
    (c_do_is_worthwhile : PySem.W.codeIn K cd_do_is_worthwhile "do_is_worthwhile" = true)
    (k_do_is_worthwhile : PySem.W.keepIn K (.ref f_do_is_worthwhile) = true)
    (a_do_summary : PySem.W.nsIn K mainGlobals "do_summary" = some (some (.ref f_do_summary)))
    (l_do_summary : K.lookup f_do_summary = some ⟨oc_do_summary, od_do_summary, .func (PySem.W.fnOf "do_summary" "do_summary" (defArgs s_do_summary) (defBody s_do_summary) (defScope s_do_summary) .none kv_do_summary dc_do_summary pm_do_summary an_do_summary cd_do_summary ct_do_summary), sl_do_summary⟩)
    (c_do_summary : PySem.W.codeIn K cd_do_summary "do_summary" = true)
    (k_do_summary : PySem.W.keepIn K (.ref f_do_summary) = true)
    (a_done : PySem.W.nsIn K mainGlobals "done" = some (some (.ref f_done)))
    (l_done : K.lookup f_done = some ⟨oc_done, od_done, .func (PySem.W.fnOf "done" "done" (defArgs s_done) (defBody s_done) (defScope s_done) .none kv_done dc_done pm_done an_done cd_done ct_done), sl_done⟩)
    (c_done : PySem.W.codeIn K cd_done "done" = true)
    (k_done : PySem.W.keepIn K (.ref f_done) = true)
    (a_answer : PySem.W.nsIn K mainGlobals "answer" = some (some (.ref f_answer)))
    (l_answer : K.lookup f_answer = some ⟨oc_answer, od_answer, .func (PySem.W.fnOf "answer" "answer" (defArgs s_answer) (defBody s_answer) (defScope s_answer) .none kv_answer dc_answer pm_answer an_answer cd_answer ct_answer), sl_answer⟩)
    (c_answer : PySem.W.codeIn K cd_answer "answer" = true)
    (k_answer : PySem.W.keepIn K (.ref f_answer) = true)
    (a_answers : PySem.W.nsIn K mainGlobals "answers" = some (some (.ref f_answers)))
    (l_answers : K.lookup f_answers = some ⟨oc_answers, od_answers, .func (PySem.W.fnOf "answers" "answers" (defArgs s_answers) (defBody s_answers) (defScope s_answers) .none kv_answers dc_answers pm_answers an_answers cd_answers ct_answers), sl_answers⟩)
    (c_answers : PySem.W.codeIn K cd_answers "answers" = true)
    (k_answers : PySem.W.keepIn K (.ref f_answers) = true)
    (n_MOST_GAIN : PySem.W.nsIn K mainGlobals "MOST_GAIN" = some (some (.int (1000) t_MOST_GAIN)))
    (n_MOST_DENOMINATOR : PySem.W.nsIn K mainGlobals "MOST_DENOMINATOR" = some (some (.int (100) t_MOST_DENOMINATOR)))
    (n_MOST_COST : PySem.W.nsIn K mainGlobals "MOST_COST" = some (some (.int (10000) t_MOST_COST)))
    (n_RUNNING : PySem.W.nsIn K mainGlobals "RUNNING" = some (some (.int (0) t_RUNNING)))
    (n_ENDED : PySem.W.nsIn K mainGlobals "ENDED" = some (some (.int (1) t_ENDED)))
    (n_NO_DAY : PySem.W.nsIn K mainGlobals "NO_DAY" = some (some (.int (-2) t_NO_DAY)))
    (n_MOST_DAYS : PySem.W.nsIn K mainGlobals "MOST_DAYS" = some (some (.int (10) t_MOST_DAYS)))
    (n_TOO_MANY : PySem.W.nsIn K mainGlobals "TOO_MANY" = some (some (.int (-28) t_TOO_MANY)))
    (n_OUT_OF_RANGE : PySem.W.nsIn K mainGlobals "OUT_OF_RANGE" = some (some (.int (-22) t_OUT_OF_RANGE)))
    (n_NOT_POSSIBLE : PySem.W.nsIn K mainGlobals "NOT_POSSIBLE" = some (some (.int (-16) t_NOT_POSSIBLE)))
    (n_NOTHING_TO_REMOVE : PySem.W.nsIn K mainGlobals "NOTHING_TO_REMOVE" = some (some (.int (-6) t_NOTHING_TO_REMOVE)))
    (n_NONE_LEFT : PySem.W.nsIn K mainGlobals "NONE_LEFT" = some (some (.int (-33) t_NONE_LEFT)))
    (n_MOST_SAMPLE : PySem.W.nsIn K mainGlobals "MOST_SAMPLE" = some (some (.int (999) t_MOST_SAMPLE)))
    (n_STOPPED : PySem.W.nsIn K mainGlobals "STOPPED" = some (some (.int (2) t_STOPPED)))
    (n_CREATE : PySem.W.nsIn K mainGlobals "CREATE" = some (some (.int (0) t_CREATE)))
    (n_NOT_CREATED : PySem.W.nsIn K mainGlobals "NOT_CREATED" = some (some (.int (-11) t_NOT_CREATED)))
    (z_abs : PySem.W.nsIn K mainGlobals "abs" = some none)
    (z_reversed : PySem.W.nsIn K mainGlobals "reversed" = some none)
    (z_range : PySem.W.nsIn K mainGlobals "range" = some none)
    (z_len : PySem.W.nsIn K mainGlobals "len" = some none)
    (z_enumerate : PySem.W.nsIn K mainGlobals "enumerate" = some none)
    (z_any : PySem.W.nsIn K mainGlobals "any" = some none)
    (z_min : PySem.W.nsIn K mainGlobals "min" = some none)
    (z_list : PySem.W.nsIn K mainGlobals "list" = some none)
    (a_ZERO : PySem.W.nsIn K mainGlobals "ZERO" = some (some (.ref zA)))
    (l_ZERO : K.lookup zA = some u_ZERO)
    (y_ZERO : u_ZERO.cls = .type "tuple")
    (d_ZERO : u_ZERO.data = .seq its_ZERO m_ZERO)
    (v_ZERO : Vals (fr 0) its_ZERO.toList)
    (w_ZERO : its_ZERO.size ≤ sizeLine)
    (a_ONE : PySem.W.nsIn K mainGlobals "ONE" = some (some (.ref oA)))
    (l_ONE : K.lookup oA = some u_ONE)
    (y_ONE : u_ONE.cls = .type "tuple")
    (d_ONE : u_ONE.data = .seq its_ONE m_ONE)
    (v_ONE : Vals (fr 1) its_ONE.toList)
    (w_ONE : its_ONE.size ≤ sizeLine)
    (a_SIZES : PySem.W.nsIn K mainGlobals "SIZES" = some (some (.ref sA)))
    (l_SIZES : K.lookup sA = some u_SIZES)
    (y_SIZES : u_SIZES.cls = .type "tuple")
    (d_SIZES : u_SIZES.data = .seq its_SIZES m_SIZES)
    (v_SIZES : Vals (numV Hd.sizes) its_SIZES.toList)
    (w_SIZES : its_SIZES.size ≤ sizeLine)
    (a_DEEDS : PySem.W.nsIn K mainGlobals "DEEDS" = some (some (.ref dA)))
    (l_DEEDS : K.lookup dA = some u_DEEDS)
    (y_DEEDS : u_DEEDS.cls = .type "tuple")
    (d_DEEDS : u_DEEDS.data = .seq its_DEEDS m_DEEDS)
    (v_DEEDS : Vals ([V.ref f_do_create, V.ref f_do_add_day, V.ref f_do_set_day, V.ref f_do_remove_last_day, V.ref f_do_get_day, V.ref f_do_value, V.ref f_do_value_from, V.ref f_do_plan_value, V.ref f_do_best_count, V.ref f_do_lookahead_count, V.ref f_do_single_day_value, V.ref f_do_is_monotone, V.ref f_do_quiet_probability, V.ref f_do_continue_campaign, V.ref f_do_stop, V.ref f_do_restart, V.ref f_do_max_event_cost, V.ref f_do_value_with_cost, V.ref f_do_is_worthwhile, V.ref f_do_summary]) its_DEEDS.toList)
    (w_DEEDS : its_DEEDS.size ≤ sizeLine)
    (pgCD : PySem.W.plainGet K CD Str.empty = true)
    (hdCD : PySem.W.hasDictIn K CD = true)
    (poCD : PySem.W.plainOver K CD = true)
    (saCD : PySem.W.findIn K (.ref CD) "__setattr__" = some (some (.builtin "object.__setattr__")))
    (mkCD : PySem.W.makesIn K CD = true)
    (kcCD : PySem.W.keepIn K (.ref CD) = true)
    (pgCC : PySem.W.plainGet K CC Str.empty = true)
    (hdCC : PySem.W.hasDictIn K CC = true)
    (poCC : PySem.W.plainOver K CC = true)
    (saCC : PySem.W.findIn K (.ref CC) "__setattr__" = some (some (.builtin "object.__setattr__")))
    (mkCC : PySem.W.makesIn K CC = true)
    (kcCC : PySem.W.keepIn K (.ref CC) = true)
    (ngCD : PySem.W.findIn K (.ref CD) "gain" = some none)
    (nnCD : PySem.W.findIn K (.ref CD) "numerator" = some none)
    (ndCD : PySem.W.findIn K (.ref CD) "denominator" = some none)
    (ncCD : PySem.W.findIn K (.ref CD) "cost" = some none)
    (ncCC : PySem.W.findIn K (.ref CC) "is_created" = some none)
    (ndCC : PySem.W.findIn K (.ref CC) "days" = some none)
    (nnCC : PySem.W.findIn K (.ref CC) "next_day" = some none)
    (ntCC : PySem.W.findIn K (.ref CC) "total" = some none)
    (nsCC : PySem.W.findIn K (.ref CC) "status" = some none)
    (neC : CC ≠ CD)
    (xR : K.lookup CR = some (excClassObj nmR qR CR NR bsR [.type "ValueError", .type "Exception", .type "BaseException", .type "object"] true snR subR abR colR ddR m0R m1R m2R m3R m5R "ValueError.__new__"))
    (saR : PySem.W.findIn K (.ref CR) "__setattr__" = some (some (.builtin "object.__setattr__")))
    (gaR : PySem.W.findIn K (.ref CR) "__getattribute__" = some (some (.builtin "BaseException.__getattribute__")))
    (ggR : PySem.W.findIn K (.ref CR) "__getattr__" = some none)
    (nbR : PySem.W.findIn K (.ref CR) "code" = some none)
    (a1R : PySem.W.findIn K (.ref CR) "__init__" = some (some (.ref fR)))
    (t1R : PySem.W.typeIn K (.ref fR) = some (.type "function"))
    (l1R : K.lookup fR = some ⟨ocR, odR, .func (PySem.W.fnOf "__init__" "Refusal.__init__" (PySem.LowX.iA p1 p2) (PySem.LowX.iB q1 q2 q3 q4) PySem.LowX.iS .none .none dcR pmR anR cdR ctR), slR⟩)
    (c1R : PySem.W.codeIn K cdR "Refusal.__init__" = true)
    (kCR : PySem.W.keepIn K (.ref CR) = true)
    (eCR : PySem.W.subIn K (.ref CR) (.type "BaseException") = some true)
    (tCR : PySem.W.typeIn K (.ref CR) = some (.type "type"))
    (hCR : PySem.W.hasDictIn K CR = true)
    (iCR : PySem.W.isClsIn K CR = true)
    (sCR : PySem.W.subIn K (.ref CR) (.ref CR) = some true) :
    ∃ fd : FuncData, (∀ (s : Shared) (us : List Value), us.length = (["calls"] : List Str).length → BindsTo s fd ⟨us, []⟩ ((["calls"] : List Str).zip us)) ∧ ∀ base : Heap, K.In base → base.Ns mainGlobals mg → FnOk P w K mg base CX0 13 fa fd ["calls"] (spAnswers K) := by
  have e := hfa.symm.trans (PySem.W.mg_of X G a_answers)
  cases e
  have low : PySem.LowX.LowTxt K mg CR fR :=
    { gC := PySem.W.mg_of X G aCR, cls := ⟨nmR, qR, NR, bsR, _, snR, subR, abR, colR, ddR, m0R, m1R, m2R, m3R, m5R, xR, by decide +kernel⟩, sa := saR, ga := gaR, gg := ggR, noN := nbR, iC := a1R, tC := t1R, kC := kCR, exC := eCR, tyC := tCR, hdC := hCR, te := exm_self eCR iCR tCR sCR,
      fn := ⟨_, _, _, _, _, _, _, _, _, _, _, _, _, _, l1R, c1R⟩ }
  have tD : TDay K CD := ⟨⟨pgCD, hdCD, poCD, saCD⟩, ngCD, nnCD, ndCD, ncCD⟩
  have tC : TCamp K CC := ⟨⟨pgCC, hdCC, poCC, saCC⟩, ncCC, ndCC, nnCC, ntCC, nsCC⟩
  have mkD : Mk K CD f_Day___init__ := ⟨mkCD, a_Day___init__, i_Day___init__, kcCD⟩
  have mkC : Mk K CC f_Campaign___init__ := ⟨mkCC, a_Campaign___init__, i_Campaign___init__, kcCC⟩
  have tup_ZERO : KTup K zA (fr 0) := ⟨u_ZERO, its_ZERO, m_ZERO, l_ZERO, y_ZERO, d_ZERO, w_ZERO, v_ZERO⟩
  have tup_ONE : KTup K oA (fr 1) := ⟨u_ONE, its_ONE, m_ONE, l_ONE, y_ONE, d_ONE, w_ONE, v_ONE⟩
  have tup_SIZES : KTup K sA (numV Hd.sizes) := ⟨u_SIZES, its_SIZES, m_SIZES, l_SIZES, y_SIZES, d_SIZES, w_SIZES, v_SIZES⟩
  have tup_DEEDS : KTup K dA ([V.ref f_do_create, V.ref f_do_add_day, V.ref f_do_set_day, V.ref f_do_remove_last_day, V.ref f_do_get_day, V.ref f_do_value, V.ref f_do_value_from, V.ref f_do_plan_value, V.ref f_do_best_count, V.ref f_do_lookahead_count, V.ref f_do_single_day_value, V.ref f_do_is_monotone, V.ref f_do_quiet_probability, V.ref f_do_continue_campaign, V.ref f_do_stop, V.ref f_do_restart, V.ref f_do_max_event_cost, V.ref f_do_value_with_cost, V.ref f_do_is_worthwhile, V.ref f_do_summary]) := ⟨u_DEEDS, its_DEEDS, m_DEEDS, l_DEEDS, y_DEEDS, d_DEEDS, w_DEEDS, v_DEEDS⟩
  have g_MOST_GAIN : ∃ t, mg "MOST_GAIN" = some (.int (1000) t) := ⟨_, PySem.W.mg_of X G n_MOST_GAIN⟩
  have g_MOST_DENOMINATOR : ∃ t, mg "MOST_DENOMINATOR" = some (.int (100) t) := ⟨_, PySem.W.mg_of X G n_MOST_DENOMINATOR⟩
  have g_MOST_COST : ∃ t, mg "MOST_COST" = some (.int (10000) t) := ⟨_, PySem.W.mg_of X G n_MOST_COST⟩
  have g_RUNNING : ∃ t, mg "RUNNING" = some (.int (0) t) := ⟨_, PySem.W.mg_of X G n_RUNNING⟩
  have g_ENDED : ∃ t, mg "ENDED" = some (.int (1) t) := ⟨_, PySem.W.mg_of X G n_ENDED⟩
  have g_NO_DAY : ∃ t, mg "NO_DAY" = some (.int (-2) t) := ⟨_, PySem.W.mg_of X G n_NO_DAY⟩
  have g_MOST_DAYS : ∃ t, mg "MOST_DAYS" = some (.int (10) t) := ⟨_, PySem.W.mg_of X G n_MOST_DAYS⟩
  have g_TOO_MANY : ∃ t, mg "TOO_MANY" = some (.int (-28) t) := ⟨_, PySem.W.mg_of X G n_TOO_MANY⟩
  have g_OUT_OF_RANGE : ∃ t, mg "OUT_OF_RANGE" = some (.int (-22) t) := ⟨_, PySem.W.mg_of X G n_OUT_OF_RANGE⟩
  have g_NOT_POSSIBLE : ∃ t, mg "NOT_POSSIBLE" = some (.int (-16) t) := ⟨_, PySem.W.mg_of X G n_NOT_POSSIBLE⟩
  have g_NOTHING_TO_REMOVE : ∃ t, mg "NOTHING_TO_REMOVE" = some (.int (-6) t) := ⟨_, PySem.W.mg_of X G n_NOTHING_TO_REMOVE⟩
  have g_NONE_LEFT : ∃ t, mg "NONE_LEFT" = some (.int (-33) t) := ⟨_, PySem.W.mg_of X G n_NONE_LEFT⟩
  have g_MOST_SAMPLE : ∃ t, mg "MOST_SAMPLE" = some (.int (999) t) := ⟨_, PySem.W.mg_of X G n_MOST_SAMPLE⟩
  have g_STOPPED : ∃ t, mg "STOPPED" = some (.int (2) t) := ⟨_, PySem.W.mg_of X G n_STOPPED⟩
  have g_CREATE : ∃ t, mg "CREATE" = some (.int (0) t) := ⟨_, PySem.W.mg_of X G n_CREATE⟩
  have g_NOT_CREATED : ∃ t, mg "NOT_CREATED" = some (.int (-11) t) := ⟨_, PySem.W.mg_of X G n_NOT_CREATED⟩
  have g_abs : mg "abs" = none := PySem.W.mg_none_of X G z_abs
  have g_reversed : mg "reversed" = none := PySem.W.mg_none_of X G z_reversed
  have g_range : mg "range" = none := PySem.W.mg_none_of X G z_range
  have g_len : mg "len" = none := PySem.W.mg_none_of X G z_len
  have g_enumerate : mg "enumerate" = none := PySem.W.mg_none_of X G z_enumerate
  have g_any : mg "any" = none := PySem.W.mg_none_of X G z_any
  have g_min : mg "min" = none := PySem.W.mg_none_of X G z_min
  have g_list : mg "list" = none := PySem.W.mg_none_of X G z_list
  have g_ZERO : mg "ZERO" = some (.ref zA) := PySem.W.mg_of X G a_ZERO
  have g_ONE : mg "ONE" = some (.ref oA) := PySem.W.mg_of X G a_ONE
  have g_SIZES : mg "SIZES" = some (.ref sA) := PySem.W.mg_of X G a_SIZES
  have g_DEEDS : mg "DEEDS" = some (.ref dA) := PySem.W.mg_of X G a_DEEDS
  have g_Day : mg "Day" = some (.ref CD) := PySem.W.mg_of X G aCD
  have g_Campaign : mg "Campaign" = some (.ref CC) := PySem.W.mg_of X G aCC
  have F_common_divisor := fun_mk (st := s_common_divisor) l_common_divisor c_common_divisor k_common_divisor
  have b_common_divisor := F_common_divisor.binds (ps := ["one", "other"]) fun _ _ _ _ _ _ us hl => match us, hl with | [_, _], _ => rfl
  have F_ratio := fun_mk (st := s_ratio) l_ratio c_ratio k_ratio
  have b_ratio := F_ratio.binds (ps := ["numerator", "denominator"]) fun _ _ _ _ _ _ us hl => match us, hl with | [_, _], _ => rfl
  have F_whole := fun_mk (st := s_whole) l_whole c_whole k_whole
  have b_whole := F_whole.binds (ps := ["number"]) fun _ _ _ _ _ _ us hl => match us, hl with | [_], _ => rfl
  have F_total_of := fun_mk (st := s_total_of) l_total_of c_total_of k_total_of
  have b_total_of := F_total_of.binds (ps := ["one", "other"]) fun _ _ _ _ _ _ us hl => match us, hl with | [_, _], _ => rfl
  have F_difference_of := fun_mk (st := s_difference_of) l_difference_of c_difference_of k_difference_of
  have b_difference_of := F_difference_of.binds (ps := ["one", "other"]) fun _ _ _ _ _ _ us hl => match us, hl with | [_, _], _ => rfl
  have F_product_of := fun_mk (st := s_product_of) l_product_of c_product_of k_product_of
  have b_product_of := F_product_of.binds (ps := ["one", "other"]) fun _ _ _ _ _ _ us hl => match us, hl with | [_, _], _ => rfl
  have F_is_greater := fun_mk (st := s_is_greater) l_is_greater c_is_greater k_is_greater
  have b_is_greater := F_is_greater.binds (ps := ["one", "other"]) fun _ _ _ _ _ _ us hl => match us, hl with | [_, _], _ => rfl
  have F_is_positive := fun_mk (st := s_is_positive) l_is_positive c_is_positive k_is_positive
  have b_is_positive := F_is_positive.binds (ps := ["one"]) fun _ _ _ _ _ _ us hl => match us, hl with | [_], _ => rfl
  have F_greater_of := fun_mk (st := s_greater_of) l_greater_of c_greater_of k_greater_of
  have b_greater_of := F_greater_of.binds (ps := ["one", "other"]) fun _ _ _ _ _ _ us hl => match us, hl with | [_, _], _ => rfl
  have F_Day___init__ := fun_mk (st := s_Day___init__) l_Day___init__ c_Day___init__ k_Day___init__
  have b_Day___init__ := F_Day___init__.binds (ps := ["self", "gain", "numerator", "denominator", "cost"]) fun _ _ _ _ _ _ us hl => match us, hl with | [_, _, _, _, _], _ => rfl
  have F_are_fields := fun_mk (st := s_are_fields) l_are_fields c_are_fields k_are_fields
  have b_are_fields := F_are_fields.binds (ps := ["gain", "numerator", "denominator", "cost"]) fun _ _ _ _ _ _ us hl => match us, hl with | [_, _, _, _], _ => rfl
  have F_fields_of := fun_mk (st := s_fields_of) l_fields_of c_fields_of k_fields_of
  have b_fields_of := F_fields_of.binds (ps := ["day"]) fun _ _ _ _ _ _ us hl => match us, hl with | [_], _ => rfl
  have F_with_cost := fun_mk (st := s_with_cost) l_with_cost c_with_cost k_with_cost
  have b_with_cost := F_with_cost.binds (ps := ["day", "cost"]) fun _ _ _ _ _ _ us hl => match us, hl with | [_, _], _ => rfl
  have F_event_chance := fun_mk (st := s_event_chance) l_event_chance c_event_chance k_event_chance
  have b_event_chance := F_event_chance.binds (ps := ["day"]) fun _ _ _ _ _ _ us hl => match us, hl with | [_], _ => rfl
  have F_quiet_chance := fun_mk (st := s_quiet_chance) l_quiet_chance c_quiet_chance k_quiet_chance
  have b_quiet_chance := F_quiet_chance.binds (ps := ["day"]) fun _ _ _ _ _ _ us hl => match us, hl with | [_], _ => rfl
  have F_quiet_part := fun_mk (st := s_quiet_part) l_quiet_part c_quiet_part k_quiet_part
  have b_quiet_part := F_quiet_part.binds (ps := ["day", "behind"]) fun _ _ _ _ _ _ us hl => match us, hl with | [_, _], _ => rfl
  have F_event_part := fun_mk (st := s_event_part) l_event_part c_event_part k_event_part
  have b_event_part := F_event_part.binds (ps := ["day"]) fun _ _ _ _ _ _ us hl => match us, hl with | [_], _ => rfl
  have F_worth := fun_mk (st := s_worth) l_worth c_worth k_worth
  have b_worth := F_worth.binds (ps := ["day", "behind"]) fun _ _ _ _ _ _ us hl => match us, hl with | [_, _], _ => rfl
  have F_single_day_value := fun_mk (st := s_single_day_value) l_single_day_value c_single_day_value k_single_day_value
  have b_single_day_value := F_single_day_value.binds (ps := ["day"]) fun _ _ _ _ _ _ us hl => match us, hl with | [_], _ => rfl
  have F_has_event := fun_mk (st := s_has_event) l_has_event c_has_event k_has_event
  have b_has_event := F_has_event.binds (ps := ["day", "sample"]) fun _ _ _ _ _ _ us hl => match us, hl with | [_, _], _ => rfl
  have F_value_of := fun_mk (st := s_value_of) l_value_of c_value_of k_value_of
  have b_value_of := F_value_of.binds (ps := ["days"]) fun _ _ _ _ _ _ us hl => match us, hl with | [_], _ => rfl
  have F_plan_value := fun_mk (st := s_plan_value) l_plan_value c_plan_value k_plan_value
  have b_plan_value := F_plan_value.binds (ps := ["days"]) fun _ _ _ _ _ _ us hl => match us, hl with | [_], _ => rfl
  have F_best_count := fun_mk (st := s_best_count) l_best_count c_best_count k_best_count
  have b_best_count := F_best_count.binds (ps := ["days"]) fun _ _ _ _ _ _ us hl => match us, hl with | [_], _ => rfl
  have F_is_worthwhile_alone := fun_mk (st := s_is_worthwhile_alone) l_is_worthwhile_alone c_is_worthwhile_alone k_is_worthwhile_alone
  have b_is_worthwhile_alone := F_is_worthwhile_alone.binds (ps := ["day"]) fun _ _ _ _ _ _ us hl => match us, hl with | [_], _ => rfl
  have F_lookahead_count := fun_mk (st := s_lookahead_count) l_lookahead_count c_lookahead_count k_lookahead_count
  have b_lookahead_count := F_lookahead_count.binds (ps := ["days"]) fun _ _ _ _ _ _ us hl => match us, hl with | [_], _ => rfl
  have F_is_monotone := fun_mk (st := s_is_monotone) l_is_monotone c_is_monotone k_is_monotone
  have b_is_monotone := F_is_monotone.binds (ps := ["days"]) fun _ _ _ _ _ _ us hl => match us, hl with | [_], _ => rfl
  have F_quiet_chance_of := fun_mk (st := s_quiet_chance_of) l_quiet_chance_of c_quiet_chance_of k_quiet_chance_of
  have b_quiet_chance_of := F_quiet_chance_of.binds (ps := ["days"]) fun _ _ _ _ _ _ us hl => match us, hl with | [_], _ => rfl
  have F_greatest_cost := fun_mk (st := s_greatest_cost) l_greatest_cost c_greatest_cost k_greatest_cost
  have b_greatest_cost := F_greatest_cost.binds (ps := ["days"]) fun _ _ _ _ _ _ us hl => match us, hl with | [_], _ => rfl
  have F_need := fun_mk (st := s_need) l_need c_need k_need
  have b_need := F_need.binds (ps := ["holds", "code"]) fun _ _ _ _ _ _ us hl => match us, hl with | [_, _], _ => rfl
  have F_Campaign___init__ := fun_mk (st := s_Campaign___init__) l_Campaign___init__ c_Campaign___init__ k_Campaign___init__
  have b_Campaign___init__ := F_Campaign___init__.binds (ps := ["self"]) fun _ _ _ _ _ _ us hl => match us, hl with | [_], _ => rfl
  have F_Campaign_begin_again := fun_mk (st := s_Campaign_begin_again) l_Campaign_begin_again c_Campaign_begin_again k_Campaign_begin_again
  have b_Campaign_begin_again := F_Campaign_begin_again.binds (ps := ["self"]) fun _ _ _ _ _ _ us hl => match us, hl with | [_], _ => rfl
  have F_Campaign_create := fun_mk (st := s_Campaign_create) l_Campaign_create c_Campaign_create k_Campaign_create
  have b_Campaign_create := F_Campaign_create.binds (ps := ["self"]) fun _ _ _ _ _ _ us hl => match us, hl with | [_], _ => rfl
  have F_Campaign_go_on := fun_mk (st := s_Campaign_go_on) l_Campaign_go_on c_Campaign_go_on k_Campaign_go_on
  have b_Campaign_go_on := F_Campaign_go_on.binds (ps := ["self", "sample"]) fun _ _ _ _ _ _ us hl => match us, hl with | [_, _], _ => rfl
  have F_Campaign_remaining := fun_mk (st := s_Campaign_remaining) l_Campaign_remaining c_Campaign_remaining k_Campaign_remaining
  have b_Campaign_remaining := F_Campaign_remaining.binds (ps := ["self"]) fun _ _ _ _ _ _ us hl => match us, hl with | [_], _ => rfl
  have F_need_day := fun_mk (st := s_need_day) l_need_day c_need_day k_need_day
  have b_need_day := F_need_day.binds (ps := ["campaign", "number"]) fun _ _ _ _ _ _ us hl => match us, hl with | [_, _], _ => rfl
  have F_first_remaining := fun_mk (st := s_first_remaining) l_first_remaining c_first_remaining k_first_remaining
  have b_first_remaining := F_first_remaining.binds (ps := ["campaign", "count"]) fun _ _ _ _ _ _ us hl => match us, hl with | [_, _], _ => rfl
  have F_told_fraction := fun_mk (st := s_told_fraction) l_told_fraction c_told_fraction k_told_fraction
  have b_told_fraction := F_told_fraction.binds (ps := ["fraction"]) fun _ _ _ _ _ _ us hl => match us, hl with | [_], _ => rfl
  have F_told_truth := fun_mk (st := s_told_truth) l_told_truth c_told_truth k_told_truth
  have b_told_truth := F_told_truth.binds (ps := ["holds"]) fun _ _ _ _ _ _ us hl => match us, hl with | [_], _ => rfl
  have F_do_create := fun_mk (st := s_do_create) l_do_create c_do_create k_do_create
  have b_do_create := F_do_create.binds (ps := ["campaign", "numbers"]) fun _ _ _ _ _ _ us hl => match us, hl with | [_, _], _ => rfl
  have F_do_add_day := fun_mk (st := s_do_add_day) l_do_add_day c_do_add_day k_do_add_day
  have b_do_add_day := F_do_add_day.binds (ps := ["campaign", "numbers"]) fun _ _ _ _ _ _ us hl => match us, hl with | [_, _], _ => rfl
  have F_do_set_day := fun_mk (st := s_do_set_day) l_do_set_day c_do_set_day k_do_set_day
  have b_do_set_day := F_do_set_day.binds (ps := ["campaign", "numbers"]) fun _ _ _ _ _ _ us hl => match us, hl with | [_, _], _ => rfl
  have F_do_remove_last_day := fun_mk (st := s_do_remove_last_day) l_do_remove_last_day c_do_remove_last_day k_do_remove_last_day
  have b_do_remove_last_day := F_do_remove_last_day.binds (ps := ["campaign", "numbers"]) fun _ _ _ _ _ _ us hl => match us, hl with | [_, _], _ => rfl
  have F_do_get_day := fun_mk (st := s_do_get_day) l_do_get_day c_do_get_day k_do_get_day
  have b_do_get_day := F_do_get_day.binds (ps := ["campaign", "numbers"]) fun _ _ _ _ _ _ us hl => match us, hl with | [_, _], _ => rfl
  have F_do_value := fun_mk (st := s_do_value) l_do_value c_do_value k_do_value
  have b_do_value := F_do_value.binds (ps := ["campaign", "numbers"]) fun _ _ _ _ _ _ us hl => match us, hl with | [_, _], _ => rfl
  have F_do_value_from := fun_mk (st := s_do_value_from) l_do_value_from c_do_value_from k_do_value_from
  have b_do_value_from := F_do_value_from.binds (ps := ["campaign", "numbers"]) fun _ _ _ _ _ _ us hl => match us, hl with | [_, _], _ => rfl
  have F_do_plan_value := fun_mk (st := s_do_plan_value) l_do_plan_value c_do_plan_value k_do_plan_value
  have b_do_plan_value := F_do_plan_value.binds (ps := ["campaign", "numbers"]) fun _ _ _ _ _ _ us hl => match us, hl with | [_, _], _ => rfl
  have F_do_best_count := fun_mk (st := s_do_best_count) l_do_best_count c_do_best_count k_do_best_count
  have b_do_best_count := F_do_best_count.binds (ps := ["campaign", "numbers"]) fun _ _ _ _ _ _ us hl => match us, hl with | [_, _], _ => rfl
  have F_do_lookahead_count := fun_mk (st := s_do_lookahead_count) l_do_lookahead_count c_do_lookahead_count k_do_lookahead_count
  have b_do_lookahead_count := F_do_lookahead_count.binds (ps := ["campaign", "numbers"]) fun _ _ _ _ _ _ us hl => match us, hl with | [_, _], _ => rfl
  have F_do_single_day_value := fun_mk (st := s_do_single_day_value) l_do_single_day_value c_do_single_day_value k_do_single_day_value
  have b_do_single_day_value := F_do_single_day_value.binds (ps := ["campaign", "numbers"]) fun _ _ _ _ _ _ us hl => match us, hl with | [_, _], _ => rfl
  have F_do_is_monotone := fun_mk (st := s_do_is_monotone) l_do_is_monotone c_do_is_monotone k_do_is_monotone
  have b_do_is_monotone := F_do_is_monotone.binds (ps := ["campaign", "numbers"]) fun _ _ _ _ _ _ us hl => match us, hl with | [_, _], _ => rfl
  have F_do_quiet_probability := fun_mk (st := s_do_quiet_probability) l_do_quiet_probability c_do_quiet_probability k_do_quiet_probability
  have b_do_quiet_probability := F_do_quiet_probability.binds (ps := ["campaign", "numbers"]) fun _ _ _ _ _ _ us hl => match us, hl with | [_, _], _ => rfl
  have F_do_continue_campaign := fun_mk (st := s_do_continue_campaign) l_do_continue_campaign c_do_continue_campaign k_do_continue_campaign
  have b_do_continue_campaign := F_do_continue_campaign.binds (ps := ["campaign", "numbers"]) fun _ _ _ _ _ _ us hl => match us, hl with | [_, _], _ => rfl
  have F_do_stop := fun_mk (st := s_do_stop) l_do_stop c_do_stop k_do_stop
  have b_do_stop := F_do_stop.binds (ps := ["campaign", "numbers"]) fun _ _ _ _ _ _ us hl => match us, hl with | [_, _], _ => rfl
  have F_do_restart := fun_mk (st := s_do_restart) l_do_restart c_do_restart k_do_restart
  have b_do_restart := F_do_restart.binds (ps := ["campaign", "numbers"]) fun _ _ _ _ _ _ us hl => match us, hl with | [_, _], _ => rfl
  have F_do_max_event_cost := fun_mk (st := s_do_max_event_cost) l_do_max_event_cost c_do_max_event_cost k_do_max_event_cost
  have b_do_max_event_cost := F_do_max_event_cost.binds (ps := ["campaign", "numbers"]) fun _ _ _ _ _ _ us hl => match us, hl with | [_, _], _ => rfl
  have F_do_value_with_cost := fun_mk (st := s_do_value_with_cost) l_do_value_with_cost c_do_value_with_cost k_do_value_with_cost
  have b_do_value_with_cost := F_do_value_with_cost.binds (ps := ["campaign", "numbers"]) fun _ _ _ _ _ _ us hl => match us, hl with | [_, _], _ => rfl
  have F_do_is_worthwhile := fun_mk (st := s_do_is_worthwhile) l_do_is_worthwhile c_do_is_worthwhile k_do_is_worthwhile
  have b_do_is_worthwhile := F_do_is_worthwhile.binds (ps := ["campaign", "numbers"]) fun _ _ _ _ _ _ us hl => match us, hl with | [_, _], _ => rfl
  have F_do_summary := fun_mk (st := s_do_summary) l_do_summary c_do_summary k_do_summary
  have b_do_summary := F_do_summary.binds (ps := ["campaign", "numbers"]) fun _ _ _ _ _ _ us hl => match us, hl with | [_, _], _ => rfl
  have F_done := fun_mk (st := s_done) l_done c_done k_done
  have b_done := F_done.binds (ps := ["campaign", "number", "numbers"]) fun _ _ _ _ _ _ us hl => match us, hl with | [_, _, _], _ => rfl
  have F_answer := fun_mk (st := s_answer) l_answer c_answer k_answer
  have b_answer := F_answer.binds (ps := ["campaign", "number", "numbers"]) fun _ _ _ _ _ _ us hl => match us, hl with | [_, _, _], _ => rfl
  have F_answers := fun_mk (st := s_answers) l_answers c_answers k_answers
  refine ⟨(PySem.W.fnOf "answers" "answers" (defArgs s_answers) (defBody s_answers) (defScope s_answers) .none kv_answers dc_answers pm_answers an_answers cd_answers ct_answers), fun s us hu => match us, hu with | [_], _ => .of_eq rfl, fun base _ _ => ?_⟩
  have O_common_divisor : Kn P w K mg base "common_divisor" CX0 1 ["one", "other"] (spGcd) f_common_divisor := ok_common_divisor ⟨⟨_, F_common_divisor, b_common_divisor⟩, PySem.W.mg_of X G a_common_divisor⟩
  have O_ratio : Kn P w K mg base "ratio" CX0 2 ["numerator", "denominator"] (spRatio K) f_ratio := ok_ratio ⟨⟨_, F_ratio, b_ratio⟩, PySem.W.mg_of X G a_ratio⟩ O_common_divisor g_abs
  have O_whole : Kn P w K mg base "whole" CX0 1 ["number"] (spWhole K) f_whole := ok_whole ⟨⟨_, F_whole, b_whole⟩, PySem.W.mg_of X G a_whole⟩
  have O_total_of : Kn P w K mg base "total_of" CX0 3 ["one", "other"] (spAr K (· + ·)) f_total_of := ok_total_of ⟨⟨_, F_total_of, b_total_of⟩, PySem.W.mg_of X G a_total_of⟩ O_ratio
  have O_difference_of : Kn P w K mg base "difference_of" CX0 3 ["one", "other"] (spAr K (· - ·)) f_difference_of := ok_difference_of ⟨⟨_, F_difference_of, b_difference_of⟩, PySem.W.mg_of X G a_difference_of⟩ O_ratio
  have O_product_of : Kn P w K mg base "product_of" CX0 3 ["one", "other"] (spAr K (· * ·)) f_product_of := ok_product_of ⟨⟨_, F_product_of, b_product_of⟩, PySem.W.mg_of X G a_product_of⟩ O_ratio
  have O_is_greater : Kn P w K mg base "is_greater" CX0 1 ["one", "other"] (spGreater K) f_is_greater := ok_is_greater ⟨⟨_, F_is_greater, b_is_greater⟩, PySem.W.mg_of X G a_is_greater⟩
  have O_is_positive : Kn P w K mg base "is_positive" CX0 1 ["one"] (spPos K) f_is_positive := ok_is_positive ⟨⟨_, F_is_positive, b_is_positive⟩, PySem.W.mg_of X G a_is_positive⟩
  have O_greater_of : Kn P w K mg base "greater_of" CX0 2 ["one", "other"] (spGr K) f_greater_of := ok_greater_of ⟨⟨_, F_greater_of, b_greater_of⟩, PySem.W.mg_of X G a_greater_of⟩ O_is_greater
  have O_Day___init__ : Km P w K mg base CD "__init__" 1 ["self", "gain", "numerator", "denominator", "cost"] (spDayInit CD) f_Day___init__ := ok_Day___init__ ⟨⟨_, F_Day___init__, b_Day___init__⟩, ⟨a_Day___init__, i_Day___init__, k_Day___init__⟩⟩  tD
  have O_are_fields : Kn P w K mg base "are_fields" CX0 1 ["gain", "numerator", "denominator", "cost"] (spAreFields) f_are_fields := ok_are_fields ⟨⟨_, F_are_fields, b_are_fields⟩, PySem.W.mg_of X G a_are_fields⟩  g_MOST_GAIN g_MOST_DENOMINATOR g_MOST_COST
  have O_fields_of : Kn P w K mg base "fields_of" CX0 1 ["day"] (spFieldsOf CD) f_fields_of := ok_fields_of ⟨⟨_, F_fields_of, b_fields_of⟩, PySem.W.mg_of X G a_fields_of⟩  tD
  have O_with_cost : Kn P w K mg base "with_cost" CX0 3 ["day", "cost"] (spWithCost CD) f_with_cost := ok_with_cost ⟨⟨_, F_with_cost, b_with_cost⟩, PySem.W.mg_of X G a_with_cost⟩ O_Day___init__ tD g_Day mkD
  have O_event_chance : Kn P w K mg base "event_chance" CX0 3 ["day"] (spDay1 K CD Kqk5.eventProbability) f_event_chance := ok_event_chance ⟨⟨_, F_event_chance, b_event_chance⟩, PySem.W.mg_of X G a_event_chance⟩ O_ratio tD
  have O_quiet_chance : Kn P w K mg base "quiet_chance" CX0 3 ["day"] (spDay1 K CD Kqk5.quietProbability) f_quiet_chance := ok_quiet_chance ⟨⟨_, F_quiet_chance, b_quiet_chance⟩, PySem.W.mg_of X G a_quiet_chance⟩ O_ratio tD
  have O_quiet_part : Kn P w K mg base "quiet_part" CX0 4 ["day", "behind"] (spDay2 K CD (fun d r => Kqk5.quietProbability d * ((d.gain : Rat) + r))) f_quiet_part := ok_quiet_part ⟨⟨_, F_quiet_part, b_quiet_part⟩, PySem.W.mg_of X G a_quiet_part⟩ O_product_of O_quiet_chance O_total_of O_whole tD
  have O_event_part : Kn P w K mg base "event_part" CX0 4 ["day"] (spDay1 K CD (fun d => Kqk5.eventProbability d * (d.cost : Rat))) f_event_part := ok_event_part ⟨⟨_, F_event_part, b_event_part⟩, PySem.W.mg_of X G a_event_part⟩ O_product_of O_event_chance O_whole tD
  have O_worth : Kn P w K mg base "worth" CX0 5 ["day", "behind"] (spDay2 K CD worth) f_worth := ok_worth ⟨⟨_, F_worth, b_worth⟩, PySem.W.mg_of X G a_worth⟩ O_difference_of O_quiet_part O_event_part
  have O_single_day_value : Kn P w K mg base "single_day_value" CX0 6 ["day"] (spDay1 K CD Kqk5.singleDayValue) f_single_day_value := ok_single_day_value ⟨⟨_, F_single_day_value, b_single_day_value⟩, PySem.W.mg_of X G a_single_day_value⟩ O_worth g_ZERO tup_ZERO
  have O_has_event : Kn P w K mg base "has_event" CX0 1 ["day", "sample"] (spHasEvent CD) f_has_event := ok_has_event ⟨⟨_, F_has_event, b_has_event⟩, PySem.W.mg_of X G a_has_event⟩  tD
  have O_value_of : Kn P w K mg base "value_of" CX0 6 ["days"] (spList K CD Kqk5.value) f_value_of := ok_value_of ⟨⟨_, F_value_of, b_value_of⟩, PySem.W.mg_of X G a_value_of⟩ O_greater_of O_worth g_ZERO tup_ZERO g_reversed
  have O_plan_value : Kn P w K mg base "plan_value" CX0 6 ["days"] (spList K CD planAll) f_plan_value := ok_plan_value ⟨⟨_, F_plan_value, b_plan_value⟩, PySem.W.mg_of X G a_plan_value⟩ O_worth g_ZERO tup_ZERO g_reversed
  have O_best_count : Kn P w K mg base "best_count" CX0 7 ["days"] (spCount K CD (fun ds => .int ((Kqk5.bestCount ds : Nat) : Int))) f_best_count := ok_best_count ⟨⟨_, F_best_count, b_best_count⟩, PySem.W.mg_of X G a_best_count⟩ O_plan_value O_is_greater g_ZERO tup_ZERO g_range g_len
  have O_is_worthwhile_alone : Kn P w K mg base "is_worthwhile_alone" CX0 7 ["day"] (spAlone K CD) f_is_worthwhile_alone := ok_is_worthwhile_alone ⟨⟨_, F_is_worthwhile_alone, b_is_worthwhile_alone⟩, PySem.W.mg_of X G a_is_worthwhile_alone⟩ O_is_positive O_single_day_value
  have O_lookahead_count : Kn P w K mg base "lookahead_count" CX0 8 ["days"] (spCount K CD (fun ds => .int ((Kqk5.lookaheadCount ds : Nat) : Int))) f_lookahead_count := ok_lookahead_count ⟨⟨_, F_lookahead_count, b_lookahead_count⟩, PySem.W.mg_of X G a_lookahead_count⟩ O_is_worthwhile_alone g_enumerate g_len
  have O_is_monotone : Kn P w K mg base "is_monotone" CX0 9 ["days"] (spCount K CD (fun ds => .bl (Kqk5.isMonotone ds))) f_is_monotone := ok_is_monotone ⟨⟨_, F_is_monotone, b_is_monotone⟩, PySem.W.mg_of X G a_is_monotone⟩ O_lookahead_count O_is_worthwhile_alone g_any
  have O_quiet_chance_of : Kn P w K mg base "quiet_chance_of" CX0 4 ["days"] (spList K CD (fun ds => ds.foldl (fun p d => p * Kqk5.quietProbability d) 1)) f_quiet_chance_of := ok_quiet_chance_of ⟨⟨_, F_quiet_chance_of, b_quiet_chance_of⟩, PySem.W.mg_of X G a_quiet_chance_of⟩ O_product_of O_quiet_chance g_ONE tup_ONE
  have O_greatest_cost : Kn P w K mg base "greatest_cost" CX0 7 ["days"] (spGreatest K CD) f_greatest_cost := ok_greatest_cost ⟨⟨_, F_greatest_cost, b_greatest_cost⟩, PySem.W.mg_of X G a_greatest_cost⟩ O_value_of O_event_chance O_quiet_part O_is_positive g_ZERO tup_ZERO g_min g_MOST_COST
  have O_need : Kn P w K mg base "need" (L2.CX P w) 3 ["holds", "code"] (spNeed CR) f_need := ok_need ⟨⟨_, F_need, b_need⟩, PySem.W.mg_of X G a_need⟩  low
  have O_Campaign___init__ : Km P w K mg base CC "__init__" 1 ["self"] (spCampInit CC) f_Campaign___init__ := ok_Campaign___init__ ⟨⟨_, F_Campaign___init__, b_Campaign___init__⟩, ⟨a_Campaign___init__, i_Campaign___init__, k_Campaign___init__⟩⟩  tC g_RUNNING
  have O_Campaign_begin_again : Km P w K mg base CC "begin_again" 1 ["self"] (spBegin CC) f_Campaign_begin_again := ok_Campaign_begin_again ⟨⟨_, F_Campaign_begin_again, b_Campaign_begin_again⟩, ⟨a_Campaign_begin_again, i_Campaign_begin_again, k_Campaign_begin_again⟩⟩  tC g_RUNNING
  have O_Campaign_create : Km P w K mg base CC "create" 2 ["self"] (spCreate CC) f_Campaign_create := ok_Campaign_create ⟨⟨_, F_Campaign_create, b_Campaign_create⟩, ⟨a_Campaign_create, i_Campaign_create, k_Campaign_create⟩⟩ O_Campaign_begin_again tC
  have O_Campaign_go_on : Km P w K mg base CC "go_on" 2 ["self", "sample"] (spGoOn CC CD) f_Campaign_go_on := ok_Campaign_go_on ⟨⟨_, F_Campaign_go_on, b_Campaign_go_on⟩, ⟨a_Campaign_go_on, i_Campaign_go_on, k_Campaign_go_on⟩⟩ O_has_event tC tD g_ENDED
  have O_Campaign_remaining : Km P w K mg base CC "remaining" 1 ["self"] (spRemaining K CC CD) f_Campaign_remaining := ok_Campaign_remaining ⟨⟨_, F_Campaign_remaining, b_Campaign_remaining⟩, ⟨a_Campaign_remaining, i_Campaign_remaining, k_Campaign_remaining⟩⟩  tC
  have O_need_day : Kn P w K mg base "need_day" (L2.CX P w) 4 ["campaign", "number"] (spNeedDay CC CD CR) f_need_day := ok_need_day ⟨⟨_, F_need_day, b_need_day⟩, PySem.W.mg_of X G a_need_day⟩ O_need tC g_len g_NO_DAY
  have O_first_remaining : Kn P w K mg base "first_remaining" (L2.CX P w) 4 ["campaign", "count"] (spFirst K CC CD CR) f_first_remaining := ok_first_remaining ⟨⟨_, F_first_remaining, b_first_remaining⟩, PySem.W.mg_of X G a_first_remaining⟩ O_need O_Campaign_remaining tC g_len g_NO_DAY
  have O_told_fraction : Kn P w K mg base "told_fraction" CX0 1 ["fraction"] (spToldF K) f_told_fraction := ok_told_fraction ⟨⟨_, F_told_fraction, b_told_fraction⟩, PySem.W.mg_of X G a_told_fraction⟩
  have O_told_truth : Kn P w K mg base "told_truth" CX0 1 ["holds"] (spToldT) f_told_truth := ok_told_truth ⟨⟨_, F_told_truth, b_told_truth⟩, PySem.W.mg_of X G a_told_truth⟩
  have O_do_create : Kn P w K mg base "do_create" (L2.CX P w) 10 ["campaign", "numbers"] (spDeed K CC CD CR 0) f_do_create := ok_do_create ⟨⟨_, F_do_create, b_do_create⟩, PySem.W.mg_of X G a_do_create⟩ O_Campaign_create tC
  have O_do_add_day : Kn P w K mg base "do_add_day" (L2.CX P w) 10 ["campaign", "numbers"] (spDeed K CC CD CR 1) f_do_add_day := ok_do_add_day ⟨⟨_, F_do_add_day, b_do_add_day⟩, PySem.W.mg_of X G a_do_add_day⟩ O_need O_are_fields O_Day___init__ tC neC g_len g_Day mkD g_MOST_DAYS g_TOO_MANY g_OUT_OF_RANGE
  have O_do_set_day : Kn P w K mg base "do_set_day" (L2.CX P w) 10 ["campaign", "numbers"] (spDeed K CC CD CR 2) f_do_set_day := ok_do_set_day ⟨⟨_, F_do_set_day, b_do_set_day⟩, PySem.W.mg_of X G a_do_set_day⟩ O_need O_need_day O_are_fields O_Day___init__ tC neC g_Day mkD g_OUT_OF_RANGE g_NOT_POSSIBLE
  have O_do_remove_last_day : Kn P w K mg base "do_remove_last_day" (L2.CX P w) 10 ["campaign", "numbers"] (spDeed K CC CD CR 3) f_do_remove_last_day := ok_do_remove_last_day ⟨⟨_, F_do_remove_last_day, b_do_remove_last_day⟩, PySem.W.mg_of X G a_do_remove_last_day⟩ O_need tC neC g_len g_NOTHING_TO_REMOVE
  have O_do_get_day : Kn P w K mg base "do_get_day" (L2.CX P w) 10 ["campaign", "numbers"] (spDeed K CC CD CR 4) f_do_get_day := ok_do_get_day ⟨⟨_, F_do_get_day, b_do_get_day⟩, PySem.W.mg_of X G a_do_get_day⟩ O_need_day O_fields_of tC
  have O_do_value : Kn P w K mg base "do_value" (L2.CX P w) 10 ["campaign", "numbers"] (spDeed K CC CD CR 5) f_do_value := ok_do_value ⟨⟨_, F_do_value, b_do_value⟩, PySem.W.mg_of X G a_do_value⟩ O_Campaign_remaining O_value_of O_told_fraction tC
  have O_do_value_from : Kn P w K mg base "do_value_from" (L2.CX P w) 10 ["campaign", "numbers"] (spDeed K CC CD CR 6) f_do_value_from := ok_do_value_from ⟨⟨_, F_do_value_from, b_do_value_from⟩, PySem.W.mg_of X G a_do_value_from⟩ O_need O_value_of O_told_fraction tC g_len g_NO_DAY
  have O_do_plan_value : Kn P w K mg base "do_plan_value" (L2.CX P w) 10 ["campaign", "numbers"] (spDeed K CC CD CR 7) f_do_plan_value := ok_do_plan_value ⟨⟨_, F_do_plan_value, b_do_plan_value⟩, PySem.W.mg_of X G a_do_plan_value⟩ O_first_remaining O_plan_value O_told_fraction tC
  have O_do_best_count : Kn P w K mg base "do_best_count" (L2.CX P w) 10 ["campaign", "numbers"] (spDeed K CC CD CR 8) f_do_best_count := ok_do_best_count ⟨⟨_, F_do_best_count, b_do_best_count⟩, PySem.W.mg_of X G a_do_best_count⟩ O_Campaign_remaining O_best_count tC
  have O_do_lookahead_count : Kn P w K mg base "do_lookahead_count" (L2.CX P w) 10 ["campaign", "numbers"] (spDeed K CC CD CR 9) f_do_lookahead_count := ok_do_lookahead_count ⟨⟨_, F_do_lookahead_count, b_do_lookahead_count⟩, PySem.W.mg_of X G a_do_lookahead_count⟩ O_Campaign_remaining O_lookahead_count tC
  have O_do_single_day_value : Kn P w K mg base "do_single_day_value" (L2.CX P w) 10 ["campaign", "numbers"] (spDeed K CC CD CR 10) f_do_single_day_value := ok_do_single_day_value ⟨⟨_, F_do_single_day_value, b_do_single_day_value⟩, PySem.W.mg_of X G a_do_single_day_value⟩ O_need_day O_single_day_value O_told_fraction tC
  have O_do_is_monotone : Kn P w K mg base "do_is_monotone" (L2.CX P w) 10 ["campaign", "numbers"] (spDeed K CC CD CR 11) f_do_is_monotone := ok_do_is_monotone ⟨⟨_, F_do_is_monotone, b_do_is_monotone⟩, PySem.W.mg_of X G a_do_is_monotone⟩ O_Campaign_remaining O_is_monotone O_told_truth tC
  have O_do_quiet_probability : Kn P w K mg base "do_quiet_probability" (L2.CX P w) 10 ["campaign", "numbers"] (spDeed K CC CD CR 12) f_do_quiet_probability := ok_do_quiet_probability ⟨⟨_, F_do_quiet_probability, b_do_quiet_probability⟩, PySem.W.mg_of X G a_do_quiet_probability⟩ O_first_remaining O_quiet_chance_of O_told_fraction tC
  have O_do_continue_campaign : Kn P w K mg base "do_continue_campaign" (L2.CX P w) 10 ["campaign", "numbers"] (spDeed K CC CD CR 13) f_do_continue_campaign := ok_do_continue_campaign ⟨⟨_, F_do_continue_campaign, b_do_continue_campaign⟩, PySem.W.mg_of X G a_do_continue_campaign⟩ O_need O_Campaign_go_on O_told_truth tC neC g_len g_OUT_OF_RANGE g_NOT_POSSIBLE g_NONE_LEFT g_MOST_SAMPLE g_RUNNING
  have O_do_stop : Kn P w K mg base "do_stop" (L2.CX P w) 10 ["campaign", "numbers"] (spDeed K CC CD CR 14) f_do_stop := ok_do_stop ⟨⟨_, F_do_stop, b_do_stop⟩, PySem.W.mg_of X G a_do_stop⟩ O_need tC neC g_NOT_POSSIBLE g_RUNNING g_STOPPED
  have O_do_restart : Kn P w K mg base "do_restart" (L2.CX P w) 10 ["campaign", "numbers"] (spDeed K CC CD CR 15) f_do_restart := ok_do_restart ⟨⟨_, F_do_restart, b_do_restart⟩, PySem.W.mg_of X G a_do_restart⟩ O_Campaign_begin_again tC neC
  have O_do_max_event_cost : Kn P w K mg base "do_max_event_cost" (L2.CX P w) 10 ["campaign", "numbers"] (spDeed K CC CD CR 16) f_do_max_event_cost := ok_do_max_event_cost ⟨⟨_, F_do_max_event_cost, b_do_max_event_cost⟩, PySem.W.mg_of X G a_do_max_event_cost⟩ O_need_day O_need O_greatest_cost tC g_NONE_LEFT
  have O_do_value_with_cost : Kn P w K mg base "do_value_with_cost" (L2.CX P w) 10 ["campaign", "numbers"] (spDeed K CC CD CR 17) f_do_value_with_cost := ok_do_value_with_cost ⟨⟨_, F_do_value_with_cost, b_do_value_with_cost⟩, PySem.W.mg_of X G a_do_value_with_cost⟩ O_need_day O_need O_with_cost O_value_of O_told_fraction tC neC g_list g_OUT_OF_RANGE g_MOST_COST
  have O_do_is_worthwhile : Kn P w K mg base "do_is_worthwhile" (L2.CX P w) 10 ["campaign", "numbers"] (spDeed K CC CD CR 18) f_do_is_worthwhile := ok_do_is_worthwhile ⟨⟨_, F_do_is_worthwhile, b_do_is_worthwhile⟩, PySem.W.mg_of X G a_do_is_worthwhile⟩ O_Campaign_remaining O_value_of O_is_positive O_told_truth tC
  have O_do_summary : Kn P w K mg base "do_summary" (L2.CX P w) 10 ["campaign", "numbers"] (spDeed K CC CD CR 19) f_do_summary := ok_do_summary ⟨⟨_, F_do_summary, b_do_summary⟩, PySem.W.mg_of X G a_do_summary⟩  tC g_len
  have dd : DeedsOk P w K mg base CC CD CR ([V.ref f_do_create, V.ref f_do_add_day, V.ref f_do_set_day, V.ref f_do_remove_last_day, V.ref f_do_get_day, V.ref f_do_value, V.ref f_do_value_from, V.ref f_do_plan_value, V.ref f_do_best_count, V.ref f_do_lookahead_count, V.ref f_do_single_day_value, V.ref f_do_is_monotone, V.ref f_do_quiet_probability, V.ref f_do_continue_campaign, V.ref f_do_stop, V.ref f_do_restart, V.ref f_do_max_event_cost, V.ref f_do_value_with_cost, V.ref f_do_is_worthwhile, V.ref f_do_summary]) := fun i hi => by
    match i, hi with
    | 0, _ => exact deed_of O_do_create rfl
    | 1, _ => exact deed_of O_do_add_day rfl
    | 2, _ => exact deed_of O_do_set_day rfl
    | 3, _ => exact deed_of O_do_remove_last_day rfl
    | 4, _ => exact deed_of O_do_get_day rfl
    | 5, _ => exact deed_of O_do_value rfl
    | 6, _ => exact deed_of O_do_value_from rfl
    | 7, _ => exact deed_of O_do_plan_value rfl
    | 8, _ => exact deed_of O_do_best_count rfl
    | 9, _ => exact deed_of O_do_lookahead_count rfl
    | 10, _ => exact deed_of O_do_single_day_value rfl
    | 11, _ => exact deed_of O_do_is_monotone rfl
    | 12, _ => exact deed_of O_do_quiet_probability rfl
    | 13, _ => exact deed_of O_do_continue_campaign rfl
    | 14, _ => exact deed_of O_do_stop rfl
    | 15, _ => exact deed_of O_do_restart rfl
    | 16, _ => exact deed_of O_do_max_event_cost rfl
    | 17, _ => exact deed_of O_do_value_with_cost rfl
    | 18, _ => exact deed_of O_do_is_worthwhile rfl
    | 19, _ => exact deed_of O_do_summary rfl
    | n + 20, hi => exact absurd hi (by omega)
  have O_done : Kn P w K mg base "done" (L2.CX P w) 11 ["campaign", "number", "numbers"] (spDone K CC CD CR) f_done := ok_done ⟨⟨_, F_done, b_done⟩, PySem.W.mg_of X G a_done⟩ O_need tC g_DEEDS tup_DEEDS dd g_CREATE g_NOT_CREATED
  have O_answer : Kn P w K mg base "answer" CX0 12 ["campaign", "number", "numbers"] (spAnswer K CC CD) f_answer := ok_answer ⟨⟨_, F_answer, b_answer⟩, PySem.W.mg_of X G a_answer⟩ O_done low
  exact ok_answers F_answers O_answer O_Campaign___init__ g_len neC g_SIZES tup_SIZES g_Campaign mkC
end Hd

open PySem PySem.W PyProof.Rows
set_option maxRecDepth 100000 in
set_option maxHeartbeats 8000000 in
theorem PySem.Challenge.cw_haltdays_s01_answers_holds : PySem.Challenge.rw_haltdays_s01_answers.Holds := by
  w_on; k_headS; (case hw => exact ⟨[.list [.int 0]], by decide +kernel, by decide +kernel⟩)
  k_fillS
  refine L2.walk_specK (r := PySem.Challenge.rw_haltdays_s01_answers) (k := 13) (CX := L2.CX0) (ps := ["calls"]) (sp := Hd.spAnswers) (by decide +kernel) rfl rfl ⟨rfl, by decide, by decide⟩ (fun w h Y => PySem.W.kIn_of Y) ?F ?S (fun _ _ _ _ z => z)
  case F =>
    intro w mg fa h Y KX G hmg
    refine' Hd.all_mk KX G hmg ?aCD ?aCC ?aCR ?a_common_divisor ?l_common_divisor ?c_common_divisor ?k_common_divisor ?a_ratio ?l_ratio ?c_ratio ?k_ratio ?a_whole ?l_whole ?c_whole ?k_whole ?a_total_of ?l_total_of ?c_total_of ?k_total_of ?a_difference_of ?l_difference_of ?c_difference_of ?k_difference_of ?a_product_of ?l_product_of ?c_product_of ?k_product_of ?a_is_greater ?l_is_greater ?c_is_greater ?k_is_greater ?a_is_positive ?l_is_positive ?c_is_positive ?k_is_positive ?a_greater_of ?l_greater_of ?c_greater_of ?k_greater_of ?a_Day___init__ ?i_Day___init__ ?l_Day___init__ ?c_Day___init__ ?k_Day___init__ ?a_are_fields ?l_are_fields ?c_are_fields ?k_are_fields ?a_fields_of ?l_fields_of ?c_fields_of ?k_fields_of ?a_with_cost ?l_with_cost ?c_with_cost ?k_with_cost ?a_event_chance ?l_event_chance ?c_event_chance ?k_event_chance ?a_quiet_chance ?l_quiet_chance ?c_quiet_chance ?k_quiet_chance ?a_quiet_part ?l_quiet_part ?c_quiet_part ?k_quiet_part ?a_event_part ?l_event_part ?c_event_part ?k_event_part ?a_worth ?l_worth ?c_worth ?k_worth ?a_single_day_value ?l_single_day_value ?c_single_day_value ?k_single_day_value ?a_has_event ?l_has_event ?c_has_event ?k_has_event ?a_value_of ?l_value_of ?c_value_of ?k_value_of ?a_plan_value ?l_plan_value ?c_plan_value ?k_plan_value ?a_best_count ?l_best_count ?c_best_count ?k_best_count ?a_is_worthwhile_alone ?l_is_worthwhile_alone ?c_is_worthwhile_alone ?k_is_worthwhile_alone ?a_lookahead_count ?l_lookahead_count ?c_lookahead_count ?k_lookahead_count ?a_is_monotone ?l_is_monotone ?c_is_monotone ?k_is_monotone ?a_quiet_chance_of ?l_quiet_chance_of ?c_quiet_chance_of ?k_quiet_chance_of ?a_greatest_cost ?l_greatest_cost ?c_greatest_cost ?k_greatest_cost ?a_need ?l_need ?c_need ?k_need ?a_Campaign___init__ ?i_Campaign___init__ ?l_Campaign___init__ ?c_Campaign___init__ ?k_Campaign___init__ ?a_Campaign_begin_again ?i_Campaign_begin_again ?l_Campaign_begin_again ?c_Campaign_begin_again ?k_Campaign_begin_again ?a_Campaign_create ?i_Campaign_create ?l_Campaign_create ?c_Campaign_create ?k_Campaign_create ?a_Campaign_go_on ?i_Campaign_go_on ?l_Campaign_go_on ?c_Campaign_go_on ?k_Campaign_go_on ?a_Campaign_remaining ?i_Campaign_remaining ?l_Campaign_remaining ?c_Campaign_remaining ?k_Campaign_remaining ?a_need_day ?l_need_day ?c_need_day ?k_need_day ?a_first_remaining ?l_first_remaining ?c_first_remaining ?k_first_remaining ?a_told_fraction ?l_told_fraction ?c_told_fraction ?k_told_fraction ?a_told_truth ?l_told_truth ?c_told_truth ?k_told_truth ?a_do_create ?l_do_create ?c_do_create ?k_do_create ?a_do_add_day ?l_do_add_day ?c_do_add_day ?k_do_add_day ?a_do_set_day ?l_do_set_day ?c_do_set_day ?k_do_set_day ?a_do_remove_last_day ?l_do_remove_last_day ?c_do_remove_last_day ?k_do_remove_last_day ?a_do_get_day ?l_do_get_day ?c_do_get_day ?k_do_get_day ?a_do_value ?l_do_value ?c_do_value ?k_do_value ?a_do_value_from ?l_do_value_from ?c_do_value_from ?k_do_value_from ?a_do_plan_value ?l_do_plan_value ?c_do_plan_value ?k_do_plan_value ?a_do_best_count ?l_do_best_count ?c_do_best_count ?k_do_best_count ?a_do_lookahead_count ?l_do_lookahead_count ?c_do_lookahead_count ?k_do_lookahead_count ?a_do_single_day_value ?l_do_single_day_value ?c_do_single_day_value ?k_do_single_day_value ?a_do_is_monotone ?l_do_is_monotone ?c_do_is_monotone ?k_do_is_monotone ?a_do_quiet_probability ?l_do_quiet_probability ?c_do_quiet_probability ?k_do_quiet_probability ?a_do_continue_campaign ?l_do_continue_campaign ?c_do_continue_campaign ?k_do_continue_campaign ?a_do_stop ?l_do_stop ?c_do_stop ?k_do_stop ?a_do_restart ?l_do_restart ?c_do_restart ?k_do_restart ?a_do_max_event_cost ?l_do_max_event_cost ?c_do_max_event_cost ?k_do_max_event_cost ?a_do_value_with_cost ?l_do_value_with_cost ?c_do_value_with_cost ?k_do_value_with_cost ?a_do_is_worthwhile ?l_do_is_worthwhile ?c_do_is_worthwhile ?k_do_is_worthwhile ?a_do_summary ?l_do_summary ?c_do_summary ?k_do_summary ?a_done ?l_done ?c_done ?k_done ?a_answer ?l_answer ?c_answer ?k_answer ?a_answers ?l_answers ?c_answers ?k_answers ?n_MOST_GAIN ?n_MOST_DENOMINATOR ?n_MOST_COST ?n_RUNNING ?n_ENDED ?n_NO_DAY ?n_MOST_DAYS ?n_TOO_MANY ?n_OUT_OF_RANGE ?n_NOT_POSSIBLE ?n_NOTHING_TO_REMOVE ?n_NONE_LEFT ?n_MOST_SAMPLE ?n_STOPPED ?n_CREATE ?n_NOT_CREATED ?z_abs ?z_reversed ?z_range ?z_len ?z_enumerate ?z_any ?z_min ?z_list ?a_ZERO ?l_ZERO ?y_ZERO ?d_ZERO ?v_ZERO ?w_ZERO ?a_ONE ?l_ONE ?y_ONE ?d_ONE ?v_ONE ?w_ONE ?a_SIZES ?l_SIZES ?y_SIZES ?d_SIZES ?v_SIZES ?w_SIZES ?a_DEEDS ?l_DEEDS ?y_DEEDS ?d_DEEDS ?v_DEEDS ?w_DEEDS ?pgCD ?hdCD ?poCD ?saCD ?mkCD ?kcCD ?pgCC ?hdCC ?poCC ?saCC ?mkCC ?kcCC ?ngCD ?nnCD ?ndCD ?ncCD ?ncCC ?ndCC ?nnCC ?ntCC ?nsCC ?neC ?xR ?saR ?gaR ?ggR ?nbR ?a1R ?t1R ?l1R ?c1R ?kCR ?eCR ?tCR ?hCR ?iCR ?sCR
    (case aCD => k_is)
    (case aCC => k_is)
    (case aCR => k_is)
    (case a_common_divisor => k_is)
    (case l_common_divisor => k_is)
    (case c_common_divisor => k_is)
    (case k_common_divisor => k_is)
    (case a_ratio => k_is)
    (case l_ratio => k_is)
    (case c_ratio => k_is)
    (case k_ratio => k_is)
    (case a_whole => k_is)
    (case l_whole => k_is)
    (case c_whole => k_is)
    (case k_whole => k_is)
    (case a_total_of => k_is)
    (case l_total_of => k_is)
    (case c_total_of => k_is)
    (case k_total_of => k_is)
    (case a_difference_of => k_is)
    (case l_difference_of => k_is)
    (case c_difference_of => k_is)
    (case k_difference_of => k_is)
    (case a_product_of => k_is)
    (case l_product_of => k_is)
    (case c_product_of => k_is)
    (case k_product_of => k_is)
    (case a_is_greater => k_is)
    (case l_is_greater => k_is)
    (case c_is_greater => k_is)
    (case k_is_greater => k_is)
    (case a_is_positive => k_is)
    (case l_is_positive => k_is)
    (case c_is_positive => k_is)
    (case k_is_positive => k_is)
    (case a_greater_of => k_is)
    (case l_greater_of => k_is)
    (case c_greater_of => k_is)
    (case k_greater_of => k_is)
    (case a_Day___init__ => k_is)
    (case i_Day___init__ => k_is)
    (case l_Day___init__ => k_is)
    (case c_Day___init__ => k_is)
    (case k_Day___init__ => k_is)
    (case a_are_fields => k_is)
    (case l_are_fields => k_is)
    (case c_are_fields => k_is)
    (case k_are_fields => k_is)
    (case a_fields_of => k_is)
    (case l_fields_of => k_is)
    (case c_fields_of => k_is)
    (case k_fields_of => k_is)
    (case a_with_cost => k_is)
    (case l_with_cost => k_is)
    (case c_with_cost => k_is)
    (case k_with_cost => k_is)
    (case a_event_chance => k_is)
    (case l_event_chance => k_is)
    (case c_event_chance => k_is)
    (case k_event_chance => k_is)
    (case a_quiet_chance => k_is)
    (case l_quiet_chance => k_is)
    (case c_quiet_chance => k_is)
    (case k_quiet_chance => k_is)
    (case a_quiet_part => k_is)
    (case l_quiet_part => k_is)
    (case c_quiet_part => k_is)
    (case k_quiet_part => k_is)
    (case a_event_part => k_is)
    (case l_event_part => k_is)
    (case c_event_part => k_is)
    (case k_event_part => k_is)
    (case a_worth => k_is)
    (case l_worth => k_is)
    (case c_worth => k_is)
    (case k_worth => k_is)
    (case a_single_day_value => k_is)
    (case l_single_day_value => k_is)
    (case c_single_day_value => k_is)
    (case k_single_day_value => k_is)
    (case a_has_event => k_is)
    (case l_has_event => k_is)
    (case c_has_event => k_is)
    (case k_has_event => k_is)
    (case a_value_of => k_is)
    (case l_value_of => k_is)
    (case c_value_of => k_is)
    (case k_value_of => k_is)
    (case a_plan_value => k_is)
    (case l_plan_value => k_is)
    (case c_plan_value => k_is)
    (case k_plan_value => k_is)
    (case a_best_count => k_is)
    (case l_best_count => k_is)
    (case c_best_count => k_is)
    (case k_best_count => k_is)
    (case a_is_worthwhile_alone => k_is)
    (case l_is_worthwhile_alone => k_is)
    (case c_is_worthwhile_alone => k_is)
    (case k_is_worthwhile_alone => k_is)
    (case a_lookahead_count => k_is)
    (case l_lookahead_count => k_is)
    (case c_lookahead_count => k_is)
    (case k_lookahead_count => k_is)
    (case a_is_monotone => k_is)
    (case l_is_monotone => k_is)
    (case c_is_monotone => k_is)
    (case k_is_monotone => k_is)
    (case a_quiet_chance_of => k_is)
    (case l_quiet_chance_of => k_is)
    (case c_quiet_chance_of => k_is)
    (case k_quiet_chance_of => k_is)
    (case a_greatest_cost => k_is)
    (case l_greatest_cost => k_is)
    (case c_greatest_cost => k_is)
    (case k_greatest_cost => k_is)
    (case a_need => k_is)
    (case l_need => k_is)
    (case c_need => k_is)
    (case k_need => k_is)
    (case a_Campaign___init__ => k_is)
    (case i_Campaign___init__ => k_is)
    (case l_Campaign___init__ => k_is)
    (case c_Campaign___init__ => k_is)
    (case k_Campaign___init__ => k_is)
    (case a_Campaign_begin_again => k_is)
    (case i_Campaign_begin_again => k_is)
    (case l_Campaign_begin_again => k_is)
    (case c_Campaign_begin_again => k_is)
    (case k_Campaign_begin_again => k_is)
    (case a_Campaign_create => k_is)
    (case i_Campaign_create => k_is)
    (case l_Campaign_create => k_is)
    (case c_Campaign_create => k_is)
    (case k_Campaign_create => k_is)
    (case a_Campaign_go_on => k_is)
    (case i_Campaign_go_on => k_is)
    (case l_Campaign_go_on => k_is)
    (case c_Campaign_go_on => k_is)
    (case k_Campaign_go_on => k_is)
    (case a_Campaign_remaining => k_is)
    (case i_Campaign_remaining => k_is)
    (case l_Campaign_remaining => k_is)
    (case c_Campaign_remaining => k_is)
    (case k_Campaign_remaining => k_is)
    (case a_need_day => k_is)
    (case l_need_day => k_is)
    (case c_need_day => k_is)
    (case k_need_day => k_is)
    (case a_first_remaining => k_is)
    (case l_first_remaining => k_is)
    (case c_first_remaining => k_is)
    (case k_first_remaining => k_is)
    (case a_told_fraction => k_is)
    (case l_told_fraction => k_is)
    (case c_told_fraction => k_is)
    (case k_told_fraction => k_is)
    (case a_told_truth => k_is)
    (case l_told_truth => k_is)
    (case c_told_truth => k_is)
    (case k_told_truth => k_is)
    (case a_do_create => k_is)
    (case l_do_create => k_is)
    (case c_do_create => k_is)
    (case k_do_create => k_is)
    (case a_do_add_day => k_is)
    (case l_do_add_day => k_is)
    (case c_do_add_day => k_is)
    (case k_do_add_day => k_is)
    (case a_do_set_day => k_is)
    (case l_do_set_day => k_is)
    (case c_do_set_day => k_is)
    (case k_do_set_day => k_is)
    (case a_do_remove_last_day => k_is)
    (case l_do_remove_last_day => k_is)
    (case c_do_remove_last_day => k_is)
    (case k_do_remove_last_day => k_is)
    (case a_do_get_day => k_is)
    (case l_do_get_day => k_is)
    (case c_do_get_day => k_is)
    (case k_do_get_day => k_is)
    (case a_do_value => k_is)
    (case l_do_value => k_is)
    (case c_do_value => k_is)
    (case k_do_value => k_is)
    (case a_do_value_from => k_is)
    (case l_do_value_from => k_is)
    (case c_do_value_from => k_is)
    (case k_do_value_from => k_is)
    (case a_do_plan_value => k_is)
    (case l_do_plan_value => k_is)
    (case c_do_plan_value => k_is)
    (case k_do_plan_value => k_is)
    (case a_do_best_count => k_is)
    (case l_do_best_count => k_is)
    (case c_do_best_count => k_is)
    (case k_do_best_count => k_is)
    (case a_do_lookahead_count => k_is)
    (case l_do_lookahead_count => k_is)
    (case c_do_lookahead_count => k_is)
    (case k_do_lookahead_count => k_is)
    (case a_do_single_day_value => k_is)
    (case l_do_single_day_value => k_is)
    (case c_do_single_day_value => k_is)
    (case k_do_single_day_value => k_is)
    (case a_do_is_monotone => k_is)
    (case l_do_is_monotone => k_is)
    (case c_do_is_monotone => k_is)
    (case k_do_is_monotone => k_is)
    (case a_do_quiet_probability => k_is)
    (case l_do_quiet_probability => k_is)
    (case c_do_quiet_probability => k_is)
    (case k_do_quiet_probability => k_is)
    (case a_do_continue_campaign => k_is)
    (case l_do_continue_campaign => k_is)
    (case c_do_continue_campaign => k_is)
    (case k_do_continue_campaign => k_is)
    (case a_do_stop => k_is)
    (case l_do_stop => k_is)
    (case c_do_stop => k_is)
    (case k_do_stop => k_is)
    (case a_do_restart => k_is)
    (case l_do_restart => k_is)
    (case c_do_restart => k_is)
    (case k_do_restart => k_is)
    (case a_do_max_event_cost => k_is)
    (case l_do_max_event_cost => k_is)
    (case c_do_max_event_cost => k_is)
    (case k_do_max_event_cost => k_is)
    (case a_do_value_with_cost => k_is)
    (case l_do_value_with_cost => k_is)
    (case c_do_value_with_cost => k_is)
    (case k_do_value_with_cost => k_is)
    (case a_do_is_worthwhile => k_is)
    (case l_do_is_worthwhile => k_is)
    (case c_do_is_worthwhile => k_is)
    (case k_do_is_worthwhile => k_is)
    (case a_do_summary => k_is)
    (case l_do_summary => k_is)
    (case c_do_summary => k_is)
    (case k_do_summary => k_is)
    (case a_done => k_is)
    (case l_done => k_is)
    (case c_done => k_is)
    (case k_done => k_is)
    (case a_answer => k_is)
    (case l_answer => k_is)
    (case c_answer => k_is)
    (case k_answer => k_is)
    (case a_answers => k_is)
    (case l_answers => k_is)
    (case c_answers => k_is)
    (case k_answers => k_is)
    (case n_MOST_GAIN => k_is)
    (case n_MOST_DENOMINATOR => k_is)
    (case n_MOST_COST => k_is)
    (case n_RUNNING => k_is)
    (case n_ENDED => k_is)
    (case n_NO_DAY => k_is)
    (case n_MOST_DAYS => k_is)
    (case n_TOO_MANY => k_is)
    (case n_OUT_OF_RANGE => k_is)
    (case n_NOT_POSSIBLE => k_is)
    (case n_NOTHING_TO_REMOVE => k_is)
    (case n_NONE_LEFT => k_is)
    (case n_MOST_SAMPLE => k_is)
    (case n_STOPPED => k_is)
    (case n_CREATE => k_is)
    (case n_NOT_CREATED => k_is)
    (case z_abs => k_is)
    (case z_reversed => k_is)
    (case z_range => k_is)
    (case z_len => k_is)
    (case z_enumerate => k_is)
    (case z_any => k_is)
    (case z_min => k_is)
    (case z_list => k_is)
    (case a_ZERO => k_is)
    (case l_ZERO => k_is)
    (case y_ZERO => rfl)
    (case d_ZERO => rfl)
    (case v_ZERO => exact (.cons ⟨_, rfl⟩ (.cons ⟨_, rfl⟩ .nil)))
    (case w_ZERO => decide)
    (case a_ONE => k_is)
    (case l_ONE => k_is)
    (case y_ONE => rfl)
    (case d_ONE => rfl)
    (case v_ONE => exact (.cons ⟨_, rfl⟩ (.cons ⟨_, rfl⟩ .nil)))
    (case w_ONE => decide)
    (case a_SIZES => k_is)
    (case l_SIZES => k_is)
    (case y_SIZES => rfl)
    (case d_SIZES => rfl)
    (case v_SIZES => exact (.cons ⟨_, rfl⟩ (.cons ⟨_, rfl⟩ (.cons ⟨_, rfl⟩ (.cons ⟨_, rfl⟩ (.cons ⟨_, rfl⟩ (.cons ⟨_, rfl⟩ (.cons ⟨_, rfl⟩ (.cons ⟨_, rfl⟩ (.cons ⟨_, rfl⟩ (.cons ⟨_, rfl⟩ (.cons ⟨_, rfl⟩ (.cons ⟨_, rfl⟩ (.cons ⟨_, rfl⟩ (.cons ⟨_, rfl⟩ (.cons ⟨_, rfl⟩ (.cons ⟨_, rfl⟩ (.cons ⟨_, rfl⟩ (.cons ⟨_, rfl⟩ (.cons ⟨_, rfl⟩ (.cons ⟨_, rfl⟩ .nil)))))))))))))))))))))
    (case w_SIZES => decide)
    (case a_DEEDS => k_is)
    (case l_DEEDS => k_is)
    (case y_DEEDS => rfl)
    (case d_DEEDS => rfl)
    (case v_DEEDS => exact (.cons rfl (.cons rfl (.cons rfl (.cons rfl (.cons rfl (.cons rfl (.cons rfl (.cons rfl (.cons rfl (.cons rfl (.cons rfl (.cons rfl (.cons rfl (.cons rfl (.cons rfl (.cons rfl (.cons rfl (.cons rfl (.cons rfl (.cons rfl .nil)))))))))))))))))))))
    (case w_DEEDS => decide)
    (case pgCD => k_is)
    (case hdCD => k_is)
    (case poCD => k_is)
    (case saCD => k_is)
    (case mkCD => k_is)
    (case kcCD => k_is)
    (case pgCC => k_is)
    (case hdCC => k_is)
    (case poCC => k_is)
    (case saCC => k_is)
    (case mkCC => k_is)
    (case kcCC => k_is)
    (case ngCD => k_is)
    (case nnCD => k_is)
    (case ndCD => k_is)
    (case ncCD => k_is)
    (case ncCC => k_is)
    (case ndCC => k_is)
    (case nnCC => k_is)
    (case ntCC => k_is)
    (case nsCC => k_is)
    (case neC => decide)
    (case xR => k_is)
    (case saR => k_is)
    (case gaR => k_is)
    (case ggR => k_is)
    (case nbR => k_is)
    (case a1R => k_is)
    (case t1R => k_is)
    (case l1R => k_is)
    (case c1R => k_is)
    (case kCR => k_is)
    (case eCR => k_is)
    (case tCR => k_is)
    (case hCR => k_is)
    (case iCR => k_is)
    (case sCR => first | rfl | k_is)
  case S =>
    intro K H xs a hO hwi hask hx
    cases hx with
    | cons h1 h2 =>
      cases h2
      cases h1 with
      | lst hs ha =>
        have e := L2.ints_dw a.1 _ ha
        subst e
        exact ⟨_, a.1, rfl, hs, hask, fun H' p hp => .lst (L2.SqL.of hp) (L2.dw_ints _)⟩
