import PyProof.Rows.All
import Wide.All
import OpenK.AllK
import Wide.FinOn
import PySem.Challenge.RW_pq1012_01
open PySem PySem.W PyProof.Rows
set_option Elab.async false
set_option maxRecDepth 100000
set_option maxHeartbeats 8000000
namespace Mine
open_top hd for PySem.Challenge.rw_pq1012_01
end Mine
namespace Mine
theorem rmul_num (a b : Rat) : (a * b).num = a.num.fdiv (Int.gcd a.num (b.den : Int) : Int) * b.num.fdiv (Int.gcd b.num (a.den : Int) : Int) := by
  show (Rat.mul a b).num = _
  delta Rat.mul
  dsimp only
  rw [Int.divExact_eq_ediv, Int.divExact_eq_ediv, Int.fdiv_eq_ediv_of_nonneg _ (Int.natCast_nonneg _), Int.fdiv_eq_ediv_of_nonneg _ (Int.natCast_nonneg _)]
  rfl
theorem rmul_den (a b : Rat) : ((a * b).den : Int) = (a.den : Int).fdiv (Int.gcd b.num (a.den : Int) : Int) * (b.den : Int).fdiv (Int.gcd a.num (b.den : Int) : Int) := by
  show ((Rat.mul a b).den : Int) = _
  delta Rat.mul
  dsimp only
  rw [Nat.divExact_eq_div, Nat.divExact_eq_div, Int.fdiv_eq_ediv_of_nonneg _ (Int.natCast_nonneg _), Int.fdiv_eq_ediv_of_nonneg _ (Int.natCast_nonneg _), Int.natCast_mul, Int.natCast_ediv, Int.natCast_ediv]
  rfl
abbrev addG (a b : Rat) : Int := (Int.gcd (a.den : Int) (b.den : Int) : Int)
abbrev addT (a b : Rat) : Int := a.num * (b.den : Int).fdiv (addG a b) + b.num * (a.den : Int).fdiv (addG a b)
theorem radd_both (a b : Rat) : (a + b).num = (addT a b).fdiv (Int.gcd (addT a b) (addG a b) : Int) ∧
    ((a + b).den : Int) = (a.den : Int).fdiv (addG a b) * (b.den : Int).fdiv (Int.gcd (addT a b) (addG a b) : Int) := by
  have e0 : (addG a b) = ((a.den.gcd b.den : Nat) : Int) := rfl
  have eT : addT a b = a.num * ((b.den / a.den.gcd b.den : Nat) : Int) + b.num * ((a.den / a.den.gcd b.den : Nat) : Int) := by
    unfold addT
    rw [e0, Int.fdiv_eq_ediv_of_nonneg _ (Int.natCast_nonneg _), Int.fdiv_eq_ediv_of_nonneg _ (Int.natCast_nonneg _), Int.natCast_ediv, Int.natCast_ediv]
  rw [eT, e0]
  have eG : ∀ T : Int, (Int.gcd T ((a.den.gcd b.den : Nat) : Int) : Int) = ((T.natAbs.gcd (a.den.gcd b.den) : Nat) : Int) := fun _ => rfl
  rw [eG]
  show (Rat.add a b).num = _ ∧ ((Rat.add a b).den : Int) = _
  delta Rat.add
  dsimp only
  split
  · rename_i h
    simp only [h, Nat.gcd_one_right, Nat.div_one, Int.natCast_one]
    simp
  · rename_i h
    rw [Rat.maybeNormalize_eq]
    dsimp only
    rw [Int.divExact_eq_ediv]
    refine ⟨by rw [Int.fdiv_eq_ediv_of_nonneg _ (Int.natCast_nonneg _)], ?_⟩
    rw [Int.fdiv_eq_ediv_of_nonneg _ (Int.natCast_nonneg _), Int.fdiv_eq_ediv_of_nonneg _ (Int.natCast_nonneg _), ← Int.natCast_ediv, ← Int.natCast_ediv, ← Int.natCast_mul]
    congr 1
    rw [Nat.mul_div_assoc]
    exact Nat.dvd_trans (Nat.gcd_dvd_right _ _) (Nat.gcd_dvd_right _ _)
theorem rmk_num {x y : Int} (hy : 0 < y) : (mkRat x y.toNat).num = x.fdiv (Int.gcd x y : Int) := by
  rw [Rat.num_mkRat, if_neg (by omega), Int.fdiv_eq_ediv_of_nonneg _ (Int.natCast_nonneg _)]
  have : y.toNat = y.natAbs := by omega
  rw [this, Nat.gcd_comm]
  rfl
theorem rmk_den {x y : Int} (hy : 0 < y) : ((mkRat x y.toNat).den : Int) = y.fdiv (Int.gcd x y : Int) := by
  rw [Rat.den_mkRat, if_neg (by omega), Int.fdiv_eq_ediv_of_nonneg _ (Int.natCast_nonneg _)]
  have e : y.toNat = y.natAbs := by omega
  rw [e, Nat.gcd_comm, Int.natCast_ediv, Int.natAbs_of_nonneg (by omega)]
  rfl
theorem rinv_neg {q : Rat} (h : q.num < 0) : (q⁻¹).num = 0 - (q.den : Int) ∧ ((q⁻¹).den : Int) = 0 - q.num := by
  constructor
  · rw [Rat.num_inv, Int.sign_eq_neg_one_of_neg h]; omega
  · rw [Rat.den_inv, if_neg (by omega)]; omega
theorem rinv_pos {q : Rat} (h : 0 < q.num) : (q⁻¹).num = (q.den : Int) ∧ ((q⁻¹).den : Int) = q.num := by
  constructor
  · rw [Rat.num_inv, Int.sign_eq_one_of_pos h]; omega
  · rw [Rat.den_inv, if_neg (by omega)]; omega

/-- a magnitude -/
def rabs (q : Rat) : Rat := if q.num < 0 then -q else q
theorem rabs_num (q : Rat) : (rabs q).num = if q.num < 0 then -q.num else q.num := by unfold rabs; split <;> simp
theorem rabs_den (q : Rat) : (rabs q).den = q.den := by unfold rabs; split <;> simp
theorem rnum_ne {q : Rat} (h : q ≠ 0) : q.num ≠ 0 := fun e => h (Rat.num_eq_zero.mp e)

/-- bits -/
theorem fdiv_dvd_le {x : Int} {g : Nat} (hg : (g : Int) ∣ x) : (x.fdiv (g : Int)).natAbs ≤ x.natAbs := by
  rw [Int.fdiv_eq_ediv_of_nonneg _ (Int.natCast_nonneg _)]
  obtain ⟨c, rfl⟩ := hg
  by_cases h : g = 0
  · subst h; simp
  · rw [Int.mul_ediv_cancel_left _ (by omega), Int.natAbs_mul, Int.natAbs_natCast]
    exact Nat.le_mul_of_pos_left _ (Nat.pos_of_ne_zero h)
theorem lt_mul_bits {a b : Int} {m n : Nat} (ha : a.natAbs < 2 ^ m) (hb : b.natAbs < 2 ^ n) : (a * b).natAbs < 2 ^ (m + n) := by
  rw [Int.natAbs_mul, Nat.pow_add]
  exact Nat.mul_lt_mul'' ha hb
theorem lt_add_bits {a b : Int} {m : Nat} (ha : a.natAbs < 2 ^ m) (hb : b.natAbs < 2 ^ m) : (a + b).natAbs < 2 ^ (m + 1) := by
  rw [Nat.pow_succ]
  have := Int.natAbs_add_le a b
  omega
theorem lt_bits_le {a : Int} {m n : Nat} (ha : a.natAbs < 2 ^ m) (h : m ≤ n) : a.natAbs < 2 ^ n := Nat.lt_of_lt_of_le ha (Nat.pow_le_pow_right (by decide) h)
theorem dvd_nz {g x : Int} (h : g ∣ x) (hx : x ≠ 0) : g ≠ 0 := fun e => hx (Int.zero_dvd.mp (e ▸ h))
theorem dvd_lt {g x : Int} {k : Nat} (h : g ∣ x) (hx : 0 < x) (hb : x.natAbs < 2 ^ k) : g.natAbs < 2 ^ k := by
  have h1 := Nat.le_of_dvd (by omega) (Int.natAbs_dvd_natAbs.mpr h)
  omega
theorem rat_int {q : Rat} (h : q.den = 1) : q = (q.num : Rat) := Rat.ext rfl h
theorem rmul_whole {a b : Rat} (ha : a.den = 1) (hb : b.den = 1) : (a * b).num = a.num * b.num ∧ (a * b).den = 1 := by
  have e : a * b = ((a.num * b.num : Int) : Rat) := by
    rw [Rat.intCast_mul, ← rat_int ha, ← rat_int hb]
  rw [e]; exact ⟨rfl, rfl⟩
theorem radd_whole {a b : Rat} (ha : a.den = 1) (hb : b.den = 1) : (a + b).num = a.num + b.num ∧ (a + b).den = 1 := by
  have e : a + b = ((a.num + b.num : Int) : Rat) := by
    rw [Rat.intCast_add, ← rat_int ha, ← rat_int hb]
  rw [e]; exact ⟨rfl, rfl⟩
theorem inv_pow (q : Rat) : ∀ n : Nat, (q ^ n)⁻¹ = q⁻¹ ^ n
  | 0 => by rw [Rat.pow_zero, Rat.pow_zero]; exact Rat.inv_eq_of_mul_eq_one (Rat.mul_one 1)
  | n + 1 => by rw [Rat.pow_succ, Rat.pow_succ, Rat.inv_mul_rev, inv_pow q n, Rat.mul_comm]
theorem zp_pos (q : Rat) {e : Int} (h : 0 ≤ e) : q ^ e = q ^ e.toNat := by
  obtain ⟨n, rfl⟩ := Int.eq_ofNat_of_zero_le h
  rw [Int.toNat_natCast]; exact Rat.zpow_natCast q n
theorem zp_neg (q : Rat) {e : Int} (h : e < 0) : q ^ e = q⁻¹ ^ (0 - e).toNat := by
  obtain ⟨n, hn⟩ := Int.eq_ofNat_of_zero_le (show 0 ≤ 0 - e by omega)
  have : e = -(n : Int) := by omega
  rw [hn, Int.toNat_natCast, this, Rat.zpow_neg, Rat.zpow_natCast, inv_pow]
theorem pow_lt18 {b : Int} {k n : Nat} (hk : 0 < k) (h : b.natAbs < 2 ^ k) (hn : n ≤ 18) : (b ^ n).natAbs < 2 ^ (k * 18) := by
  rw [Int.natAbs_pow]
  cases n with
  | zero => rw [Nat.pow_zero]; exact Nat.one_lt_two_pow (by omega)
  | succ n =>
    have h1 := Nat.pow_lt_pow_left h (Nat.succ_ne_zero n)
    rw [← Nat.pow_mul] at h1
    exact Nat.lt_of_lt_of_le h1 (Nat.pow_le_pow_right (by decide) (Nat.mul_le_mul_left k hn))
theorem rinv_lt {q : Rat} {k : Nat} (hk : 0 < k) (h1 : q.num.natAbs < 2 ^ k) (h2 : q.den < 2 ^ k) : (q⁻¹).num.natAbs < 2 ^ k ∧ ((q⁻¹).den : Int).natAbs < 2 ^ k := by
  rcases Int.lt_trichotomy q.num 0 with h | h | h
  · rw [(rinv_neg h).1, (rinv_neg h).2]; omega
  · rw [Rat.num_eq_zero.mp h]; exact ⟨by simpa using Nat.pow_pos (by decide), by simpa using Nat.one_lt_two_pow (by omega)⟩
  · rw [(rinv_pos h).1, (rinv_pos h).2]; omega

/-- roots -/
def IsRoot (N d r : Int) : Prop := 0 ≤ r ∧ r ^ d.toNat ≤ N ∧ N < (r + 1) ^ d.toNat
theorem ipow_mono {a b : Int} (ha : 0 ≤ a) (h : a ≤ b) : ∀ n : Nat, a ^ n ≤ b ^ n
  | 0 => by rw [Int.pow_zero, Int.pow_zero]; exact Int.le_refl _
  | n + 1 => by
    rw [Int.pow_succ, Int.pow_succ]
    exact Int.mul_le_mul (ipow_mono ha h n) h ha (Int.pow_nonneg (by omega))
theorem amgm (r x : Int) (hr : 0 ≤ r) (hx : 0 ≤ x) : ∀ d : Nat, ((d : Int) + 1) * r * x ^ d ≤ r ^ (d + 1) + d * x ^ (d + 1)
  | 0 => by simp [Int.pow_succ]
  | d + 1 => by
    have ih := amgm r x hr hx d
    have h1 := Int.mul_le_mul_of_nonneg_left ih hr
    have h2 : 0 ≤ ((d : Int) + 1) * (x ^ d * ((x - r) * (x - r))) := Int.mul_nonneg (by omega) (Int.mul_nonneg (Int.pow_nonneg hx) (by rcases Int.le_total 0 (x - r) with h | h; exact Int.mul_nonneg h h; exact Int.mul_nonneg_of_nonpos_of_nonpos h h))
    rw [show r ^ (d + 1 + 1) = r * r ^ (d + 1) by rw [Int.pow_succ, Int.mul_comm]]
    simp only [Int.pow_succ] at *
    generalize x ^ d = y at *
    generalize r ^ d = z at *
    rw [Int.natCast_add, Int.natCast_one]
    generalize (d : Int) = c at *
    grind
/-- a step from a guess -/
def nr (N d g : Int) : Int := ((d - 1) * g + N.fdiv (g ^ (d - 1).toNat)).fdiv d
theorem nr_ge {N d g r : Int} (hd : 1 ≤ d) (hg : 1 ≤ g) (h : IsRoot N d r) : r ≤ nr N d g := by
  obtain ⟨n, hn⟩ := Int.eq_ofNat_of_zero_le (show 0 ≤ d - 1 by omega)
  have e1 : d = n + 1 := by omega
  have e2 : d.toNat = n + 1 := by omega
  obtain ⟨h0, h1, h2⟩ := h
  unfold nr
  rw [hn, Int.toNat_natCast]
  have hp : 0 < g ^ n := Int.pow_pos (by omega)
  rw [Int.fdiv_eq_ediv_of_nonneg _ (Int.le_of_lt hp), Int.fdiv_eq_ediv_of_nonneg _ (by omega), Int.le_ediv_iff_mul_le (by omega)]
  have a := amgm r g h0 (by omega) n
  rw [e2] at h1
  have b : d * r - n * g ≤ N / g ^ n := by
    rw [Int.le_ediv_iff_mul_le hp, Int.sub_mul]
    have c1 : (n : Int) * g * g ^ n = n * g ^ (n + 1) := by rw [Int.pow_succ, Int.mul_assoc, Int.mul_comm g]
    have c2 : d * r * g ^ n = (n + 1) * r * g ^ n := by rw [e1]
    omega
  have c3 : r * d = d * r := Int.mul_comm _ _
  omega
theorem nr_lt {N d g r : Int} (hd : 1 ≤ d) (hg : r < g) (h : IsRoot N d r) : nr N d g < g := by
  obtain ⟨n, hn⟩ := Int.eq_ofNat_of_zero_le (show 0 ≤ d - 1 by omega)
  have e2 : d.toNat = n + 1 := by omega
  obtain ⟨h0, h1, h2⟩ := h
  unfold nr
  rw [hn, Int.toNat_natCast]
  have hp : 0 < g ^ n := Int.pow_pos (by omega)
  rw [Int.fdiv_eq_ediv_of_nonneg _ (Int.le_of_lt hp), Int.fdiv_eq_ediv_of_nonneg _ (by omega)]
  have hN : N < g ^ (n + 1) := by
    rw [e2] at h2
    exact Int.lt_of_lt_of_le h2 (ipow_mono (by omega) (by omega) _)
  have b : N / g ^ n < g := by
    rw [Int.ediv_lt_iff_lt_mul hp, Int.mul_comm, ← Int.pow_succ]
    exact hN
  rw [Int.ediv_lt_iff_lt_mul (by omega)]
  have c3 : g * d = n * g + g := by rw [show d = n + 1 by omega, Int.mul_add, Int.mul_one, Int.mul_comm]
  omega
theorem root_unique {N d r r' : Int} (h : IsRoot N d r) (h' : IsRoot N d r') : r = r' := by
  have key : ∀ a b : Int, IsRoot N d a → IsRoot N d b → a ≤ b := by
    intro a b ha hb
    rcases Int.lt_or_le b a with hl | hl
    · have := ipow_mono (show 0 ≤ b + 1 by have := hb.1; omega) (show b + 1 ≤ a by omega) d.toNat
      have h1 := ha.2.1
      have h2 := hb.2.2
      omega
    · exact hl
  have h1 := key r r' h h'
  have h2 := key r' r h' h
  omega
end Mine
namespace Mine
theorem zpow_ne {a : Rat} (h : a ≠ 0) (n : Int) : a ^ n ≠ 0 := by
  intro e
  have h1 := Rat.zpow_add h n (-n)
  rw [e, Int.add_right_neg, Rat.zpow_zero, Rat.zero_mul] at h1
  exact absurd h1 (by decide)
theorem one_ne : (1 : Rat) ≠ 0 := by decide
theorem zpow_succ {a : Rat} (h : a ≠ 0) (n : Int) : a ^ (n + 1) = a ^ n * a := Rat.zpow_add_one h n
theorem pow_mul_rat (a b : Rat) : ∀ n : Nat, (a * b) ^ n = a ^ n * b ^ n
  | 0 => by simp
  | n + 1 => by
    rw [Rat.pow_succ, Rat.pow_succ, Rat.pow_succ, pow_mul_rat a b n]
    grind
theorem zpow_mul_rat {a b : Rat} (n : Int) : (a * b) ^ n = a ^ n * b ^ n := by
  by_cases h : 0 ≤ n
  · obtain ⟨k, rfl⟩ := Int.eq_ofNat_of_zero_le h
    exact pow_mul_rat a b k
  · obtain ⟨k, hk⟩ := Int.eq_ofNat_of_zero_le (show 0 ≤ -n by omega)
    have e : n = -(k : Int) := by omega
    subst e
    rw [Rat.zpow_neg, Rat.zpow_neg, Rat.zpow_neg, Rat.zpow_natCast, Rat.zpow_natCast, Rat.zpow_natCast, pow_mul_rat, Rat.inv_mul_rev, Rat.mul_comm]
theorem pow_one_rat : ∀ n : Nat, (1 : Rat) ^ n = 1
  | 0 => by simp
  | n + 1 => by rw [Rat.pow_succ, pow_one_rat n, Rat.mul_one]
theorem zpow_one_rat (n : Int) : (1 : Rat) ^ n = 1 := by
  by_cases h : 0 ≤ n
  · obtain ⟨k, rfl⟩ := Int.eq_ofNat_of_zero_le h
    exact pow_one_rat k
  · obtain ⟨k, hk⟩ := Int.eq_ofNat_of_zero_le (show 0 ≤ -n by omega)
    have e : n = -(k : Int) := by omega
    subst e
    rw [Rat.zpow_neg, Rat.zpow_natCast, pow_one_rat]
    exact Rat.inv_eq_of_mul_eq_one (Rat.mul_one 1)
theorem zpow_zpow_nat {a : Rat} (h : a ≠ 0) (m : Int) : ∀ n : Nat, (a ^ m) ^ n = a ^ (m * n)
  | 0 => by simp [Rat.zpow_zero]
  | n + 1 => by
    rw [Rat.pow_succ, zpow_zpow_nat h m n, ← Rat.zpow_add h]
    congr 1
    rw [Int.natCast_add, Int.mul_add]
    simp
theorem zpow_zpow {a : Rat} (h : a ≠ 0) (m n : Int) : (a ^ m) ^ n = a ^ (m * n) := by
  by_cases hn : 0 ≤ n
  · obtain ⟨k, rfl⟩ := Int.eq_ofNat_of_zero_le hn
    exact zpow_zpow_nat h m k
  · obtain ⟨k, hk⟩ := Int.eq_ofNat_of_zero_le (show 0 ≤ -n by omega)
    have e : n = -(k : Int) := by omega
    subst e
    rw [Rat.zpow_neg, Rat.zpow_natCast, zpow_zpow_nat h m k, ← Rat.zpow_neg]
    congr 1
    rw [Int.mul_neg]
theorem zpow_opp {a : Rat} (m : Int) : a ^ (0 - m) = (a ^ m)⁻¹ := by rw [Int.zero_sub, Rat.zpow_neg]
theorem zpow_inv {a : Rat} (n : Int) : (a⁻¹) ^ n = (a ^ n)⁻¹ := by
  by_cases h : 0 ≤ n
  · obtain ⟨k, rfl⟩ := Int.eq_ofNat_of_zero_le h
    exact (inv_pow a k).symm
  · obtain ⟨k, hk⟩ := Int.eq_ofNat_of_zero_le (show 0 ≤ -n by omega)
    have e : n = -(k : Int) := by omega
    subst e
    rw [Rat.zpow_neg, Rat.zpow_neg, Rat.zpow_natCast, Rat.zpow_natCast, ← inv_pow]
theorem zpow_div {a b : Rat} (n : Int) : (a / b) ^ n = a ^ n / b ^ n := by
  rw [Rat.div_def, Rat.div_def, zpow_mul_rat, zpow_inv]
theorem div_div {a b c : Rat} : a / (b / c) = (a * c) / b := by
  rw [Rat.div_def, Rat.div_def, Rat.div_def, Rat.inv_mul_rev, Rat.inv_inv, Rat.mul_assoc]
theorem div_ne {b c : Rat} (hb : b ≠ 0) (hc : c ≠ 0) : b / c ≠ 0 := by
  intro e
  have h := Rat.mul_inv_cancel c hc
  have e2 : b * c⁻¹ * c = 0 := by rw [← Rat.div_def, e, Rat.zero_mul]
  rw [Rat.mul_assoc, Rat.mul_comm c⁻¹ c, h, Rat.mul_one] at e2
  exact hb e2
theorem mul_ne {b c : Rat} (hb : b ≠ 0) (hc : c ≠ 0) : b * c ≠ 0 := by
  intro e
  rcases Rat.mul_eq_zero.mp e with h | h
  · exact hb h
  · exact hc h
theorem inv_ne {b : Rat} (hb : b ≠ 0) : b⁻¹ ≠ 0 := fun e => by
  have h := Rat.mul_inv_cancel b hb
  rw [e, Rat.mul_zero] at h
  exact absurd h (by decide)
theorem sub_sub {a b c : Rat} : a - b - c = a - (b + c) := by
  rw [Rat.sub_eq_add_neg, Rat.sub_eq_add_neg, Rat.sub_eq_add_neg, Rat.neg_add, Rat.add_assoc]
theorem rabs_ne {a : Rat} (h : a ≠ 0) : rabs a ≠ 0 := by
  unfold rabs
  split
  · intro e; exact h (by rw [← Rat.neg_neg a, e]; rfl)
  · exact h
theorem rabs_pos {a : Rat} (h : a ≠ 0) : 0 < (rabs a).num := by
  have h1 := rnum_ne h
  rw [rabs_num]
  split <;> omega
theorem pow_num (q : Rat) (n : Int) (h : 0 ≤ n) : (q ^ n).num = q.num ^ n.toNat := by
  rw [zp_pos q h, Rat.num_pow]
theorem pow_den (q : Rat) (n : Int) (h : 0 ≤ n) (hd : q.den = 1) : (q ^ n).den = 1 := by
  rw [zp_pos q h, Rat.den_pow, hd, Nat.one_pow]
/-- the order -/
def cmp (a b : Rat) : Int := (a.num * b.den - b.num * a.den).sign
theorem num_pos {a : Rat} : 0 < a.num ↔ 0 < a := by
  have h := Rat.lt_iff 0 a
  simp at h
  exact h.symm
theorem num_neg {a : Rat} : a.num < 0 ↔ a < 0 := by
  have h := Rat.lt_iff a 0
  simp at h
  exact h.symm
theorem cmp_swap (a b : Rat) : cmp b a = 0 - cmp a b := by
  unfold cmp
  rw [show b.num * (a.den : Int) - a.num * b.den = -(a.num * b.den - b.num * a.den) by omega, Int.sign_neg]
  omega
theorem cmp_lt {a b : Rat} : a < b ↔ a.num * b.den < b.num * a.den := Rat.lt_iff a b
theorem sign_iff {x y : Int} (h1 : 0 < x ↔ 0 < y) (h2 : x < 0 ↔ y < 0) : x.sign = y.sign := by
  rcases Int.lt_trichotomy x 0 with h | h | h
  · rw [Int.sign_eq_neg_one_of_neg h, Int.sign_eq_neg_one_of_neg (h2.mp h)]
  · have : y = 0 := by omega
    rw [h, this]
  · rw [Int.sign_eq_one_of_pos h, Int.sign_eq_one_of_pos (h1.mp h)]
theorem cmp_sub (a b : Rat) : cmp a b = (a - b).num.sign := by
  unfold cmp
  refine sign_iff ?_ ?_
  · rw [num_pos, show (0 < a.num * (b.den : Int) - b.num * a.den) ↔ b < a from by rw [cmp_lt]; omega]
    constructor <;> intro h <;> grind
  · rw [num_neg, show (a.num * (b.den : Int) - b.num * a.den < 0) ↔ a < b from by rw [cmp_lt]; omega]
    constructor <;> intro h <;> grind
theorem cmp_add (a b c : Rat) : cmp (a + c) (b + c) = cmp a b := by
  rw [cmp_sub, cmp_sub]
  congr 2
  grind
theorem sign_mul (a b : Rat) : (a * b).num.sign = a.num.sign * b.num.sign := by
  have h := Rat.num_mul a b
  have hd : ((Nat.gcd (a.num * b.num).natAbs (a.den * b.den) : Nat) : Int) ∣ a.num * b.num := Int.dvd_natAbs.mp (Int.natCast_dvd_natCast.mpr (Nat.gcd_dvd_left _ _))
  have hg : 0 < Nat.gcd (a.num * b.num).natAbs (a.den * b.den) := Nat.gcd_pos_of_pos_right _ (Nat.mul_pos a.den_pos b.den_pos)
  generalize Nat.gcd (a.num * b.num).natAbs (a.den * b.den) = g at h hd hg
  obtain ⟨y, hy⟩ := hd
  rw [hy, Int.mul_ediv_cancel_left _ (by omega)] at h
  rw [← Int.sign_mul, hy, h, Int.sign_mul, Int.sign_eq_one_of_pos (a := (g : Int)) (by omega), Int.one_mul]
end Mine
namespace Mine
abbrev Led := List (Addr × Obj)

/-- a Ratio's fields -/
abbrev RD (w : World) (n d : Int) (t1 t2 t3 t4 : Tok) : Obj :=
  dictOf [⟨PyData.keyHash w.params (Str.ofString "top"), .str (Str.ofString "top") t1, .int n t2⟩, ⟨PyData.keyHash w.params (Str.ofString "bottom"), .str (Str.ofString "bottom") t3, .int d t4⟩] 2

/-- the value stands for the rational q over the ledger, its parts below 2^k -/
inductive RepV (w : World) (led : Led) : Value → Rat → Nat → Prop
  | int {q : Rat} {k : Nat} {t : Tok} : q.den = 1 → q.num.natAbs < 2 ^ k → RepV w led (.int q.num t) q k
  | ref {q : Rat} {k : Nat} {x dx : Addr} {t1 t2 t3 t4 : Tok} : q.den ≠ 1 → q.num.natAbs < 2 ^ k → q.den < 2 ^ k → (x, instObj 31 dx) ∈ led → (dx, RD w q.num (q.den : Int) t1 t2 t3 t4) ∈ led → RepV w led (.ref x) q k

theorem RepV.mono {w : World} {led led' : Led} {v : Value} {q : Rat} {k : Nat} (h : RepV w led v q k) (hs : ∀ p ∈ led, p ∈ led') : RepV w led' v q k := by
  cases h with
  | int a b => exact .int a b
  | ref a b c d e => exact .ref a b c (hs _ d) (hs _ e)
theorem RepV.num_lt {w : World} {led : Led} {v : Value} {q : Rat} {k : Nat} (h : RepV w led v q k) : q.num.natAbs < 2 ^ k := by cases h <;> assumption
theorem RepV.den_lt {w : World} {led : Led} {v : Value} {q : Rat} {k : Nat} (h : RepV w led v q k) (hk : 0 < k) : q.den < 2 ^ k := by
  cases h with
  | int a b => rw [a]; exact Nat.one_lt_two_pow (Nat.ne_of_gt hk)
  | ref a b c d e => exact c
theorem RepV.le {w : World} {led : Led} {v : Value} {q : Rat} {k k' : Nat} (h : RepV w led v q k) (hk : k ≤ k') : RepV w led v q k' := by
  have h2 := Nat.pow_le_pow_right (n := 2) (by decide) hk
  cases h with
  | int a b => exact .int a (Nat.lt_of_lt_of_le b h2)
  | ref a b c d e => exact .ref a (Nat.lt_of_lt_of_le b h2) (Nat.lt_of_lt_of_le c h2) d e
theorem RepV.whole {w : World} {led : Led} {v : Value} {q : Rat} {k : Nat} (h : RepV w led v q k) (hd : q.den = 1) : ∃ t, v = .int q.num t := by
  cases h with
  | int a b => exact ⟨_, rfl⟩
  | ref a b c d e => exact absurd hd a
theorem RepV.parts {w : World} {led : Led} {v : Value} {q : Rat} {k : Nat} (h : RepV w led v q k) (hd : q.den ≠ 1) :
    ∃ x dx t1 t2 t3 t4, v = .ref x ∧ (x, instObj 31 dx) ∈ led ∧ (dx, RD w q.num (q.den : Int) t1 t2 t3 t4) ∈ led := by
  cases h with
  | int a b => exact absurd a hd
  | ref a b c d e => exact ⟨_, _, _, _, _, _, rfl, d, e⟩
theorem RepV.ofInt {w : World} {led : Led} {n : Int} {t : Tok} {k : Nat} (h : n.natAbs < 2 ^ k) : RepV w led (.int n t) (n : Rat) k := RepV.int (q := (n : Rat)) rfl h
theorem RepV.ofInt' {w : World} {led : Led} {n : Int} {t : Tok} {k : Nat} {q : Rat} (hn : q.num = n) (hd : q.den = 1) (h : n.natAbs < 2 ^ k) : RepV w led (.int n t) q k := by
  subst hn; exact .int hd h

theorem mulok {a b : Int} {m n : Nat} (ha : a.natAbs < 2 ^ m) (hb : b.natAbs < 2 ^ n) (h : m + n ≤ 100000) : IntMulOk a b :=
  PyProof.Rows.mulOk_of_bits (intBits_le_iff.mpr ha) (intBits_le_iff.mpr hb) (by omega)
theorem nolog {x y : Int} {k : Nat} (hy : y.natAbs < 2 ^ k) (hk : k ≤ 9000) : Builtin.divisionGoesByPylong x y = false := by
  refine PyProof.noPylong_of_log2 ?_
  by_cases h0 : y.natAbs = 0
  · rw [h0]; decide +kernel
  · exact Nat.lt_of_lt_of_le ((Nat.log2_lt h0).mpr hy) hk
theorem ord_sub {news big tl : Led} (h : ∀ q ∈ big, ∀ p ∈ tl, q.1 < p.1) (hs : ∀ q ∈ news, q ∈ big) : ∀ q ∈ news, ∀ p ∈ tl, q.1 < p.1 := fun q hq p hp => h q (hs q hq) p hp

/-- what a def's call comes to -/
def Ct (w : World) (sz : Nat) (f : Addr) (vs : List Value) (news : Led) (Out : Led → Value → Prop) : Prop :=
  ∀ (dp un : Nat) (gd : Option (List Code)) (cn : Str) (cs : Scope) (a : Addr) (ccd : Value) (cl : List (Str × Addr)) (outer : List Env) (A₀ : Around) (base h₀ : Heap) (L : Addr) (m : Str → Option Value) (s : Shared)
    (mean : ExcName → Option Value) (mg mb : Str → Option Value) (Q E : Value → Shared → Prop),
    Below A₀ base outer h₀ → Fr h₀ L s.heap m → (hd.heap_39 w.params).In h₀ → News h₀ L s.heap news → Top hd.view_39 (looseW hd.view_39 []) mean mg mb h₀ → cs.kind = .function → dp + sz < recursionLimit → un + 8 * sz < cLine →
    (∀ r tl h' tk', Fr h₀ L h' m → News h₀ L h' (tl ++ news) → (∀ q ∈ news, ∀ p ∈ tl, q.1 < p.1) → Out tl r → Q r { s with heap := h', toks := tk' }) →
    wpAny (model PySem.Challenge.rw_pq1012_01.row.prog w) (ktrTop dp un gd cn cs L a ccd cl outer) (call (.ref f) vs) Q E s

abbrev OutI (n : Int) (tl : Led) (r : Value) : Prop := tl = [] ∧ ∃ t, r = .int n t
abbrev OutB (b : Bool) (tl : Led) (r : Value) : Prop := tl = [] ∧ r = .bool b
abbrev OutN (tl : Led) (r : Value) : Prop := tl = [] ∧ r = .none
abbrev OutR (w : World) (q : Rat) (k : Nat) (tl : Led) (r : Value) : Prop := RepV w tl r q k

section
variable {w : World} {sz : Nat} {f : Addr} {vs : List Value} {news : Led} {dp un : Nat} {gd : Option (List Code)} {cn : Str} {cs : Scope} {a : Addr} {ccd : Value} {cl : List (Str × Addr)} {outer : List Env} {A₀ : Around} {base h₀ : Heap} {L : Addr} {m : Str → Option Value} {s : Shared}
    {mean : ExcName → Option Value} {mg mb : Str → Option Value} {Q E : Value → Shared → Prop}
theorem Ct.useI {n : Int} (C : Ct w sz f vs news (OutI n)) (B : Below A₀ base outer h₀) (F : Fr h₀ L s.heap m) (X : (hd.heap_39 w.params).In h₀) (N : News h₀ L s.heap news) (T : Top hd.view_39 (looseW hd.view_39 []) mean mg mb h₀) (hk : cs.kind = .function) (hd' : dp + sz < recursionLimit) (hu : un + 8 * sz < cLine)
    (ret : ∀ t h' tk', Fr h₀ L h' m → News h₀ L h' news → Q (.int n t) { s with heap := h', toks := tk' }) :
    wpAny (model PySem.Challenge.rw_pq1012_01.row.prog w) (ktrTop dp un gd cn cs L a ccd cl outer) (call (.ref f) vs) Q E s :=
  C _ _ _ _ _ _ _ _ _ _ _ _ _ _ _ _ _ _ _ _ B F X N T hk hd' hu fun r tl h' tk' F' N' _ o => by
    obtain ⟨rfl, t, rfl⟩ := o
    exact ret t h' tk' F' N'
theorem Ct.useB {n : Bool} (C : Ct w sz f vs news (OutB n)) (B : Below A₀ base outer h₀) (F : Fr h₀ L s.heap m) (X : (hd.heap_39 w.params).In h₀) (N : News h₀ L s.heap news) (T : Top hd.view_39 (looseW hd.view_39 []) mean mg mb h₀) (hk : cs.kind = .function) (hd' : dp + sz < recursionLimit) (hu : un + 8 * sz < cLine)
    (ret : ∀ h' tk', Fr h₀ L h' m → News h₀ L h' news → Q (.bool n) { s with heap := h', toks := tk' }) :
    wpAny (model PySem.Challenge.rw_pq1012_01.row.prog w) (ktrTop dp un gd cn cs L a ccd cl outer) (call (.ref f) vs) Q E s :=
  C _ _ _ _ _ _ _ _ _ _ _ _ _ _ _ _ _ _ _ _ B F X N T hk hd' hu fun r tl h' tk' F' N' _ o => by
    obtain ⟨rfl, rfl⟩ := o
    exact ret h' tk' F' N'
theorem Ct.useN (C : Ct w sz f vs news OutN) (B : Below A₀ base outer h₀) (F : Fr h₀ L s.heap m) (X : (hd.heap_39 w.params).In h₀) (N : News h₀ L s.heap news) (T : Top hd.view_39 (looseW hd.view_39 []) mean mg mb h₀) (hk : cs.kind = .function) (hd' : dp + sz < recursionLimit) (hu : un + 8 * sz < cLine)
    (ret : ∀ h' tk', Fr h₀ L h' m → News h₀ L h' news → Q .none { s with heap := h', toks := tk' }) :
    wpAny (model PySem.Challenge.rw_pq1012_01.row.prog w) (ktrTop dp un gd cn cs L a ccd cl outer) (call (.ref f) vs) Q E s :=
  C _ _ _ _ _ _ _ _ _ _ _ _ _ _ _ _ _ _ _ _ B F X N T hk hd' hu fun r tl h' tk' F' N' _ o => by
    obtain ⟨rfl, rfl⟩ := o
    exact ret h' tk' F' N'
theorem Ct.useR {q : Rat} {k : Nat} (C : Ct w sz f vs news (OutR w q k)) (B : Below A₀ base outer h₀) (F : Fr h₀ L s.heap m) (X : (hd.heap_39 w.params).In h₀) (N : News h₀ L s.heap news) (T : Top hd.view_39 (looseW hd.view_39 []) mean mg mb h₀) (hk : cs.kind = .function) (hd' : dp + sz < recursionLimit) (hu : un + 8 * sz < cLine)
    (ret : ∀ r tl h' tk', Fr h₀ L h' m → News h₀ L h' (tl ++ news) → (∀ q ∈ news, ∀ p ∈ tl, q.1 < p.1) → RepV w tl r q k → Q r { s with heap := h', toks := tk' }) :
    wpAny (model PySem.Challenge.rw_pq1012_01.row.prog w) (ktrTop dp un gd cn cs L a ccd cl outer) (call (.ref f) vs) Q E s :=
  C _ _ _ _ _ _ _ _ _ _ _ _ _ _ _ _ _ _ _ _ B F X N T hk hd' hu ret

/-- a return's ways -/
theorem retI {n x : Int} {t : Tok} {h' : Heap} {tk' : Nat} {nx : Led}
    (hret : ∀ r tl h' tk', Fr h₀ L h' m → News h₀ L h' (tl ++ news) → (∀ q ∈ news, ∀ p ∈ tl, q.1 < p.1) → OutI n tl r → Q r { s with heap := h', toks := tk' })
    (F : Fr h₀ L h' m) (N : News h₀ L h' nx) (hs : ∀ p ∈ news, p ∈ nx) (e : x = n) : Q (.int x t) { s with heap := h', toks := tk' } :=
  hret _ [] _ _ F (fun p hp => N p (hs p hp)) (fun _ _ _ h => nomatch h) ⟨rfl, t, by rw [e]⟩
theorem retB {n x : Bool} {h' : Heap} {tk' : Nat} {nx : Led}
    (hret : ∀ r tl h' tk', Fr h₀ L h' m → News h₀ L h' (tl ++ news) → (∀ q ∈ news, ∀ p ∈ tl, q.1 < p.1) → OutB n tl r → Q r { s with heap := h', toks := tk' })
    (F : Fr h₀ L h' m) (N : News h₀ L h' nx) (hs : ∀ p ∈ news, p ∈ nx) (e : x = n) : Q (.bool x) { s with heap := h', toks := tk' } :=
  hret _ [] _ _ F (fun p hp => N p (hs p hp)) (fun _ _ _ h => nomatch h) ⟨rfl, by rw [e]⟩
theorem retN {h' : Heap} {tk' : Nat} {nx : Led}
    (hret : ∀ r tl h' tk', Fr h₀ L h' m → News h₀ L h' (tl ++ news) → (∀ q ∈ news, ∀ p ∈ tl, q.1 < p.1) → OutN tl r → Q r { s with heap := h', toks := tk' })
    (F : Fr h₀ L h' m) (N : News h₀ L h' nx) (hs : ∀ p ∈ news, p ∈ nx) : Q .none { s with heap := h', toks := tk' } :=
  hret _ [] _ _ F (fun p hp => N p (hs p hp)) (fun _ _ _ h => nomatch h) ⟨rfl, rfl⟩
theorem retRi {q : Rat} {k : Nat} {x : Int} {t : Tok} {h' : Heap} {tk' : Nat} {nx : Led}
    (hret : ∀ r tl h' tk', Fr h₀ L h' m → News h₀ L h' (tl ++ news) → (∀ q ∈ news, ∀ p ∈ tl, q.1 < p.1) → OutR w q k tl r → Q r { s with heap := h', toks := tk' })
    (F : Fr h₀ L h' m) (N : News h₀ L h' nx) (hs : ∀ p ∈ news, p ∈ nx) (e : q.num = x) (hd : q.den = 1) (hl : q.num.natAbs < 2 ^ k) : Q (.int x t) { s with heap := h', toks := tk' } :=
  hret _ [] _ _ F (fun p hp => N p (hs p hp)) (fun _ _ _ h => nomatch h) (RepV.ofInt' e hd (e ▸ hl))
theorem retR {q q' : Rat} {k k' : Nat} {r : Value} {tl : Led} {h' : Heap} {tk' : Nat} {nx : Led}
    (hret : ∀ r tl h' tk', Fr h₀ L h' m → News h₀ L h' (tl ++ news) → (∀ q ∈ news, ∀ p ∈ tl, q.1 < p.1) → OutR w q k tl r → Q r { s with heap := h', toks := tk' })
    (R : RepV w tl r q' k') (F : Fr h₀ L h' m) (N : News h₀ L h' nx) (h1 : ∀ p ∈ tl, p ∈ nx) (h2 : ∀ p ∈ news, p ∈ nx) (ho : ∀ q ∈ news, ∀ p ∈ tl, q.1 < p.1) (e : q' = q) (hk : k' ≤ k) : Q r { s with heap := h', toks := tk' } :=
  hret _ tl _ _ F (fun p hp => N p ((List.mem_append.mp hp).elim (h1 p) (h2 p))) ho (e ▸ R.le hk)
theorem retRx {q : Rat} {k : Nat} {x dx : Addr} {t1 t2 t3 t4 : Tok} {h' : Heap} {tk' : Nat} {y z : Int}
    (hret : ∀ r tl h' tk', Fr h₀ L h' m → News h₀ L h' (tl ++ news) → (∀ q ∈ news, ∀ p ∈ tl, q.1 < p.1) → OutR w q k tl r → Q r { s with heap := h', toks := tk' })
    (F : Fr h₀ L h' m) (N : News h₀ L h' ((x, instObj 31 dx) :: (dx, RD w y z t1 t2 t3 t4) :: news)) (l1 : ∀ p ∈ news, p.1 < dx) (l2 : @LT.lt Nat _ dx x) (e1 : q.num = y) (e2 : (q.den : Int) = z) (hd : q.den ≠ 1) (hn : q.num.natAbs < 2 ^ k) (hdl : q.den < 2 ^ k) :
    Q (.ref x) { s with heap := h', toks := tk' } := by
  subst e1; subst e2
  refine hret _ [(x, instObj 31 dx), (dx, RD w q.num (q.den : Int) t1 t2 t3 t4)] _ _ F N ?_ (RepV.ref hd hn hdl (.head _) (.tail _ (.head _)))
  intro p hp p' hp'
  have h1 := l1 p hp
  rcases List.mem_cons.mp hp' with rfl | hp'
  · exact Nat.lt_trans h1 l2
  · rw [List.mem_singleton.mp hp']; exact h1
end
end Mine
local macro_rules | `(tactic| walk_at "my std") => `(tactic| ((case B => k_asm); (case F => k_asm); (case X => k_asm); (case T => k_asm); (case hk => first | exact rfl | assumption); (case hd => ktr_room); (case hu => ktr_units)))
local macro_rules | `(tactic| walk_at "my tail") => `(tactic| ((try k_sweep); (try dsimp only); (try k_fold)))
local macro_rules | `(tactic| walk_at "my in") => `(tactic| first
  | assumption
  | (refine List.mem_cons_of_mem _ ?_; walk_at "my in")
  | (refine List.mem_append_left _ ?_; walk_at "my in")
  | (refine List.mem_append_right _ ?_; walk_at "my in"))
local macro_rules | `(tactic| walk_at "my sub") => `(tactic| first | exact fun _ h => h | (intro p9 h9; walk_at "my in"))
local macro_rules | `(tactic| walk_at "my rep") => `(tactic| first
  | assumption
  | (refine Mine.RepV.mono (by assumption) ?_; walk_at "my sub"))
local macro_rules | `(tactic| walk_at "my numlt") => `(tactic| assumption)
local macro_rules | `(tactic| walk_at "my ord") => `(tactic| first | assumption | (refine Mine.ord_sub (by assumption) ?_; walk_at "my sub"))
local macro_rules | `(tactic| walk_at "binaryOp FloorDiv int int") => `(tactic| (k_here; (with_reducible refine PyProof.Rows.floordiv_int ?_ ?_ (Or.inl ?_)); (focus assumption); rotate_left; (focus assumption)))
local macro_rules | `(tactic| walk_at "my nat") => `(tactic| first | assumption | decide | omega)
local macro_rules | `(tactic| walk_at "my nz") => `(tactic| assumption)
local macro_rules | `(tactic| walk_at "binaryOp Mult int int") => `(tactic| (k_here; (with_reducible refine PyProof.Rows.mul_int ?_ ?_); rotate_left; (focus walk_at "my mul")))
local macro_rules | `(tactic| walk_at "my mul") => `(tactic| assumption)
local macro_rules | `(tactic| walk_at "call ref") => `(tactic| (k_here; k_dflt (refine' Mine.Ct.useB ?C ?B ?F ?X ?N ?T ?hk ?hd ?hu ?_; (case N => k_asm); (case C => walk_at "my ctB"); walk_at "my std"; intro h' tk' F' N'; walk_at "my tail")))
local macro_rules | `(tactic| walk_at "call ref") => `(tactic| (k_here; k_dflt (refine' Mine.Ct.useN ?C ?B ?F ?X ?N ?T ?hk ?hd ?hu ?_; (case N => k_asm); (case C => walk_at "my ctN"); walk_at "my std"; intro h' tk' F' N'; walk_at "my tail")))
local macro_rules | `(tactic| walk_at "call ref") => `(tactic| (k_here; k_dflt (refine' Mine.Ct.useI ?C ?B ?F ?X ?N ?T ?hk ?hd ?hu ?_; (case N => k_asm); (case C => walk_at "my ctI"); walk_at "my std"; intro t' h' tk' F' N'; walk_at "my tail")))
local macro_rules | `(tactic| walk_at "call ref") => `(tactic| (k_here; k_dflt (refine' Mine.Ct.useR ?C ?B ?F ?X ?N ?T ?hk ?hd ?hu ?_; (case N => k_asm); (case C => walk_at "my ctR"); walk_at "my std"; intro r' tl' h' tk' F' N' o' R'; walk_at "my tail")))
namespace Mine
section
variable {w : World} {news : Led} {q : Rat} {k : Nat} {v : Value}

theorem gcd_fmod (x y : Int) (hx : 0 ≤ x) (hy : 0 ≤ y) : Int.gcd y (x.fmod y) = Int.gcd x y := by
  obtain ⟨a, rfl⟩ := Int.eq_ofNat_of_zero_le hx
  obtain ⟨b, rfl⟩ := Int.eq_ofNat_of_zero_le hy
  rw [Int.fmod_eq_emod_of_nonneg _ hy, ← Int.natCast_emod]
  show Nat.gcd b (a % b) = Nat.gcd a b
  rw [Nat.gcd_comm b, ← Nat.gcd_rec, Nat.gcd_comm]
theorem gcd_abs (x y : Int) : (if x < 0 then -x else x).gcd (if y < 0 then -y else y) = x.gcd y := by
  split <;> split <;> simp
theorem gcd_turn {x y : Int} {g : Nat} (h : 0 ≤ x ∧ 0 ≤ y ∧ Int.gcd x y = g) (h0 : y ≠ 0) : 0 ≤ y ∧ 0 ≤ x.fmod y ∧ Int.gcd y (x.fmod y) = g := by
  refine ⟨h.2.1, Int.fmod_nonneg_of_pos _ (by omega), ?_⟩
  rw [gcd_fmod x y h.1 h.2.1, h.2.2]
theorem gcd_less {x y : Int} (h : 0 ≤ y) (h0 : y ≠ 0) : (x.fmod y).toNat < y.toNat := by
  have := Int.fmod_lt_of_pos x (show 0 < y by omega)
  omega

theorem gcd_end {x y a b : Int} (h : x.gcd y = (if a < 0 then -a else a).gcd (if b < 0 then -b else b)) (h0 : 0 ≤ x) (h1 : y = 0) : x = (a.gcd b : Int) := by
  rw [gcd_abs] at h
  rw [← h, h1, Int.gcd_zero_right]
  omega
theorem gcd_c {x y : Int} {tx ty : Tok} : Ct w 2 63 [.int x tx, .int y ty] news (OutI (Int.gcd x y : Int)) := by
  unfold Ct
  k_fill
  intro dp un gd cn cs a ccd cl outer A₀ base h₀ L m s mean mg mb Q E B F X N T hk hd hu hret
  k_with_none
  k_with "exec While Compare cons nil" => k_while_given ["one!", "other!"] (fun (x₀ y₀ : Int) (_ : List Int) (x y : Int) => 0 ≤ x ∧ 0 ≤ y ∧ Int.gcd x y = Int.gcd x₀ y₀) (fun (_ _ : Int) (_ : List Int) (_ y : Int) => y.toNat) "one" "other"
  k_with "state" => (first | (refine ⟨?_, ?_, rfl⟩ <;> split <;> omega) | (refine gcd_turn ⟨?_, ?_, ?_⟩ ?_ <;> assumption))
  k_with "measure" => exact gcd_less (by assumption) (by assumption)
  refine wpAny_call ?_
  k_dflt ktr_enter
  k_steps
  all_goals (refine retI hret (by k_asm) (by k_asm) (by walk_at "my sub") ?_)
  exact gcd_end (by assumption) (by assumption) (by assumption)

theorem made_c {x y : Int} {tx ty : Tok} (h1 : q.num = x) (h2 : (q.den : Int) = y) (h3 : x.natAbs < 2 ^ k) (h4 : y.natAbs < 2 ^ k) : Ct w 3 70 [.int x tx, .int y ty] news (OutR w q k) := by
  unfold Ct
  k_fill
  intro dp un gd cn cs a ccd cl outer A₀ base h₀ L m s mean mg mb Q E B F X N T hk hd hu hret
  k_with_none
  refine wpAny_call ?_
  k_dflt ktr_enter
  repeat' ((fail_if_success (with_reducible show wpAny _ _ (call (Value.ref 31) _) _ _ _)); (first | (k_unfold; (try dsimp only)) | walk1 | (dsimp only; walk1)))
  rotate_left
  k_dflt (refine' call_cls ?y1 ?y2 ?y3 ?y4 ?y5 ?y6 ?_; (case y1 => k_asm); (case y2 => k_asm); (case y3 => k_asm); (case y4 => k_is); (case y5 => k_is); (case y6 => k_is); k_whole)
  intro x9 d9 h9 F9 N9 l9 l8
  (try k_lt l9)
  (try k_lt2 l8)
  (try k_sweep)
  k_dflt (refine' code_def ?y1 ?y2 ?y3 ?y4 ?y5 ?yA ?yF ?yK ?y6 ?y7 ?y8 ?y9 ?yB ?_ ?z2 ?z3 ?z4 ?z5; (case yA => exact rfl); (case yF => exact rfl); (case yK => first | exact rfl | assumption); (case y1 => k_asm); (case y2 => k_asm); (case y3 => k_asm); (case y4 => k_asm); (case y5 => k_asm); (case y6 => k_is); (case y7 => k_is); (case y8 => ktr_room); (case y9 => exact BindsTo.of_eq rfl); (case z5 => decide); (case yB => exact locs rfl); (case z2 => exact rfl); (case z3 => exact rfl); (case z4 => exact rfl); k_whole)
  intro g8 L8 h8 FG8 F8 N8 B8 X8 T8
  (try dsimp only)
  (try k_fold)
  k_steps
  rotate_left
  · exact retRi hret (by k_asm) (by k_asm) (by walk_at "my sub") h1 (by omega) (h1 ▸ h3)
  · exact retRx hret (by k_asm) (by k_asm) (by assumption) (by assumption) h1 h2 (by omega) (h1 ▸ h3) (by omega)

theorem top_of_c (R : RepV w news v q k) : Ct w 2 49 [v] news (OutI q.num) := by
  unfold Ct
  k_fill
  intro dp un gd cn cs a ccd cl outer A₀ base h₀ L m s mean mg mb Q E B F X N T hk hd hu hret
  k_with_none
  cases R
  all_goals (
    refine wpAny_call ?_
    k_dflt ktr_enter
    k_steps)
  all_goals exact retI hret (by k_asm) (by k_asm) (by walk_at "my sub") rfl
theorem bottom_of_c (R : RepV w news v q k) : Ct w 2 56 [v] news (OutI (q.den : Int)) := by
  unfold Ct
  k_fill
  intro dp un gd cn cs a ccd cl outer A₀ base h₀ L m s mean mg mb Q E B F X N T hk hd hu hret
  k_with_none
  cases R
  all_goals (
    refine wpAny_call ?_
    k_dflt ktr_enter
    k_steps)
  all_goals exact retI hret (by k_asm) (by k_asm) (by walk_at "my sub") (by omega)
theorem is_whole_c (R : RepV w news v q k) : Ct w 2 42 [v] news (OutB (decide (q.den = 1))) := by
  unfold Ct
  k_fill
  intro dp un gd cn cs a ccd cl outer A₀ base h₀ L m s mean mg mb Q E B F X N T hk hd hu hret
  k_with_none
  cases R
  all_goals (
    refine wpAny_call ?_
    k_dflt ktr_enter
    k_steps)
  all_goals exact retB hret (by k_asm) (by k_asm) (by walk_at "my sub") (by simp [*])
end
end Mine
local macro_rules | `(tactic| walk_at "my ctI") => `(tactic| (refine' Mine.gcd_c))
local macro_rules | `(tactic| walk_at "my ctR") => `(tactic| (refine' Mine.made_c ?p0 ?p1 ?p2 ?p3; (case p0 => walk_at "my nat"); (case p1 => walk_at "my nat"); (case p2 => walk_at "my numlt"); (case p3 => walk_at "my nat")))
local macro_rules | `(tactic| walk_at "my ctI") => `(tactic| (refine' Mine.top_of_c ?p0; (case p0 => walk_at "my rep")))
local macro_rules | `(tactic| walk_at "my ctI") => `(tactic| (refine' Mine.bottom_of_c ?p0; (case p0 => walk_at "my rep")))
local macro_rules | `(tactic| walk_at "my ctB") => `(tactic| (refine' Mine.is_whole_c ?p0; (case p0 => walk_at "my rep")))
namespace Mine
section
variable {w : World} {news : Led} {q q1 q2 : Rat} {k k1 k2 : Nat} {v v1 v2 : Value}

theorem sgn (n : Int) : b2i (decide (0 < n)) - b2i (decide (n < 0)) = n.sign := by
  rcases Int.lt_trichotomy n 0 with h | h | h
  · rw [Int.sign_eq_neg_one_of_neg h, decide_eq_false (by omega), decide_eq_true h]; rfl
  · subst h; rfl
  · rw [Int.sign_eq_one_of_pos h, decide_eq_true h, decide_eq_false (by omega)]; rfl
theorem sgn2 (a b : Int) : b2i (decide (b < a)) - b2i (decide (a < b)) = (a - b).sign := by
  rw [← sgn, decide_eq_decide.mpr (show b < a ↔ 0 < a - b by omega), decide_eq_decide.mpr (show a < b ↔ a - b < 0 by omega)]
theorem negate_c (R : RepV w news v q k) (hk0 : 0 < k) : Ct w 6 91 [v] news (OutR w (-q) k) := by
  unfold Ct
  k_fill
  intro dp un gd cn cs a ccd cl outer A₀ base h₀ L m s mean mg mb Q E B F X N T hk hd hu hret
  k_with_none
  have n1 : (-q).num = 0 - q.num := by simp
  have n2 : ((-q).den : Int) = (q.den : Int) := by simp
  have n3 : (0 - q.num).natAbs < 2 ^ k := by simpa using R.num_lt
  have n4 : ((q.den : Int)).natAbs < 2 ^ k := by simpa using R.den_lt hk0
  refine wpAny_call ?_
  k_dflt ktr_enter
  k_steps
  all_goals exact retR hret (by assumption) (by k_asm) (by k_asm) (by walk_at "my sub") (by walk_at "my sub") (by walk_at "my ord") rfl (Nat.le_refl _)

theorem magnitude_c (R : RepV w news v q k) (hk0 : 0 < k) : Ct w 6 98 [v] news (OutR w (rabs q) k) := by
  unfold Ct
  k_fill
  intro dp un gd cn cs a ccd cl outer A₀ base h₀ L m s mean mg mb Q E B F X N T hk hd hu hret
  k_with_none
  have n1 := rabs_num q
  have n2 : ((rabs q).den : Int) = (q.den : Int) := by rw [rabs_den]
  have n3 : (if q.num < 0 then -q.num else q.num).natAbs < 2 ^ k := by have := R.num_lt; split <;> omega
  have n4 : ((q.den : Int)).natAbs < 2 ^ k := by simpa using R.den_lt hk0
  refine wpAny_call ?_
  k_dflt ktr_enter
  k_steps
  all_goals exact retR hret (by assumption) (by k_asm) (by k_asm) (by walk_at "my sub") (by walk_at "my sub") (by walk_at "my ord") rfl (Nat.le_refl _)

theorem sign_c (R : RepV w news v q k) : Ct w 6 84 [v] news (OutI q.num.sign) := by
  unfold Ct
  k_fill
  intro dp un gd cn cs a ccd cl outer A₀ base h₀ L m s mean mg mb Q E B F X N T hk hd hu hret
  k_with_none
  refine wpAny_call ?_
  k_dflt ktr_enter
  k_steps
  all_goals (refine retI hret (by k_asm) (by k_asm) (by walk_at "my sub") ?_)
  all_goals exact sgn _

theorem compare_c (R1 : RepV w news v1 q1 k1) (R2 : RepV w news v2 q2 k2) (hk1 : 0 < k1) (hk2 : 0 < k2) (hs : k1 + k2 ≤ 8000) :
    Ct w 6 140 [v1, v2] news (OutI (q1.num * q2.den - q2.num * q1.den).sign) := by
  unfold Ct
  k_fill
  intro dp un gd cn cs a ccd cl outer A₀ base h₀ L m s mean mg mb Q E B F X N T hk hd hu hret
  k_with_none
  have d1 : ((q1.den : Int)).natAbs < 2 ^ k1 := by simpa using R1.den_lt hk1
  have d2 : ((q2.den : Int)).natAbs < 2 ^ k2 := by simpa using R2.den_lt hk2
  have m1 : IntMulOk q1.num (q2.den : Int) := mulok R1.num_lt d2 (by omega)
  have m2 : IntMulOk q2.num (q1.den : Int) := mulok R2.num_lt d1 (by omega)
  refine wpAny_call ?_
  k_dflt ktr_enter
  k_steps
  all_goals (refine retI hret (by k_asm) (by k_asm) (by walk_at "my sub") ?_)
  all_goals exact sgn2 _ _

theorem ratio_of_c {x y : Int} {tx ty : Tok} (hx : 0 < x) (hy : 0 < y) (bx : x.natAbs < 2 ^ k) (bY : y.natAbs < 2 ^ k) (hs : k ≤ 8000) :
    Ct w 6 77 [.int x tx, .int y ty] news (OutR w (mkRat x y.toNat) k) := by
  unfold Ct
  k_fill
  intro dp un gd cn cs a ccd cl outer A₀ base h₀ L m s mean mg mb Q E B F X N T hk hd hu hret
  k_with_none
  have n1 := rmk_num (x := x) hy
  have n2 := rmk_den (x := x) hy
  have g1 : (Int.gcd x y : Int) ∣ x := Int.gcd_dvd_left x y
  have g2 : (Int.gcd x y : Int) ∣ y := Int.gcd_dvd_right x y
  have g0 : (Int.gcd x y : Int) ≠ 0 := by
    intro h; rw [h] at g1; have := Int.zero_dvd.mp g1; omega
  have g3 : (Int.gcd x y : Int).natAbs < 2 ^ k := by
    have := Int.le_of_dvd hx g1
    omega
  have l1 : Builtin.divisionGoesByPylong x (Int.gcd x y : Int) = false := nolog g3 (by omega)
  have l2 : Builtin.divisionGoesByPylong y (Int.gcd x y : Int) = false := nolog g3 (by omega)
  have n3 : (x.fdiv (Int.gcd x y : Int)).natAbs < 2 ^ k := Nat.lt_of_le_of_lt (fdiv_dvd_le g1) bx
  have n4 : (y.fdiv (Int.gcd x y : Int)).natAbs < 2 ^ k := Nat.lt_of_le_of_lt (fdiv_dvd_le g2) bY
  refine wpAny_call ?_
  k_dflt ktr_enter
  k_steps
  all_goals exact retR hret (by assumption) (by k_asm) (by k_asm) (by walk_at "my sub") (by walk_at "my sub") (by walk_at "my ord") rfl (Nat.le_refl _)

theorem reciprocal_c (R : RepV w news v q k) (hk0 : 0 < k) (h0 : q ≠ 0) : Ct w 6 126 [v] news (OutR w q⁻¹ k) := by
  unfold Ct
  k_fill
  intro dp un gd cn cs a ccd cl outer A₀ base h₀ L m s mean mg mb Q E B F X N T hk hd hu hret
  k_with_none
  have hz := rnum_ne h0
  have n3 := R.num_lt
  have n4 : ((q.den : Int)).natAbs < 2 ^ k := by simpa using R.den_lt hk0
  have n5 : (0 - q.num).natAbs < 2 ^ k := by omega
  have n6 : (0 - (q.den : Int)).natAbs < 2 ^ k := by omega
  by_cases hq : q.num < 0
  · have n1 := (rinv_neg hq).1
    have n2 := (rinv_neg hq).2
    refine wpAny_call ?_
    k_dflt ktr_enter
    k_steps
    all_goals exact retR hret (by assumption) (by k_asm) (by k_asm) (by walk_at "my sub") (by walk_at "my sub") (by walk_at "my ord") rfl (Nat.le_refl _)
  · have n1 := (rinv_pos (q := q) (by omega)).1
    have n2 := (rinv_pos (q := q) (by omega)).2
    refine wpAny_call ?_
    k_dflt ktr_enter
    k_steps
    all_goals exact retR hret (by assumption) (by k_asm) (by k_asm) (by walk_at "my sub") (by walk_at "my sub") (by walk_at "my ord") rfl (Nat.le_refl _)

/-- a test that is so in no case: walked apart, gone on once -/
theorem cond_false {M : Model} {A : Around} {c : Sem Bool} {Q : Bool → Shared → Prop} {E : Value → Shared → Prop} {g h : Heap} {L : Addr} {m : Str → Option Value} {s : Shared} {tk : Nat} (_F : Fr g L h m) (_N : News g L h news)
    (hc : ∀ E', wpAny M A c (fun b s' => b = false ∧ ∃ h' tk', s' = { s with heap := h', toks := tk' } ∧ Fr g L h' m ∧ News g L h' news) E' { s with heap := h, toks := tk })
    (go : ∀ h' tk', Fr g L h' m → News g L h' news → Q false { s with heap := h', toks := tk' }) : wpAny M A c Q E { s with heap := h, toks := tk } :=
  wpAny_mono (hc E) (fun _ _ ⟨a, h', tk', b, F', N'⟩ => by subst a; subst b; exact go h' tk' F' N') fun _ _ e => e
theorem multiply_c (R1 : RepV w news v1 q1 k1) (R2 : RepV w news v2 q2 k2) (hk1 : 0 < k1) (hk2 : 0 < k2) (hs : k1 + k2 ≤ 8000) :
    Ct w 6 119 [v1, v2] news (OutR w (q1 * q2) (k1 + k2)) := by
  unfold Ct
  k_fill
  intro dp un gd cn cs a ccd cl outer A₀ base h₀ L m s mean mg mb Q E B F X N T hk hd hu hret
  k_with_none
  have d1 : ((q1.den : Int)).natAbs < 2 ^ k1 := by simpa using R1.den_lt hk1
  have d2 : ((q2.den : Int)).natAbs < 2 ^ k2 := by simpa using R2.den_lt hk2
  have p1 := q1.den_pos
  have p2 := q2.den_pos
  by_cases hw : q1.den = 1 ∧ q2.den = 1
  · obtain ⟨t1, rfl⟩ := R1.whole hw.1
    obtain ⟨t2, rfl⟩ := R2.whole hw.2
    have m1 : IntMulOk q1.num q2.num := mulok R1.num_lt R2.num_lt (by omega)
    have n0 := rmul_whole hw.1 hw.2
    refine wpAny_call ?_
    k_dflt ktr_enter
    k_steps
    all_goals exact retRi hret (by k_asm) (by k_asm) (by walk_at "my sub") n0.1 n0.2 (n0.1 ▸ lt_mul_bits R1.num_lt R2.num_lt)
  · have g1 : (Int.gcd q1.num (q2.den : Int) : Int) ∣ q1.num := Int.gcd_dvd_left _ _
    have g2 : (Int.gcd q1.num (q2.den : Int) : Int) ∣ (q2.den : Int) := Int.gcd_dvd_right _ _
    have g3 : (Int.gcd q2.num (q1.den : Int) : Int) ∣ q2.num := Int.gcd_dvd_left _ _
    have g4 : (Int.gcd q2.num (q1.den : Int) : Int) ∣ (q1.den : Int) := Int.gcd_dvd_right _ _
    have z1 : (Int.gcd q1.num (q2.den : Int) : Int) ≠ 0 := dvd_nz g2 (by omega)
    have z2 : (Int.gcd q2.num (q1.den : Int) : Int) ≠ 0 := dvd_nz g4 (by omega)
    have b1 : (Int.gcd q1.num (q2.den : Int) : Int).natAbs < 2 ^ k2 := dvd_lt g2 (by omega) d2
    have b2 : (Int.gcd q2.num (q1.den : Int) : Int).natAbs < 2 ^ k1 := dvd_lt g4 (by omega) d1
    have l1 : Builtin.divisionGoesByPylong q1.num (Int.gcd q1.num (q2.den : Int) : Int) = false := nolog b1 (by omega)
    have l2 : Builtin.divisionGoesByPylong (q2.den : Int) (Int.gcd q1.num (q2.den : Int) : Int) = false := nolog b1 (by omega)
    have l3 : Builtin.divisionGoesByPylong q2.num (Int.gcd q2.num (q1.den : Int) : Int) = false := nolog b2 (by omega)
    have l4 : Builtin.divisionGoesByPylong (q1.den : Int) (Int.gcd q2.num (q1.den : Int) : Int) = false := nolog b2 (by omega)
    have f1 := Nat.lt_of_le_of_lt (fdiv_dvd_le g1) R1.num_lt
    have f2 := Nat.lt_of_le_of_lt (fdiv_dvd_le g2) d2
    have f3 := Nat.lt_of_le_of_lt (fdiv_dvd_le g3) R2.num_lt
    have f4 := Nat.lt_of_le_of_lt (fdiv_dvd_le g4) d1
    have m1 : IntMulOk (q1.num.fdiv (Int.gcd q1.num (q2.den : Int) : Int)) (q2.num.fdiv (Int.gcd q2.num (q1.den : Int) : Int)) := mulok f1 f3 (by omega)
    have m2 : IntMulOk ((q1.den : Int).fdiv (Int.gcd q2.num (q1.den : Int) : Int)) ((q2.den : Int).fdiv (Int.gcd q1.num (q2.den : Int) : Int)) := mulok f4 f2 (by omega)
    have n1 := rmul_num q1 q2
    have n2 := rmul_den q1 q2
    have n3 := lt_mul_bits f1 f3
    have n4 := lt_mul_bits f4 f2
    refine wpAny_call ?_
    k_dflt ktr_enter
    iterate 3 walk1
    refine cond_false (s := s) (by assumption) (by assumption) (fun E' => ?_) fun h' tk' F9 N9 => ?_
    · repeat' (first | (k_unfold; (try dsimp only)) | walk1 | (dsimp only; walk1))
      all_goals first | trivial | assumption | (exfalso; exact hw ⟨by assumption, by assumption⟩)
    k_steps
    all_goals exact retR hret (by assumption) (by k_asm) (by k_asm) (by walk_at "my sub") (by walk_at "my sub") (by walk_at "my ord") rfl (Nat.le_refl _)

theorem add_c (R1 : RepV w news v1 q1 k1) (R2 : RepV w news v2 q2 k2) (hk1 : 0 < k1) (hk2 : 0 < k2) (hs : k1 + k2 ≤ 8000) :
    Ct w 6 105 [v1, v2] news (OutR w (q1 + q2) (k1 + k2 + 1)) := by
  unfold Ct
  k_fill
  intro dp un gd cn cs a ccd cl outer A₀ base h₀ L m s mean mg mb Q E B F X N T hk hd hu hret
  k_with_none
  have d1 : ((q1.den : Int)).natAbs < 2 ^ k1 := by simpa using R1.den_lt hk1
  have d2 : ((q2.den : Int)).natAbs < 2 ^ k2 := by simpa using R2.den_lt hk2
  have p1 := q1.den_pos
  have p2 := q2.den_pos
  by_cases hw : q1.den = 1 ∧ q2.den = 1
  · obtain ⟨t1, rfl⟩ := R1.whole hw.1
    obtain ⟨t2, rfl⟩ := R2.whole hw.2
    have n0 := radd_whole hw.1 hw.2
    have n5 : (q1 + q2).num.natAbs < 2 ^ (k1 + k2 + 1) := by
      rw [n0.1]
      exact lt_add_bits (lt_bits_le R1.num_lt (by omega)) (lt_bits_le R2.num_lt (by omega))
    refine wpAny_call ?_
    k_dflt ktr_enter
    k_steps
    all_goals exact retRi hret (by k_asm) (by k_asm) (by walk_at "my sub") n0.1 n0.2 n5
  · have g1 : addG q1 q2 ∣ (q1.den : Int) := Int.gcd_dvd_left _ _
    have g2 : addG q1 q2 ∣ (q2.den : Int) := Int.gcd_dvd_right _ _
    have g3 : (Int.gcd (addT q1 q2) (addG q1 q2) : Int) ∣ addT q1 q2 := Int.gcd_dvd_left _ _
    have g4 : (Int.gcd (addT q1 q2) (addG q1 q2) : Int) ∣ (q2.den : Int) := Int.dvd_trans (Int.gcd_dvd_right _ _) g2
    have z1 : addG q1 q2 ≠ 0 := dvd_nz g2 (by omega)
    have z2 : (Int.gcd (addT q1 q2) (addG q1 q2) : Int) ≠ 0 := dvd_nz g4 (by omega)
    have b1 : (addG q1 q2).natAbs < 2 ^ k2 := dvd_lt g2 (by omega) d2
    have b2 : (Int.gcd (addT q1 q2) (addG q1 q2) : Int).natAbs < 2 ^ k2 := dvd_lt g4 (by omega) d2
    have l1 : Builtin.divisionGoesByPylong (q1.den : Int) (addG q1 q2) = false := nolog b1 (by omega)
    have l2 : Builtin.divisionGoesByPylong (q2.den : Int) (addG q1 q2) = false := nolog b1 (by omega)
    have l3 : Builtin.divisionGoesByPylong (addT q1 q2) (Int.gcd (addT q1 q2) (addG q1 q2) : Int) = false := nolog b2 (by omega)
    have l4 : Builtin.divisionGoesByPylong (q2.den : Int) (Int.gcd (addT q1 q2) (addG q1 q2) : Int) = false := nolog b2 (by omega)
    have f1 := Nat.lt_of_le_of_lt (fdiv_dvd_le g1) d1
    have f2 := Nat.lt_of_le_of_lt (fdiv_dvd_le g2) d2
    have m1 : IntMulOk q1.num ((q2.den : Int).fdiv (addG q1 q2)) := mulok R1.num_lt f2 (by omega)
    have m2 : IntMulOk q2.num ((q1.den : Int).fdiv (addG q1 q2)) := mulok R2.num_lt f1 (by omega)
    have bT : (addT q1 q2).natAbs < 2 ^ (k1 + k2 + 1) := lt_add_bits (lt_mul_bits R1.num_lt f2) (Nat.add_comm k2 k1 ▸ lt_mul_bits R2.num_lt f1)
    have f3 := Nat.lt_of_le_of_lt (fdiv_dvd_le g3) bT
    have f4 := Nat.lt_of_le_of_lt (fdiv_dvd_le g4) d2
    have m3 : IntMulOk ((q1.den : Int).fdiv (addG q1 q2)) ((q2.den : Int).fdiv (Int.gcd (addT q1 q2) (addG q1 q2) : Int)) := mulok f1 f4 (by omega)
    have n0 := radd_both q1 q2
    have n1 := n0.1
    have n2 := n0.2
    have n4 := lt_bits_le (lt_mul_bits f1 f4) (show k1 + k2 ≤ k1 + k2 + 1 by omega)
    clear n0
    refine wpAny_call ?_
    k_dflt ktr_enter
    iterate 3 walk1
    refine cond_false (s := s) (by assumption) (by assumption) (fun E' => ?_) fun h' tk' F9 N9 => ?_
    · repeat' (first | (k_unfold; (try dsimp only)) | walk1 | (dsimp only; walk1))
      all_goals first | trivial | assumption | (exfalso; exact hw ⟨by assumption, by assumption⟩)
    k_steps
    all_goals exact retR hret (by assumption) (by k_asm) (by k_asm) (by walk_at "my sub") (by walk_at "my sub") (by walk_at "my ord") rfl (Nat.le_refl _)
end
end Mine
local macro_rules | `(tactic| walk_at "my ctR") => `(tactic| (refine' Mine.negate_c ?p0 ?p1; (case p0 => walk_at "my rep"); (case p1 => walk_at "my nat")))
local macro_rules | `(tactic| walk_at "my ctR") => `(tactic| (refine' Mine.magnitude_c ?p0 ?p1; (case p0 => walk_at "my rep"); (case p1 => walk_at "my nat")))
local macro_rules | `(tactic| walk_at "my ctI") => `(tactic| (refine' Mine.sign_c ?p0; (case p0 => walk_at "my rep")))
local macro_rules | `(tactic| walk_at "my ctI") => `(tactic| (refine' Mine.compare_c ?p0 ?p1 ?p2 ?p3 ?p4; (case p0 => walk_at "my rep"); (case p1 => walk_at "my rep"); (case p2 => walk_at "my nat"); (case p3 => walk_at "my nat"); (case p4 => walk_at "my nat")))
local macro_rules | `(tactic| walk_at "my ctR") => `(tactic| (refine' Mine.ratio_of_c ?p0 ?p1 ?p2 ?p3 ?p4; (case p0 => walk_at "my nat"); (case p1 => walk_at "my nat"); (case p2 => walk_at "my numlt"); (case p3 => walk_at "my numlt"); (case p4 => walk_at "my nat")))
local macro_rules | `(tactic| walk_at "my ctR") => `(tactic| (refine' Mine.reciprocal_c ?p0 ?p1 ?p2; (case p0 => walk_at "my rep"); (case p1 => walk_at "my nat"); (case p2 => walk_at "my nz")))
local macro_rules | `(tactic| walk_at "my ctR") => `(tactic| (refine' Mine.multiply_c ?p0 ?p1 ?p2 ?p3 ?p4; (case p0 => walk_at "my rep"); (case p1 => walk_at "my rep"); (case p2 => walk_at "my nat"); (case p3 => walk_at "my nat"); (case p4 => walk_at "my nat")))
local macro_rules | `(tactic| walk_at "my ctR") => `(tactic| (refine' Mine.add_c ?p0 ?p1 ?p2 ?p3 ?p4; (case p0 => walk_at "my rep"); (case p1 => walk_at "my rep"); (case p2 => walk_at "my nat"); (case p3 => walk_at "my nat"); (case p4 => walk_at "my nat")))
namespace Mine
theorem pow_small {b e : Int} (h : (if b < 0 then -b else b) < 2) (he : 0 ≤ e) : b ^ e.toNat = if e.fmod 2 = 1 then b else if b ≠ 0 ∨ e = 0 then 1 else 0 := by
  obtain ⟨n, rfl⟩ := Int.eq_ofNat_of_zero_le he
  rw [Int.toNat_natCast]
  have hb : b = -1 ∨ b = 0 ∨ b = 1 := by split at h <;> omega
  rcases hb with rfl | rfl | rfl
  · have key : ∀ m : Nat, (-1 : Int) ^ m = if (m : Int).fmod 2 = 1 then -1 else 1 := by
      intro m
      induction m with
      | zero => rfl
      | succ m ih =>
        rw [Int.pow_succ, ih]
        have e1 := Int.fmod_eq_emod_of_nonneg (m : Int) (show (0 : Int) ≤ 2 by decide)
        have e2 := Int.fmod_eq_emod_of_nonneg ((m + 1 : Nat) : Int) (show (0 : Int) ≤ 2 by decide)
        rw [e1, e2]
        split <;> split <;> omega
    rw [key]
    split <;> simp
  · cases n with
    | zero => simp
    | succ n =>
      rw [Int.pow_succ, Int.mul_zero]
      split
      · rfl
      · rw [if_neg (by omega)]
  · rw [Int.one_pow]; simp
def PowInv (K : Nat) (b0 e0 f b e : Int) : Prop :=
  0 ≤ e ∧ ∃ p s : Nat, f = b0 ^ p ∧ b = b0 ^ s ∧ (p : Int) + s * e = e0 ∧ (s : Int) ≤ 2 * e0 + 1 ∧ b0.natAbs < 2 ^ K ∧ K * (2 * e0 + 1) ≤ 40000
theorem pow_lt {b : Int} {K p : Nat} (h : b.natAbs < 2 ^ K) : (b ^ p).natAbs < 2 ^ (K * p + 1) := by
  rw [Int.natAbs_pow]
  have h1 := Nat.pow_le_pow_left (Nat.le_of_lt h) p
  rw [← Nat.pow_mul] at h1
  exact Nat.lt_of_le_of_lt h1 (Nat.pow_lt_pow_right (by decide) (Nat.lt_succ_self _))
theorem pow_start {K : Nat} {b e : Int} (he : 0 ≤ e) (hb : b.natAbs < 2 ^ K) (hs : K * (2 * e + 1) ≤ 40000) : PowInv K b e 1 b e :=
  ⟨he, 0, 1, (Int.pow_zero b).symm, by rw [Int.pow_succ, Int.pow_zero, Int.one_mul], by rw [Int.natCast_one, Int.one_mul]; omega, by omega, hb, hs⟩
theorem pow_mulF {K : Nat} {b0 e0 f b e : Int} (h : PowInv K b0 e0 f b e) : IntMulOk f b := by
  obtain ⟨he, p, s, rfl, rfl, h1, h2, h3, h4⟩ := h
  have hp : (p : Int) ≤ e0 := by
    have := Int.mul_nonneg (show (0:Int) ≤ s by omega) he
    omega
  have e1 : K * p ≤ 40000 := by
    have : (K : Int) * p ≤ K * (2 * e0 + 1) := Int.mul_le_mul_of_nonneg_left (by omega) (by omega)
    exact Int.ofNat_le.mp (by rw [Int.natCast_mul]; omega)
  have e2 : K * s ≤ 40000 := by
    have : (K : Int) * s ≤ K * (2 * e0 + 1) := Int.mul_le_mul_of_nonneg_left (by omega) (by omega)
    exact Int.ofNat_le.mp (by rw [Int.natCast_mul]; omega)
  exact mulok (pow_lt h3) (pow_lt h3) (by omega)
theorem pow_mulB {K : Nat} {b0 e0 f b e : Int} (h : PowInv K b0 e0 f b e) : IntMulOk b b := by
  obtain ⟨he, p, s, rfl, rfl, h1, h2, h3, h4⟩ := h
  have e2 : K * s ≤ 40000 := by
    have : (K : Int) * s ≤ K * (2 * e0 + 1) := Int.mul_le_mul_of_nonneg_left (by omega) (by omega)
    exact Int.ofNat_le.mp (by rw [Int.natCast_mul]; omega)
  exact mulok (pow_lt h3) (pow_lt h3) (by omega)
theorem pow_odd {K : Nat} {b0 e0 f b e : Int} (h : PowInv K b0 e0 f b e) (h1 : e.fmod 2 = 1) (h2 : 0 < e.fdiv 2) : PowInv K b0 e0 (f * b) (b * b) (e.fdiv 2) := by
  obtain ⟨he, p, s, rfl, rfl, k1, k2, k3, k4⟩ := h
  rw [Int.fmod_eq_emod_of_nonneg _ (by decide)] at h1
  rw [Int.fdiv_eq_ediv_of_nonneg _ (by decide)] at h2 ⊢
  have e3 : (s : Int) * e = s * (e / 2) + s * (e / 2) + s := by
    have e2 : e = e / 2 + e / 2 + 1 := by omega
    calc (s : Int) * e = s * (e / 2 + e / 2 + 1) := by rw [← e2]
      _ = _ := by rw [Int.mul_add, Int.mul_add, Int.mul_one]
  have e4 : ((s + s : Nat) : Int) * (e / 2) = s * (e / 2) + s * (e / 2) := by rw [Int.natCast_add, Int.add_mul]
  have e5 : (s : Int) * 1 ≤ s * (e / 2) := Int.mul_le_mul_of_nonneg_left (by omega) (by omega)
  refine ⟨by omega, p + s, s + s, (Int.pow_add _ _ _).symm, (Int.pow_add _ _ _).symm, ?_, by omega, k3, k4⟩
  rw [e4]; omega
theorem pow_even {K : Nat} {b0 e0 f b e : Int} (h : PowInv K b0 e0 f b e) (h0 : 0 < e) (h1 : e.fmod 2 ≠ 1) : PowInv K b0 e0 f (b * b) (e.fdiv 2) := by
  obtain ⟨he, p, s, rfl, rfl, k1, k2, k3, k4⟩ := h
  rw [Int.fmod_eq_emod_of_nonneg _ (by decide)] at h1
  rw [Int.fdiv_eq_ediv_of_nonneg _ (by decide)]
  have e3 : (s : Int) * e = s * (e / 2) + s * (e / 2) := by
    have e2 : e = e / 2 + e / 2 := by omega
    calc (s : Int) * e = s * (e / 2 + e / 2) := by rw [← e2]
      _ = _ := by rw [Int.mul_add]
  have e4 : ((s + s : Nat) : Int) * (e / 2) = s * (e / 2) + s * (e / 2) := by rw [Int.natCast_add, Int.add_mul]
  have e5 : (s : Int) * 1 ≤ s * (e / 2) := Int.mul_le_mul_of_nonneg_left (by omega) (by omega)
  refine ⟨by omega, p, s + s, rfl, (Int.pow_add _ _ _).symm, ?_, by omega, k3, k4⟩
  rw [e4]; omega
theorem pow_last {K : Nat} {b0 e0 f b e : Int} (h : PowInv K b0 e0 f b e) (h0 : 0 < e) (h2 : ¬ 0 < e.fdiv 2) : PowInv K b0 e0 (f * b) b (e.fdiv 2) := by
  obtain ⟨he, p, s, rfl, rfl, k1, k2, k3, k4⟩ := h
  rw [Int.fdiv_eq_ediv_of_nonneg _ (by decide)] at h2 ⊢
  have e2 : e = 1 := by omega
  subst e2
  refine ⟨by decide, p + s, s, (Int.pow_add _ _ _).symm, rfl, ?_, k2, k3, k4⟩
  show ((p + s : Nat) : Int) + s * 0 = e0
  omega
theorem pow_end {K : Nat} {b0 e0 f b e : Int} (h : PowInv K b0 e0 f b e) (h0 : ¬ 0 < e) : f = b0 ^ e0.toNat := by
  obtain ⟨he, p, s, rfl, rfl, k1, k2, k3, k4⟩ := h
  have : e = 0 := by omega
  subst this
  rw [show e0.toNat = p by omega]
theorem pow_less {e : Int} (h : 0 < e) : (e.fdiv 2).toNat < e.toNat := by
  rw [Int.fdiv_eq_ediv_of_nonneg _ (by decide)]; omega
theorem pow_never {e : Int} (h : 0 < e) (h1 : e.fmod 2 ≠ 1) (h2 : ¬ 0 < e.fdiv 2) : False := by
  rw [Int.fmod_eq_emod_of_nonneg _ (by decide)] at h1
  rw [Int.fdiv_eq_ediv_of_nonneg _ (by decide)] at h2
  omega

local macro_rules | `(tactic| walk_at "my mul") => `(tactic| first | exact pow_mulF (by assumption) | exact pow_mulB (by assumption))
section
variable {w : World} {news : Led} {q q1 q2 : Rat} {k k1 k2 : Nat} {v v1 v2 : Value}

theorem power_whole_c {b e : Int} {tb te : Tok} (he : 0 ≤ e) (hb : b.natAbs < 2 ^ k) (hs : k * (2 * e + 1) ≤ 40000) : Ct w 2 147 [.int b tb, .int e te] news (OutI (b ^ e.toNat)) := by
  unfold Ct
  k_fill
  intro dp un gd cn cs a ccd cl outer A₀ base h₀ L m s mean mg mb Q E B F X N T hk hd hu hret
  k_with_none
  have P0 := pow_start he hb hs
  k_with "exec While Compare cons nil" => k_while_given ["exponent!", "base!"] (fun (e₀ b₀ : Int) (_ : List Int) (f b e : Int) => PowInv k b₀ e₀ f b e) (fun (_ _ : Int) (_ : List Int) (_ _ e : Int) => e.toNat) "found" "base" "exponent"
  k_with "state" => (first | exact P0 | exact pow_odd (by assumption) (by assumption) (by assumption) | exact pow_even (by assumption) (by assumption) (by assumption) | exact pow_last (by assumption) (by assumption) (by assumption) | exact (pow_never (by assumption) (by assumption) (by assumption)).elim)
  k_with "measure" => exact pow_less (by assumption)
  refine wpAny_call ?_
  k_dflt ktr_enter
  k_steps
  all_goals (refine retI hret (by k_asm) (by k_asm) (by walk_at "my sub") ?_)
  · rw [pow_small (by assumption) he, if_pos (by assumption)]
  · rw [pow_small (by assumption) he, if_neg (by assumption), if_pos (.inl (by assumption))]
  · rw [pow_small (by assumption) he, if_neg (by assumption), if_pos (.inr (by assumption))]
  · rw [pow_small (by assumption) he, if_neg (by assumption), if_neg (by omega)]
  · exact pow_end (by assumption) (by assumption)
end
end Mine
local macro_rules | `(tactic| walk_at "my ctI") => `(tactic| (refine' Mine.power_whole_c ?p0 ?p1 ?p2; (case p0 => walk_at "my nat"); (case p1 => walk_at "my numlt"); (case p2 => walk_at "my nat")))
namespace Mine
section
variable {w : World} {news : Led} {q q1 q2 : Rat} {k k1 k2 : Nat} {v v1 v2 : Value}
theorem subtract_c (R1 : RepV w news v1 q1 k1) (R2 : RepV w news v2 q2 k2) (hk1 : 0 < k1) (hk2 : 0 < k2) (hs : k1 + k2 ≤ 8000) :
    Ct w 14 112 [v1, v2] news (OutR w (q1 - q2) (k1 + k2 + 1)) := by
  unfold Ct
  k_fill
  intro dp un gd cn cs a ccd cl outer A₀ base h₀ L m s mean mg mb Q E B F X N T hk hd hu hret
  k_with_none
  refine wpAny_call ?_
  k_dflt ktr_enter
  k_steps
  all_goals exact retR hret (by assumption) (by k_asm) (by k_asm) (by walk_at "my sub") (by walk_at "my sub") (by walk_at "my ord") (Rat.sub_eq_add_neg _ _).symm (Nat.le_refl _)
theorem divide_c (R1 : RepV w news v1 q1 k1) (R2 : RepV w news v2 q2 k2) (hk1 : 0 < k1) (hk2 : 0 < k2) (hs : k1 + k2 ≤ 8000) (h0 : q2 ≠ 0) :
    Ct w 14 133 [v1, v2] news (OutR w (q1 / q2) (k1 + k2)) := by
  unfold Ct
  k_fill
  intro dp un gd cn cs a ccd cl outer A₀ base h₀ L m s mean mg mb Q E B F X N T hk hd hu hret
  k_with_none
  refine wpAny_call ?_
  k_dflt ktr_enter
  k_steps
  all_goals exact retR hret (by assumption) (by k_asm) (by k_asm) (by walk_at "my sub") (by walk_at "my sub") (by walk_at "my ord") (Rat.div_def _ _).symm (Nat.le_refl _)
theorem size18 {k : Nat} {e : Int} (h1 : e ≤ 18) (h0 : 0 ≤ e) (hs : k ≤ 200) : k * (2 * e + 1) ≤ 40000 := by
  have : (k : Int) * (2 * e + 1) ≤ 200 * 37 := Int.mul_le_mul (by omega) (by omega) (by omega) (by omega)
  omega
theorem power_c {e : Int} {te : Tok} (R : RepV w news v q k) (hk0 : 0 < k) (he : e ≤ 18) (he' : -18 ≤ e) (h0 : q ≠ 0) (hs : k ≤ 200) :
    Ct w 14 154 [v, .int e te] news (OutR w (q ^ e) (k * 18)) := by
  unfold Ct
  k_fill
  intro dp un gd cn cs a ccd cl outer A₀ base h₀ L m s mean mg mb Q E B F X N T hk hd hu hret
  k_with_none
  have b1 := R.num_lt
  have b2 := R.den_lt hk0
  by_cases hq : e < 0
  · have r1 := (rinv_lt hk0 b1 b2).1
    have r2 := (rinv_lt hk0 b1 b2).2
    have n1 : (q ^ e).num = (q⁻¹).num ^ (0 - e).toNat := by rw [zp_neg q hq]; rfl
    have n2 : ((q ^ e).den : Int) = ((q⁻¹).den : Int) ^ (0 - e).toNat := by rw [zp_neg q hq, Rat.den_pow, Int.natCast_pow]
    have n3 : ((q⁻¹).num ^ (0 - e).toNat).natAbs < 2 ^ (k * 18) := pow_lt18 hk0 r1 (by omega)
    have n4 : (((q⁻¹).den : Int) ^ (0 - e).toNat).natAbs < 2 ^ (k * 18) := pow_lt18 hk0 r2 (by omega)
    have s1 : k * (2 * (0 - e) + 1) ≤ 40000 := size18 (by omega) (by omega) hs
    have s2 : 0 ≤ 0 - e := by omega
    refine wpAny_call ?_
    k_dflt ktr_enter
    k_steps
    all_goals exact retR hret (by assumption) (by k_asm) (by k_asm) (by walk_at "my sub") (by walk_at "my sub") (by walk_at "my ord") rfl (Nat.le_refl _)
  · have r2 : ((q.den : Int)).natAbs < 2 ^ k := by simpa using b2
    have n1 : (q ^ e).num = q.num ^ e.toNat := by rw [zp_pos q (by omega)]; rfl
    have n2 : ((q ^ e).den : Int) = (q.den : Int) ^ e.toNat := by rw [zp_pos q (by omega), Rat.den_pow, Int.natCast_pow]
    have n3 : (q.num ^ e.toNat).natAbs < 2 ^ (k * 18) := pow_lt18 hk0 b1 (by omega)
    have n4 : ((q.den : Int) ^ e.toNat).natAbs < 2 ^ (k * 18) := pow_lt18 hk0 r2 (by omega)
    have s1 : k * (2 * e + 1) ≤ 40000 := size18 (by omega) (by omega) hs
    have s2 : 0 ≤ e := by omega
    refine wpAny_call ?_
    k_dflt ktr_enter
    k_steps
    all_goals exact retR hret (by assumption) (by k_asm) (by k_asm) (by walk_at "my sub") (by walk_at "my sub") (by walk_at "my ord") rfl (Nat.le_refl _)
end
end Mine
local macro_rules | `(tactic| walk_at "my ctR") => `(tactic| (refine' Mine.subtract_c ?p0 ?p1 ?p2 ?p3 ?p4; (case p0 => walk_at "my rep"); (case p1 => walk_at "my rep"); (case p2 => walk_at "my nat"); (case p3 => walk_at "my nat"); (case p4 => walk_at "my nat")))
local macro_rules | `(tactic| walk_at "my ctR") => `(tactic| (refine' Mine.divide_c ?p0 ?p1 ?p2 ?p3 ?p4 ?p5; (case p0 => walk_at "my rep"); (case p1 => walk_at "my rep"); (case p2 => walk_at "my nat"); (case p3 => walk_at "my nat"); (case p4 => walk_at "my nat"); (case p5 => walk_at "my nz")))
local macro_rules | `(tactic| walk_at "my ctR") => `(tactic| (refine' Mine.power_c ?p0 ?p1 ?p2 ?p3 ?p4 ?p5; (case p0 => walk_at "my rep"); (case p1 => walk_at "my nat"); (case p2 => walk_at "my nat"); (case p3 => walk_at "my nat"); (case p4 => walk_at "my nz"); (case p5 => walk_at "my nat")))
namespace Mine
section
variable {w : World} {news : Led} {q q1 q2 : Rat} {k k1 k2 : Nat} {v v1 v2 : Value}
theorem nearer_c {N d g : Int} {tN td tg : Tok} (hd1 : 2 ≤ d) (hd2 : d ≤ 5) (hg : 1 ≤ g) (bg : g.natAbs < 2 ^ k) (hs : k ≤ 1000) :
    Ct w 6 161 [.int N tN, .int d td, .int g tg] news (OutI (nr N d g)) := by
  unfold Ct
  k_fill
  intro dp un gd cn cs a ccd cl outer A₀ base h₀ L m s mean mg mb Q E B F X N' T hk hd hu hret
  k_with_none
  have s1 : k * (2 * (d - 1) + 1) ≤ 40000 := by
    have : (k : Int) * (2 * (d - 1) + 1) ≤ 1000 * 9 := Int.mul_le_mul (by omega) (by omega) (by omega) (by omega)
    omega
  have s2 : 0 ≤ d - 1 := by omega
  have s3 : (g ^ (d - 1).toNat) ≠ 0 := Int.ne_of_gt (Int.pow_pos (by omega))
  have s4 : Builtin.divisionGoesByPylong N (g ^ (d - 1).toNat) = false := nolog (pow_lt bg) (by
    have : k * (d - 1).toNat ≤ 1000 * 4 := Nat.mul_le_mul hs (by omega)
    omega)
  have s5 : IntMulOk (d - 1) g := IntMulOk.of_left (intBits_le_iff.mpr (by omega))
  have s6 : d ≠ 0 := by omega
  have s7 : Builtin.divisionGoesByPylong ((d - 1) * g + N.fdiv (g ^ (d - 1).toNat)) d = false := nolog (k := 10) (by omega) (by omega)
  refine wpAny_call ?_
  k_dflt ktr_enter
  k_steps
  all_goals exact retI hret (by k_asm) (by k_asm) (by walk_at "my sub") rfl
end
end Mine
local macro_rules | `(tactic| walk_at "my ctI") => `(tactic| (refine' Mine.nearer_c ?p0 ?p1 ?p2 ?p3 ?p4; (case p0 => walk_at "my nat"); (case p1 => walk_at "my nat"); (case p2 => walk_at "my nat"); (case p3 => walk_at "my numlt"); (case p4 => walk_at "my nat")))
namespace Mine
def RootInv (k : Nat) (N d r g n : Int) : Prop := r ≤ g ∧ 1 ≤ r ∧ 1 ≤ d ∧ IsRoot N d r ∧ n = nr N d g ∧ g.natAbs < 2 ^ k
theorem root_n1 {k : Nat} {N d r g n : Int} (h : RootInv k N d r g n) : 1 ≤ n := by
  obtain ⟨h1, h2, h3, h4, h5, h6⟩ := h
  have := nr_ge h3 (show 1 ≤ g by omega) h4
  omega
theorem root_nlt {k : Nat} {N d r g n : Int} (h : RootInv k N d r g n) (hl : n < g) : n.natAbs < 2 ^ k := by
  have := root_n1 h
  obtain ⟨h1, h2, h3, h4, h5, h6⟩ := h
  omega
theorem root_turn {k : Nat} {N d r g n : Int} (h : RootInv k N d r g n) (hl : n < g) : RootInv k N d r n (nr N d n) := by
  have h0 := root_nlt h hl
  obtain ⟨h1, h2, h3, h4, h5, h6⟩ := h
  have := nr_ge h3 (show 1 ≤ g by omega) h4
  exact ⟨by omega, h2, h3, h4, rfl, h0⟩
theorem root_less {k : Nat} {N d r g n : Int} (h : RootInv k N d r g n) (hl : n < g) : n.toNat < g.toNat := by
  have := root_n1 h
  omega
theorem root_end {k : Nat} {N d r g n : Int} (h : RootInv k N d r g n) (hl : ¬ n < g) : g = r := by
  obtain ⟨h1, h2, h3, h4, h5, h6⟩ := h
  rcases Int.lt_or_le r g with h | h
  · have := nr_lt h3 h h4
    omega
  · omega
theorem root_pos {N d r : Int} (h : IsRoot N d r) (hN : 1 ≤ N) : 1 ≤ r := by
  obtain ⟨h0, h1, h2⟩ := h
  rcases Int.lt_or_le r 1 with h | h
  · have : r = 0 := by omega
    subst this
    rw [Int.zero_add, Int.one_pow] at h2
    omega
  · exact h
theorem root_one {N d r : Int} (h : IsRoot N d r) (hd : d = 1) : N = r := by
  obtain ⟨h0, h1, h2⟩ := h
  subst hd
  rw [show (1 : Int).toNat = 1 from rfl, Int.pow_succ, Int.pow_zero] at h1 h2
  omega
theorem root_small {N d r : Int} (h : IsRoot N d r) (hN : 1 ≤ N) (hd : 1 ≤ d) (hl : N < 2 ^ d.toNat) : r = 1 := by
  have := root_pos h hN
  obtain ⟨h0, h1, h2⟩ := h
  rcases Int.lt_or_le r 2 with h | h
  · omega
  · have := ipow_mono (show (0 : Int) ≤ 2 by decide) h d.toNat
    omega
theorem root_bits {N d r : Int} {b : Nat} (h : IsRoot N d r) (hN : 1 ≤ N) (hd : 1 ≤ d) (hb : N.natAbs < 2 ^ b) (hl : (b : Int) ≤ d) : r = 1 := by
  refine root_small h hN hd ?_
  have h1 := Nat.pow_le_pow_right (n := 2) (by decide) (show b ≤ d.toNat by omega)
  have h2 : (2 : Int) ^ d.toNat = ((2 ^ d.toNat : Nat) : Int) := by rw [Int.natCast_pow]; rfl
  omega
theorem root_two {N d r : Int} (h : IsRoot N d r) (hN : 1 ≤ N) (hd : 1 ≤ d) (hl : N < 2) : N = r := by
  rw [root_bits (b := 1) h hN hd (by omega) (by omega)]
  omega
theorem ipow2 (n : Nat) : (2 : Int) ^ n = ((2 ^ n : Nat) : Int) := by rw [Int.natCast_pow]; rfl
theorem root_first {N d r : Int} {k b : Nat} (h : IsRoot N d r) (hN : 1 ≤ N) (hd : 1 ≤ d) (hb : N.natAbs < 2 ^ b) (hk : b ≤ k) :
    RootInv (k + 2) N d r (1 * 2 ^ ((b : Int).fdiv d + 1).toNat) (nr N d (1 * 2 ^ ((b : Int).fdiv d + 1).toNat)) ∧ (1 : Int) ≤ 1 * 2 ^ ((b : Int).fdiv d + 1).toNat ∧ (1 * 2 ^ ((b : Int).fdiv d + 1).toNat : Int).natAbs < 2 ^ (k + 2)
      ∧ 0 ≤ (b : Int).fdiv d + 1 ∧ (b : Int).fdiv d + 1 ≤ k + 1 := by
  have e1 : (b : Int).fdiv d = (b : Int) / d := Int.fdiv_eq_ediv_of_nonneg _ (by omega)
  have f0 : 0 ≤ (b : Int) / d := Int.ediv_nonneg (by omega) (by omega)
  have f1 : (b : Int) / d ≤ b := Int.ediv_le_self _ (by omega)
  have f2 : (b : Int) < ((b : Int) / d + 1) * d := by
    have := Int.lt_ediv_add_one_mul_self (b : Int) (show 0 < d by omega)
    exact this
  rw [e1, Int.one_mul]
  obtain ⟨M, hM⟩ := Int.eq_ofNat_of_zero_le (show 0 ≤ (b : Int) / d + 1 by omega)
  obtain ⟨D, hD⟩ := Int.eq_ofNat_of_zero_le (show 0 ≤ d by omega)
  rw [hM, Int.toNat_natCast]
  have hb2 : b ≤ M * D := by
    rw [hM, hD] at f2
    have : ((b : Nat) : Int) < ((M * D : Nat) : Int) := by rw [Int.natCast_mul]; exact f2
    omega
  have g1 : (1 : Int) ≤ 2 ^ M := by
    have := Nat.pow_pos (a := 2) (n := M) (by decide)
    rw [ipow2]; omega
  have g2 : ((2 : Int) ^ M).natAbs < 2 ^ (k + 2) := by
    rw [ipow2, Int.natAbs_natCast]
    exact Nat.pow_lt_pow_right (by decide) (by omega)
  have hrg : r ≤ 2 ^ M := by
    rcases Int.lt_or_le r (2 ^ M) with hl | hl
    · omega
    · have h1 := ipow_mono (show (0 : Int) ≤ 2 ^ M by omega) hl d.toNat
      have h2 := h.2.1
      have h3 : ((2 : Int) ^ M) ^ d.toNat = ((2 ^ (M * D) : Nat) : Int) := by
        rw [hD, Int.toNat_natCast, ← Int.pow_mul, ipow2]
      have h4 := Nat.pow_le_pow_right (n := 2) (by decide) hb2
      omega
  exact ⟨⟨hrg, root_pos h hN, hd, h, rfl, g2⟩, g1, g2, by omega, by omega⟩
local macro_rules | `(tactic| walk_at "my nat") => `(tactic| exact root_n1 (by assumption))
local macro_rules | `(tactic| walk_at "my numlt") => `(tactic| exact root_nlt (by assumption) (by assumption))
local macro_rules | `(tactic| walk_at "binaryOp LShift int int") => `(tactic| (k_here; (with_reducible refine PyProof.Rows.lshift_int ?_ ?_ ?_); (focus assumption); (focus assumption)))
section
variable {w : World} {news : Led} {q q1 q2 : Rat} {k k1 k2 : Nat} {v v1 v2 : Value}
theorem root_c {N d r : Int} {tN td : Tok} (hr : IsRoot N d r) (hN : 1 ≤ N) (hd1 : 1 ≤ d) (hd2 : d ≤ 5) (bN : N.natAbs < 2 ^ k) (hs : k ≤ 900) :
    Ct w 10 168 [.int N tN, .int d td] news (OutI r) := by
  unfold Ct
  k_fill
  intro dp un gd cn cs a ccd cl outer A₀ base h₀ L m s mean mg mb Q E B F X N' T hk hd hu hret
  k_with_none
  k_with "exec While Compare cons nil" => k_while (fun (_ : List Int) (g n : Int) => RootInv (k + 2) N d r g n) (fun (_ : List Int) (g n : Int) => g.toNat) "guess" "nearer"
  k_with "state" => (first | assumption | exact root_turn (by assumption) (by assumption))
  k_with "measure" => exact root_less (by assumption) (by assumption)
  have bl := intBits_le_iff.mpr bN
  have bl2 : N.natAbs < 2 ^ Builtin.Int.intBits N := intBits_le_iff.mp (Nat.le_refl _)
  obtain ⟨R0, R1, R2, R3, R4⟩ := root_first (k := k) hr hN hd1 bl2 bl
  have R5 : (Builtin.Int.intBits 1 : Int) + ((Builtin.Int.intBits N : Int).fdiv d + 1) ≤ 2 ^ 27 := by
    have : Builtin.Int.intBits 1 = 1 := by decide
    omega
  have s1 : k + 2 ≤ 1000 := by omega
  have s6 : d ≠ 0 := by omega
  have s7 : Builtin.divisionGoesByPylong (Builtin.Int.intBits N : Int) d = false := nolog (k := 10) (by omega) (by omega)
  refine wpAny_call ?_
  k_dflt ktr_enter
  k_steps
  all_goals (refine retI hret (by k_asm) (by k_asm) (by walk_at "my sub") ?_)
  · exact root_two hr hN hd1 (by assumption)
  · exact root_one hr (by assumption)
  · exact (root_bits hr hN hd1 bl2 (by assumption)).symm
  · exact root_end (by assumption) (by assumption)
end
end Mine
local macro_rules | `(tactic| walk_at "my ctI") => `(tactic| (refine' Mine.root_c ?p0 ?p1 ?p2 ?p3 ?p4 ?p5; (case p0 => walk_at "my nat"); (case p1 => walk_at "my nat"); (case p2 => walk_at "my nat"); (case p3 => walk_at "my nat"); (case p4 => walk_at "my numlt"); (case p5 => walk_at "my nat")))
namespace Mine
theorem root_of_pow {t d : Int} (ht : 0 ≤ t) (hd : 1 ≤ d) : IsRoot (t ^ d.toNat) d t := by
  refine ⟨ht, Int.le_refl _, ?_⟩
  obtain ⟨n, hn⟩ : ∃ n, d.toNat = n + 1 := ⟨d.toNat - 1, by omega⟩
  rw [hn, Int.pow_succ, Int.pow_succ, Int.mul_add, Int.mul_one]
  have h1 := ipow_mono ht (show t ≤ t + 1 by omega) n
  have h2 := Int.mul_le_mul_of_nonneg_right h1 ht
  have h3 : 0 < (t + 1) ^ n := Int.pow_pos (by omega)
  omega
theorem root_of_next {t d : Int} (ht : 1 ≤ t) (hd : 2 ≤ d) : IsRoot (t ^ d.toNat + 1) d t := by
  refine ⟨by omega, by omega, ?_⟩
  obtain ⟨n, hn⟩ : ∃ n, d.toNat = n + 1 + 1 := ⟨d.toNat - 2, by omega⟩
  rw [hn, Int.pow_succ, Int.pow_succ _ (n + 1), Int.mul_add, Int.mul_one]
  have h1 := ipow_mono (show 0 ≤ t by omega) (show t ≤ t + 1 by omega) (n + 1)
  have h2 := Int.mul_le_mul_of_nonneg_right h1 (show 0 ≤ t by omega)
  have h3 : 0 < (t + 1) ^ n := Int.pow_pos (by omega)
  have h4 : (2 : Int) ≤ (t + 1) ^ (n + 1) := by
    rw [Int.pow_succ]
    have := Int.mul_le_mul (show (1 : Int) ≤ (t + 1) ^ n by omega) (show (2 : Int) ≤ t + 1 by omega) (by decide) (by omega)
    omega
  omega
theorem root_of_one {d : Int} (hd : 1 ≤ d) : IsRoot 1 d 1 := by
  have := root_of_pow (t := 1) (by decide) hd
  rwa [Int.one_pow] at this
section
variable {w : World} {news : Led} {p q q1 q2 : Rat} {k k1 k2 : Nat} {v v1 v2 : Value}
theorem exact_root_c {d : Int} {td : Tok} (R : RepV w news v (p ^ d) k1) (hp : 0 < p.num) (hd1 : 1 ≤ d) (hd2 : d ≤ 5) (hk1 : 0 < k1) (hs : k1 ≤ 900) (b1 : p.num.natAbs < 2 ^ k) (b2 : ((p.den : Int)).natAbs < 2 ^ k) (hk : k ≤ 200) :
    Ct w 16 175 [v, .int d td] news (OutR w p k) := by
  unfold Ct
  k_fill
  intro dp un gd cn cs a ccd cl outer A₀ base h₀ L m s mean mg mb Q E B F X N T hd hu hret hk'
  k_with_none
  have e1 : (p ^ d).num = p.num ^ d.toNat := by rw [zp_pos p (by omega)]; rfl
  have e2 : ((p ^ d).den : Int) = (p.den : Int) ^ d.toNat := by rw [zp_pos p (by omega), Rat.den_pow, Int.natCast_pow]
  have r1 : IsRoot (p ^ d).num d p.num := by rw [e1]; exact root_of_pow (by omega) hd1
  have r2 : IsRoot ((p ^ d).den : Int) d (p.den : Int) := by rw [e2]; exact root_of_pow (by omega) hd1
  have p1 : 1 ≤ (p ^ d).num := by rw [e1]; exact Int.pow_pos hp
  have p2 : 1 ≤ ((p ^ d).den : Int) := by have := (p ^ d).den_pos; omega
  have c1 := R.num_lt
  have c2 : (((p ^ d).den : Int)).natAbs < 2 ^ k1 := by simpa using R.den_lt hk1
  have s1 : k * (2 * d + 1) ≤ 40000 := size18 (by omega) (by omega) hk
  have s2 : 0 ≤ d := by omega
  have n1 : p.num = p.num := rfl
  have n2 : (p.den : Int) = (p.den : Int) := rfl
  refine wpAny_call ?_
  k_dflt ktr_enter
  k_steps
  all_goals first | exact absurd e1.symm (by assumption) | exact absurd e2.symm (by assumption) | exact retR hk' (by assumption) (by k_asm) (by k_asm) (by walk_at "my sub") (by walk_at "my sub") (by walk_at "my ord") rfl (Nat.le_refl _)

theorem exact_root_none {t d : Int} {tt td : Tok} (ht : 1 ≤ t) (hd1 : 2 ≤ d) (hd2 : d ≤ 5) (b1 : t.natAbs < 2 ^ k) (hk : k ≤ 150) :
    Ct w 16 175 [.int (t ^ d.toNat + 1) tt, .int d td] news OutN := by
  unfold Ct
  k_fill
  intro dp un gd cn cs a ccd cl outer A₀ base h₀ L m s mean mg mb Q E B F X N T hd hu hret hk'
  k_with_none
  have hb : (t ^ d.toNat + 1).natAbs < 2 ^ 852 := by
    have h1 := pow_lt (p := d.toNat) b1
    have h2 : k * d.toNat ≤ 150 * 5 := Nat.mul_le_mul hk (by omega)
    have h3 := lt_bits_le h1 (show k * d.toNat + 1 ≤ 851 by omega)
    exact lt_add_bits h3 (show (1 : Int).natAbs < 2 ^ 851 from Nat.one_lt_two_pow (by decide))
  have R : RepV w news (.int (t ^ d.toNat + 1) tt) ((t ^ d.toNat + 1 : Int) : Rat) 852 := RepV.ofInt hb
  have q1 : 0 < t ^ d.toNat := Int.pow_pos (by omega)
  have e1 : (((t ^ d.toNat + 1 : Int) : Rat)).num = t ^ d.toNat + 1 := rfl
  have e2 : (((((t ^ d.toNat + 1 : Int) : Rat)).den : Int)) = 1 := rfl
  have r1 : IsRoot (((t ^ d.toNat + 1 : Int) : Rat)).num d t := root_of_next ht hd1
  have r2 : IsRoot (((((t ^ d.toNat + 1 : Int) : Rat)).den : Int)) d 1 := root_of_one (by omega)
  have p1 : 1 ≤ (((t ^ d.toNat + 1 : Int) : Rat)).num := by omega
  have p2 : 1 ≤ (((((t ^ d.toNat + 1 : Int) : Rat)).den : Int)) := by omega
  have c1 : ((((t ^ d.toNat + 1 : Int) : Rat)).num).natAbs < 2 ^ 852 := hb
  have c2 : ((((((t ^ d.toNat + 1 : Int) : Rat)).den : Int))).natAbs < 2 ^ 1 := by rw [e2]; decide
  have d1 : 1 ≤ d := by omega
  have s1 : k * (2 * d + 1) ≤ 40000 := size18 (by omega) (by omega) (by omega)
  have s2 : 0 ≤ d := by omega
  refine wpAny_call ?_
  k_dflt ktr_enter
  k_steps
  all_goals first | (exfalso; omega) | exact retN hk' (by k_asm) (by k_asm) (by walk_at "my sub")
end
end Mine
local macro_rules | `(tactic| walk_at "my ctR") => `(tactic| (refine' Mine.exact_root_c ?p0 ?p1 ?p2 ?p3 ?p4 ?p5 ?p6 ?p7 ?p8; (case p0 => walk_at "my rep"); (case p1 => walk_at "my nat"); (case p2 => walk_at "my nat"); (case p3 => walk_at "my nat"); (case p4 => walk_at "my nat"); (case p5 => walk_at "my nat"); (case p6 => walk_at "my numlt"); (case p7 => walk_at "my numlt"); (case p8 => walk_at "my nat")))
local macro_rules | `(tactic| walk_at "my ctN") => `(tactic| (refine' Mine.exact_root_none ?p0 ?p1 ?p2 ?p3 ?p4; (case p0 => walk_at "my nat"); (case p1 => walk_at "my nat"); (case p2 => walk_at "my nat"); (case p3 => walk_at "my numlt"); (case p4 => walk_at "my nat")))
namespace Mine
abbrev TupO (x y : Value) : Obj := { cls := .type "tuple", data := .seq [x, y].toArray }
def OutT (n d : Int) (tl : Led) (r : Value) : Prop := ∃ (T : Addr) (t1 t2 : Tok), r = .ref T ∧ tl = [(T, TupO (.int n t1) (.int d t2))]
section
variable {w : World} {news : Led} {q q1 q2 : Rat} {k k1 k2 : Nat} {v v1 v2 : Value}
theorem retT {h₀ : Heap} {L : Addr} {m : Str → Option Value} {s : Shared} {Q : Value → Shared → Prop} {n d x y : Int} {t1 t2 : Tok} {T : Addr} {h' : Heap} {tk' : Nat} {nx : Led}
    (hret : ∀ r tl h' tk', Fr h₀ L h' m → News h₀ L h' (tl ++ news) → (∀ q ∈ news, ∀ p ∈ tl, q.1 < p.1) → OutT n d tl r → Q r { s with heap := h', toks := tk' })
    (F : Fr h₀ L h' m) (N : News h₀ L h' ((T, TupO (.int x t1) (.int y t2)) :: nx)) (hs : ∀ p ∈ news, p ∈ nx) (l1 : ∀ p ∈ news, p.1 < T) (e1 : x = n) (e2 : y = d) : Q (.ref T) { s with heap := h', toks := tk' } := by
  subst e1; subst e2
  refine hret _ [(T, TupO (.int x t1) (.int y t2))] _ _ F (fun p hp => ?_) (fun q hq p hp => ?_) ⟨T, t1, t2, rfl, rfl⟩
  · rcases List.mem_append.mp hp with hp | hp
    · rw [List.mem_singleton.mp hp]; exact N _ (.head _)
    · exact N _ (.tail _ (hs _ hp))
  · rw [List.mem_singleton.mp hp]; exact l1 q hq
theorem shown_c (R : RepV w news v q k) : Ct w 8 196 [v] news (OutT q.num (q.den : Int)) := by
  unfold Ct
  k_fill
  intro dp un gd cn cs a ccd cl outer A₀ base h₀ L m s mean mg mb Q E B F X N T hk hd hu hret
  k_with_none
  have e1 : (((if q.num < 0 then -q.num else q.num).gcd (q.den : Int) : Nat) : Int) = 1 := by
    have h := q.reduced
    have : (if q.num < 0 then -q.num else q.num).gcd (q.den : Int) = q.num.natAbs.gcd q.den := by
      split <;> simp [Int.gcd]
    rw [this, h]
    rfl
  have e2 := q.den_pos
  cases R
  all_goals (
    refine wpAny_call ?_
    k_dflt ktr_enter
    k_steps)
  all_goals first | exact absurd e1 (by assumption) | exact retT hret (by k_asm) (by k_asm) (fun _ h => h) (by assumption) rfl (by omega)

theorem Ct.useT {sz : Nat} {f : Addr} {vs : List Value} {dp un : Nat} {gd : Option (List Code)} {cn : Str} {cs : Scope} {a : Addr} {ccd : Value} {cl : List (Str × Addr)} {outer : List Env} {A₀ : Around} {base h₀ : Heap} {L : Addr} {m : Str → Option Value} {s : Shared}
    {mean : ExcName → Option Value} {mg mb : Str → Option Value} {Q E : Value → Shared → Prop} {n d : Int} (C : Ct w sz f vs news (OutT n d)) (B : Below A₀ base outer h₀) (F : Fr h₀ L s.heap m) (X : (hd.heap_39 w.params).In h₀) (N : News h₀ L s.heap news) (T : Top hd.view_39 (looseW hd.view_39 []) mean mg mb h₀) (hk : cs.kind = .function) (hd' : dp + sz < recursionLimit) (hu : un + 8 * sz < cLine)
    (ret : ∀ (T : Addr) t1 t2 h' tk', Fr h₀ L h' m → News h₀ L h' ((T, TupO (.int n t1) (.int d t2)) :: news) → (∀ q ∈ news, q.1 < T) → Q (.ref T) { s with heap := h', toks := tk' }) :
    wpAny (model PySem.Challenge.rw_pq1012_01.row.prog w) (ktrTop dp un gd cn cs L a ccd cl outer) (call (.ref f) vs) Q E s :=
  C _ _ _ _ _ _ _ _ _ _ _ _ _ _ _ _ _ _ _ _ B F X N T hk hd' hu fun r tl h' tk' F' N' l o => by
    obtain ⟨T, t1, t2, rfl, rfl⟩ := o
    exact ret T t1 t2 h' tk' F' N' fun q hq => l q hq _ (.head _)
end
end Mine
local macro_rules | `(tactic| walk_at "call ref") => `(tactic| (k_here; k_dflt (refine' Mine.Ct.useT ?C ?B ?F ?X ?N ?T ?hk ?hd ?hu ?_; (case N => k_asm); (case C => walk_at "my ctT"); walk_at "my std"; intro T' u1' u2' h' tk' F' N' o'; walk_at "my tail")))
local macro_rules | `(tactic| walk_at "my ctT") => `(tactic| (refine' Mine.shown_c ?p0; (case p0 => walk_at "my rep")))
namespace Mine
open PyProof.Rows.LCg
abbrev Prs := List (Addr × Value × Value)
abbrev ListO (vs : List Value) (n : Nat) : Obj := { cls := .type "list", data := .seq vs.toArray n }
abbrev refs (its : Prs) : List Value := its.map fun p => .ref p.1
def PrsIn (its : Prs) (news : Led) : Prop := ∀ p ∈ its, (p.1, TupO p.2.1 p.2.2) ∈ news
theorem PrsIn.mono {its : Prs} {news news' : Led} (h : PrsIn its news) (hs : ∀ p ∈ news, p ∈ news') : PrsIn its news' := fun p hp => hs _ (h p hp)

section
variable {prog : Program} {w : World} {A : Around} {E : Value → Shared → Prop} {s : Shared} {h₀ : Heap} {L : Addr} {m : Str → Option Value} {env : Env}

/-- what a turn finds when the two names are bound -/
def AtPair (h₀ : Heap) (L : Addr) (m : Str → Option Value) (a b : Str) (I C D ax : Addr) (its : Prs) (i : Nat) (ys : List Value) (news : Led) (h : Heap) : Prop :=
  ∃ p oI oC m₂, its[i]? = some p ∧ NsObj oC m₂ ∧ m₂ a = some p.2.1 ∧ m₂ b = some p.2.2 ∧ Fr h₀ L h m ∧ News h₀ L h ((I, oI) :: (C, oC) :: (D, lst ys) :: news) ∧ ∀ g : Heap, g.get? I = some oI → g.IsListIter I ax (i + 1)

theorem next_pair {a b : Str} {pa pb tp : Pos} {kk : Nat} {scope : Scope} {cl : List (Str × Addr)} {I C D ax : Addr} {its : Prs} {nl i : Nat} {ys : List Value} {news : Led} {h' : Heap} {tk : Nat} {m' : Str → Option Value}
    {K : Unit → Shared → Prop} {Z₀ : Shared → Prop} {Z : Value → Shared → Prop}
    (hh : A.handled = none) (hi : i < its.length) (hit : h'.IsListIter I ax i) (F : Fr h₀ L h' m) (hn : h'.Ns C m') (N : News h₀ L h' ((D, lst ys) :: news)) (off : Off3 I C D news) (hax : (ax, ListO (refs its) nl) ∈ news) (hits : PrsIn its news)
    (hIL : L ≠ I) (hI₀ : h₀.get? I = none) (hCL : C ≠ L) (hC₀ : h₀.get? C = none) (hDI : D ≠ I) (hCI : C ≠ I) (hCD : C ≠ D) (hkind : scope.kind = .function)
    (hxa : scope.names.lookup a = some .local) (hxb : scope.names.lookup b = some .local) (hab : ¬ a = b)
    (h : ∀ h₄ tk₄, AtPair h₀ L m a b I C D ax its i ys news h₄ → K () { s with heap := h₄, toks := tk₄ }) :
    wpAny (model prog w) A (pyNext (.ref I)) (fun r s₁ => match r with
      | none => Z₀ s₁
      | some v => wpAny (model prog w) A (letOwnedTupleGo (.Tuple [.Name a pa, .Name b pb] kk tp) (.ref I) v) (fun _ s₀ => wpAny (model prog w) A (assign (.Tuple [.Name a pa, .Name b pb] kk tp) (compEnvC scope cl C env) v) K Z s₀) Z s₁) Z { s with heap := h', toks := tk } := by
  have off3 := off.mem
  have hL : h'.IsList ax (refs its).toArray := ⟨_, (N _ (.tail _ hax)).1, rfl, nl, rfl⟩
  have hne : ax ≠ I := (off3 _ hax).1
  have W := Walks.list (prog := prog) (w := w) hh I ax hne (refs its).toArray
  have hsz : i < (refs its).toArray.size := by simpa using hi
  refine W.item i _ _ _ hsz ⟨hit, hL⟩ fun v h₂ tk₂ hv st₂ hk₂ => ?_
  obtain ⟨p, hp⟩ : ∃ p, its[i]? = some p := ⟨its[i], List.getElem?_eq_getElem hi⟩
  have hv' : v = .ref p.1 := by
    rw [List.getElem?_toArray, List.getElem?_map, hp] at hv
    exact (Option.some.inj hv).symm
  subst hv'
  have up₂ : ∀ c o, c ≠ I → h'.get? c = some o → h₂.get? c = some o := fun c o hc e => hk₂ c o (by simpa using hc) e
  refine wpAny_letOwnedTupleGo_listiter st₂.1 ?_
  have hT := hits p (List.mem_of_getElem? hp)
  have hT₂ : h₂.IsTuple p.1 #[p.2.1, p.2.2] := ⟨_, up₂ _ _ (off3 _ hT).1 (N _ (.tail _ hT)).1, rfl, _, rfl⟩
  refine kcp_assign (env := compEnvC scope cl C env) hh hT₂ (lookup_relabel_local hxa) (lookup_relabel_local hxb) (by simp [compEnvC, relabel, hkind]) (hn.at' fun o e => up₂ _ o hCI e) fun h₄ tk₄ hn₄ hs₄ => ?_
  have up : ∀ c o, c ≠ I → c ≠ C → h'.get? c = some o → h₄.get? c = some o := fun c o h1 h2 e => hs₄ c o h2 (up₂ c o h1 e)
  obtain ⟨oI, hoI, hcI, hdI⟩ := st₂.1
  have hI₄ : h₄.get? I = some oI := hs₄ _ _ (Ne.symm hCI) hoI
  obtain ⟨oC, heC, hoC⟩ := ns_obj hn₄
  refine h h₄ _ ⟨p, oI, oC, _, hp, hoC, by simp [hab], by simp, ?_, ?_, fun g e => ⟨oI, e, hcI, hdI⟩⟩
  · exact ⟨F.ns.at' fun o e => up _ o hIL (Ne.symm hCL) e, fun c o e => up c o (fun q => by rw [q, hI₀] at e; cases e) (fun q => by rw [q, hC₀] at e; cases e) (F.keep c o e), F.above⟩
  · intro q hq
    rcases List.mem_cons.mp hq with rfl | hq
    · exact ⟨hI₄, Ne.symm hIL, hI₀⟩
    rcases List.mem_cons.mp hq with rfl | hq
    · exact ⟨heC, hCL, hC₀⟩
    have z := N q hq
    rcases List.mem_cons.mp hq with rfl | hq
    · exact ⟨up _ _ hDI (Ne.symm hCD) z.1, z.2⟩
    · exact ⟨up _ _ (off3 q hq).1 (off3 q hq).2.1 z.1, z.2⟩

theorem next_none {I C D ax : Addr} {its : Prs} {nl : Nat} {ys : List Value} {news : Led} {h' : Heap} {tk : Nat} {m' : Str → Option Value} {K : Option Value → Shared → Prop} {Z : Value → Shared → Prop}
    (hh : A.handled = none) (hit : h'.IsListIter I ax its.length) (F : Fr h₀ L h' m) (hn : h'.Ns C m') (N : News h₀ L h' ((D, lst ys) :: news)) (off : Off3 I C D news) (hax : (ax, ListO (refs its) nl) ∈ news)
    (hIL : L ≠ I) (hI₀ : h₀.get? I = none) (hDI : D ≠ I) (hCI : C ≠ I)
    (h : ∀ h₄ tk₄, Fr h₀ L h₄ m → h₄.Ns C m' → News h₀ L h₄ ((D, lst ys) :: news) → K none { s with heap := h₄, toks := tk₄ }) :
    wpAny (model prog w) A (pyNext (.ref I)) K Z { s with heap := h', toks := tk } := by
  have off3 := off.mem
  have hL : h'.IsList ax (refs its).toArray := ⟨_, (N _ (.tail _ hax)).1, rfl, nl, rfl⟩
  have W := Walks.list (prog := prog) (w := w) hh I ax (off3 _ hax).1 (refs its).toArray
  refine W.done _ _ _ ⟨by simpa using hit, hL⟩ fun h₂ tk₂ hk₂ => ?_
  refine h h₂ tk₂ (fr_but F hk₂ hIL hI₀) (hn.at' fun o e => hk₂ _ o (by simpa using hCI) e) (news_but N hk₂ fun p hp => ?_)
  rcases List.mem_cons.mp hp with rfl | hp
  · exact hDI
  · exact (off3 p hp).1

/-- how a turn's element ends -/
def EltEnd (h₀ : Heap) (L : Addr) (m : Str → Option Value) (s : Shared) (I C D : Addr) (oI oC : Obj) (ys : List Value) (news : Led) (J : Value → Led → Prop) (y : Value) (s' : Shared) : Prop :=
  ∃ h' tk' news', s' = { s with heap := h', toks := tk' } ∧ Fr h₀ L h' m ∧ News h₀ L h' ((I, oI) :: (C, oC) :: (D, lst ys) :: news') ∧ Off3 I C D news' ∧ (∀ q ∈ news, q ∈ news') ∧ J y news'

/-- the making of a block: an iterator stands, the list and the block's frame are new -/
theorem block_pair {elt iter : Expr} {ifs : List Expr} {a b : Str} {pa pb tp : Pos} {kk : Nat} {scope : Scope} {cl : List (Str × Addr)} {pos : Pos} {I ax : Addr} {its : Prs} {nl : Nat} {news : Led} {RR : Value → Addr → Result → Shared → Prop}
    (hcell : ∀ y ∈ scope.names, y.2 ≠ .cell) (hkind : scope.kind = .function) (hit : s.heap.IsListIter I ax 0)
    (F : Fr h₀ L s.heap m) (N : News h₀ L s.heap news) (hIL : L ≠ I) (hI₀ : h₀.get? I = none) (off : ∀ p ∈ news, p.1 ≠ I)
    (loop : ∀ C D h₁ tk m', h₁.IsListIter I ax 0 → Fr h₀ L h₁ m → h₁.Ns C m' → News h₀ L h₁ ((D, lst []) :: news) → Off3 I C D news → C ≠ L → h₀.get? C = none → D ≠ L → h₀.get? D = none → D ≠ I → C ≠ I → C ≠ D →
      codeAny (model prog w) A (.compLoop (.ListComp elt [⟨.Tuple [.Name a pa, .Name b pb] kk tp, iter, ifs, 0⟩] scope pos) 0 (.ref I) (.ref D) (compEnvC scope cl C env)) (RR (.ref D) C) { s with heap := h₁, toks := tk }) :
    wpAny (model prog w) A (newList []) (fun acc s₃ => wpAny (model prog w) A (newFunctionEnv scope env.globals cl [] env.qual none .none (some env)) (fun cenv s₄ =>
      codeAny (model prog w) A (.compStart (.ListComp elt [⟨.Tuple [.Name a pa, .Name b pb] kk tp, iter, ifs, 0⟩] scope pos) 0 (.ref I) acc { cenv with scope := relabel scope env }) (RR acc cenv.locals) s₄) E s₃) E s := by
  refine wpAny_newObj_type (wpAny_newFunctionEnv hcell (by intro y hy; simp at hy) (fun h₁ hns₁ hsb₁ => ?_) hkind)
  dsimp only at hns₁ hsb₁ ⊢
  generalize hH2 : s.heap.push { cls := .type "list", dict := none, data := .seq ([] : List Value).toArray } = H2 at hns₁ hsb₁ ⊢
  have hC : H2.objs.size = s.heap.objs.size + 1 := by rw [← hH2, Heap.size_push]
  have hDC : s.heap.objs.size ≠ H2.objs.size := by rw [hC]; exact Nat.ne_of_lt (Nat.lt_succ_self _)
  have below : ∀ c, c < s.heap.objs.size → c ≠ H2.objs.size ∧ c ≠ s.heap.objs.size := fun c hc => ⟨by rw [hC]; exact Nat.ne_of_lt (Nat.lt_succ_of_lt hc), Nat.ne_of_lt hc⟩
  have hIlt : I < s.heap.objs.size := by obtain ⟨_, e, _⟩ := hit; exact Heap.lt_size e
  have old : ∀ c o, s.heap.get? c = some o → h₁.get? c = some o := fun c o e => hsb₁.extBut c o (below c (Heap.lt_size e)).1 (Heap.get?_push_of_some _ (hH2 ▸ Heap.get?_push_of_some _ e))
  have hacc : h₁.get? s.heap.objs.size = some (lst []) := hsb₁.extBut _ _ hDC (Heap.get?_push_of_some _ (hH2 ▸ Heap.get?_push_size _ rfl))
  have fresh₀ : ∀ c, s.heap.objs.size ≤ c → h₀.get? c = none := fun c hc => by
    cases e : h₀.get? c with
    | none => rfl
    | some o' => exact absurd (Heap.lt_size (F.keep c o' e)) (Nat.not_lt.mpr hc)
  have hD₀ : h₀.get? s.heap.objs.size = none := fresh₀ _ (Nat.le_refl _)
  have hC₀ : h₀.get? H2.objs.size = none := fresh₀ _ (by rw [hC]; exact Nat.le_succ _)
  have hLlt : L < s.heap.objs.size := F.ns.lt
  have hit₁ : h₁.IsListIter I ax 0 := by obtain ⟨o, e, r⟩ := hit; exact ⟨o, old _ _ e, r⟩
  have go : ∀ tk, codeAny (model prog w) A (.compLoop (.ListComp elt [⟨.Tuple [.Name a pa, .Name b pb] kk tp, iter, ifs, 0⟩] scope pos) 0 (.ref I) (.ref s.heap.objs.size) (compEnvC scope cl H2.objs.size env)) (RR (.ref s.heap.objs.size) H2.objs.size) { s with heap := h₁, toks := tk } := fun tk =>
    loop H2.objs.size s.heap.objs.size h₁ tk _ hit₁ (F.keeps old) hns₁ (fun p hp => by
      rcases List.mem_cons.mp hp with rfl | hp
      · exact ⟨hacc, Ne.symm (below L hLlt).2, hD₀⟩
      · exact ⟨old _ _ (N p hp).1, (N p hp).2⟩) (Off3.of fun p hp => ⟨off p hp, (below _ (Heap.lt_size (N p hp).1)).1, (below _ (Heap.lt_size (N p hp).1)).2⟩)
      (Ne.symm (below L hLlt).1) hC₀ (Ne.symm (below L hLlt).2) hD₀ (Ne.symm (below I hIlt).2) (Ne.symm (below I hIlt).1) (Ne.symm hDC)
  exact codeAny_compStart_list (go _) (wpAny_pyIter_listiter hit₁ (go _))

/-- all turns of a block without a test -/
theorem loop_all {elt iter : Expr} {a b : Str} {pa pb tp : Pos} {kk : Nat} {scope : Scope} {cl : List (Str × Addr)} {pos : Pos} {I C D ax : Addr} {its : Prs} {nl : Nat} {news : Led} {R : Result → Shared → Prop} (J : Nat → List Value → Led → Prop)
    {h₁ : Heap} {tk₁ : Nat} {m₁ : Str → Option Value}
    (hh : A.handled = none) (hsz : its.length ≤ sizeLine) (hkind : scope.kind = .function) (hxa : scope.names.lookup a = some .local) (hxb : scope.names.lookup b = some .local) (hab : ¬ a = b)
    (hax : (ax, ListO (refs its) nl) ∈ news) (hits : PrsIn its news) (hIL : L ≠ I) (hI₀ : h₀.get? I = none) (hCL : C ≠ L) (hC₀ : h₀.get? C = none) (hDL : D ≠ L) (hD₀ : h₀.get? D = none) (hDI : D ≠ I) (hCI : C ≠ I) (hCD : C ≠ D)
    (hit : h₁.IsListIter I ax 0) (F : Fr h₀ L h₁ m) (hn : h₁.Ns C m₁) (N : News h₀ L h₁ ((D, lst []) :: news)) (off : Off3 I C D news) (hJ : J 0 [] news)
    (turn : ∀ (i : Nat) (p : Addr × Value × Value) ys news' oI oC m₂ h tk (E' : Value → Shared → Prop), its[i]? = some p → J i ys news' → (∀ q ∈ news, q ∈ news') → NsObj oC m₂ → m₂ a = some p.2.1 → m₂ b = some p.2.2 → Fr h₀ L h m → News h₀ L h ((I, oI) :: (C, oC) :: (D, lst ys) :: news') → Off3 I C D news' →
      wpAny (model prog w) A (eval elt (compEnvC scope cl C env)) (EltEnd h₀ L m { s with heap := h, toks := tk } I C D oI oC ys news' (fun y nx => J (i + 1) (ys ++ [y]) nx)) E' { s with heap := h, toks := tk })
    (fin : ∀ h tk m' ys news', J its.length ys news' → (∀ q ∈ news, q ∈ news') → Fr h₀ L h m → h.Ns C m' → News h₀ L h ((D, lst ys) :: news') → Off3 I C D news' → R (.ok .next) { s with heap := h, toks := tk }) :
    codeAny (model prog w) A (.compLoop (.ListComp elt [⟨.Tuple [.Name a pa, .Name b pb] kk tp, iter, [], 0⟩] scope pos) 0 (.ref I) (.ref D) (compEnvC scope cl C env)) R { s with heap := h₁, toks := tk₁ } := by
  refine kcp_loop (fun k s' => ∃ h' tk i ys m' news', s' = { s with heap := h', toks := tk } ∧ i ≤ its.length ∧ k = its.length + 1 - i ∧ ys.length = i ∧ h'.IsListIter I ax i ∧ Fr h₀ L h' m ∧ h'.Ns C m' ∧ News h₀ L h' ((D, lst ys) :: news') ∧ Off3 I C D news' ∧ (∀ q ∈ news, q ∈ news') ∧ J i ys news')
    ?_ (its.length + 1) ⟨h₁, tk₁, 0, [], m₁, news, rfl, Nat.zero_le _, rfl, rfl, hit, F, hn, N, off, fun _ h => h, hJ⟩
  rintro k s' ⟨h', tk, i, ys, m', news', rfl, hi, rfl, hyl, hit', F', hn', N', off', hsub, hJ'⟩
  by_cases hlt : i < its.length
  · refine next_pair hh hlt hit' F' hn' N' off' (hsub _ hax) (hits.mono hsub) hIL hI₀ hCL hC₀ hDI hCI hCD hkind hxa hxb hab fun h₄ tk₄ at4 => ?_
    obtain ⟨p, oI, oC, m₂, hp, hoC, ha, hb, F₄, N₄, hnx⟩ := at4
    refine wpAny_mono (turn i p ys news' oI oC m₂ h₄ tk₄ _ hp hJ' hsub hoC ha hb F₄ N₄ off') (fun y s₅ h₅ => ?_) fun _ _ e => e
    obtain ⟨h₅, tk₅, news₅, rfl, F₅, N₅, off₅, sub₅, J₅⟩ := h₅
    have zI := (N₅ (I, oI) List.mem_cons_self).1
    have zC := (N₅ (C, oC) (List.mem_cons_of_mem _ List.mem_cons_self)).1
    have zD := (N₅ (D, lst ys) (List.mem_cons_of_mem _ (List.mem_cons_of_mem _ List.mem_cons_self))).1
    have N₅' : News h₀ L h₅ news₅ := fun q hq => N₅ q (List.mem_cons_of_mem _ (List.mem_cons_of_mem _ (List.mem_cons_of_mem _ hq)))
    refine append_at (hsz := by show ys.toArray.size ≤ sizeLine; rw [List.size_toArray, hyl]; exact Nat.le_trans hi hsz) zD fun h₆ hs₆ hD₆ => ?_
    have off5 := off₅.mem
    refine ⟨its.length + 1 - (i + 1), by omega, h₆, tk₅, i + 1, ys ++ [y], _, news₅, rfl, hlt, rfl, by rw [List.length_append, List.length_singleton, hyl], hnx h₆ (hs₆.extBut I oI (Ne.symm hDI) zI), F₅.change hs₆ hDL hD₀,
      (hoC.ns zC).sameBut hs₆ hCD, fun q hq => ?_, off₅, fun q hq => sub₅ q (hsub q hq), J₅⟩
    rcases List.mem_cons.mp hq with rfl | hq
    · exact ⟨hD₆.trans (congrArg some (lst_snoc ys y)), hDL, hD₀⟩
    · exact ⟨hs₆.extBut _ _ (off5 q hq).2.2 (N₅' q hq).1, (N₅' q hq).2⟩
  · have hin : i = its.length := Nat.le_antisymm hi (Nat.not_lt.mp hlt)
    subst hin
    refine next_none hh hit' F' hn' N' off' (hsub _ hax) hIL hI₀ hDI hCI fun h₄ tk₄ F₄ hn₄ N₄ => ?_
    exact fin h₄ tk₄ _ ys news' hJ' hsub F₄ hn₄ N₄ off'

/-- all turns of a block whose test is never so -/
theorem loop_not {elt iter c : Expr} {a b : Str} {pa pb tp : Pos} {kk : Nat} {scope : Scope} {cl : List (Str × Addr)} {pos : Pos} {I C D ax : Addr} {its : Prs} {nl : Nat} {news : Led} {R : Result → Shared → Prop}
    {h₁ : Heap} {tk₁ : Nat} {m₁ : Str → Option Value}
    (hh : A.handled = none) (hkind : scope.kind = .function) (hxa : scope.names.lookup a = some .local) (hxb : scope.names.lookup b = some .local) (hab : ¬ a = b)
    (hax : (ax, ListO (refs its) nl) ∈ news) (hits : PrsIn its news) (hIL : L ≠ I) (hI₀ : h₀.get? I = none) (hCL : C ≠ L) (hC₀ : h₀.get? C = none) (hDI : D ≠ I) (hCI : C ≠ I) (hCD : C ≠ D)
    (hit : h₁.IsListIter I ax 0) (F : Fr h₀ L h₁ m) (hn : h₁.Ns C m₁) (N : News h₀ L h₁ ((D, lst []) :: news)) (off : Off3 I C D news)
    (turn : ∀ (i : Nat) (p : Addr × Value × Value) oI oC m₂ h tk (E' : Value → Shared → Prop), its[i]? = some p → NsObj oC m₂ → m₂ a = some p.2.1 → m₂ b = some p.2.2 → Fr h₀ L h m → News h₀ L h ((I, oI) :: (C, oC) :: (D, lst []) :: news) → Off3 I C D news →
      wpAny (model prog w) A (isTrue c (compEnvC scope cl C env) (eval c (compEnvC scope cl C env))) (fun ok s' => ok = false ∧ ∃ h' tk', s' = { s with heap := h', toks := tk' } ∧ Fr h₀ L h' m ∧ News h₀ L h' ((I, oI) :: (C, oC) :: (D, lst []) :: news)) E' { s with heap := h, toks := tk })
    (fin : ∀ h tk m', Fr h₀ L h m → h.Ns C m' → News h₀ L h ((D, lst []) :: news) → R (.ok .next) { s with heap := h, toks := tk }) :
    codeAny (model prog w) A (.compLoop (.ListComp elt [⟨.Tuple [.Name a pa, .Name b pb] kk tp, iter, [c], 0⟩] scope pos) 0 (.ref I) (.ref D) (compEnvC scope cl C env)) R { s with heap := h₁, toks := tk₁ } := by
  refine kct_loop (fun k s' => ∃ h' tk i m', s' = { s with heap := h', toks := tk } ∧ i ≤ its.length ∧ k = its.length + 1 - i ∧ h'.IsListIter I ax i ∧ Fr h₀ L h' m ∧ h'.Ns C m' ∧ News h₀ L h' ((D, lst []) :: news))
    ?_ (its.length + 1) ⟨h₁, tk₁, 0, m₁, rfl, Nat.zero_le _, rfl, hit, F, hn, N⟩
  rintro k s' ⟨h', tk, i, m', rfl, hi, rfl, hit', F', hn', N'⟩
  by_cases hlt : i < its.length
  · refine next_pair hh hlt hit' F' hn' N' off hax hits hIL hI₀ hCL hC₀ hDI hCI hCD hkind hxa hxb hab fun h₄ tk₄ at4 => ?_
    obtain ⟨p, oI, oC, m₂, hp, hoC, ha, hb, F₄, N₄, hnx⟩ := at4
    refine wpAny_mono (turn i p oI oC m₂ h₄ tk₄ _ hp hoC ha hb F₄ N₄ off) (fun ok s₅ h₅ => ?_) fun _ _ e => e
    obtain ⟨rfl, h₅, tk₅, rfl, F₅, N₅⟩ := h₅
    simp only [Bool.false_eq_true, if_false]
    have zI := (N₅ (I, oI) List.mem_cons_self).1
    have zC := (N₅ (C, oC) (List.mem_cons_of_mem _ List.mem_cons_self)).1
    exact ⟨its.length + 1 - (i + 1), by omega, h₅, tk₅, i + 1, _, rfl, hlt, rfl, hnx h₅ zI, F₅, hoC.ns zC, fun q hq => N₅ q (List.mem_cons_of_mem _ (List.mem_cons_of_mem _ hq))⟩
  · have hin : i = its.length := Nat.le_antisymm hi (Nat.not_lt.mp hlt)
    subst hin
    refine next_none hh hit' F' hn' N' off hax hIL hI₀ hDI hCI fun h₄ tk₄ F₄ hn₄ N₄ => ?_
    exact fin h₄ tk₄ _ F₄ hn₄ N₄

theorem assign_all {elt iter : Expr} {a b y : Str} {pa pb tp py : Pos} {kk : Nat} {scope : Scope} {cl : List (Str × Addr)} {pos spos : Pos} {ax : Addr} {its : Prs} {nl : Nat} {news : Led} {Q : Flow → Shared → Prop} (J : Nat → List Value → Led → Prop)
    (F : Fr h₀ L s.heap m) (N : News h₀ L s.heap news) (hax : (ax, ListO (refs its) nl) ∈ news) (hits : PrsIn its news) (hsz : its.length ≤ sizeLine) (hJ : J 0 [] news)
    (turn : ∀ (i : Nat) (p : Addr × Value × Value) ys news' I C D oI oC m₂ s₁ h tk (E' : Value → Shared → Prop), (∃ g, s₁ = { s with heap := g }) → its[i]? = some p → J i ys news' → (∀ q ∈ news, q ∈ news') → NsObj oC m₂ → m₂ a = some p.2.1 → m₂ b = some p.2.2 → Fr h₀ L h m → News h₀ L h ((I, oI) :: (C, oC) :: (D, lst ys) :: news') → Off3 I C D news' →
      wpAny (model prog w) A (eval elt (compEnvC scope cl C env)) (EltEnd h₀ L m { s₁ with heap := h, toks := tk } I C D oI oC ys news' (fun y nx => J (i + 1) (ys ++ [y]) nx)) E' { s₁ with heap := h, toks := tk })
    (fin : ∀ D h tk ys news', J its.length ys news' → (∀ q ∈ news, q ∈ news') → Fr h₀ L h (fun z => if z = y then some (.ref D) else m z) → News h₀ L h ((D, lst ys) :: news') → Off1 D news' → Q .next { s with heap := h, toks := tk })
    (iterd : ∀ Q' : Value → Shared → Prop, Q' (.ref ax) s → wpAny (model prog w) A (eval iter env) Q' E s)
    (hh : A.handled = none) (hLe : env.locals = L) (hsw : swapsWith (.ListComp elt [⟨.Tuple [.Name a pa, .Name b pb] kk tp, iter, [], 0⟩] scope pos) (some (.Name y py)) spos.line env = pure true)
    (hclos : closureFor scope env = pure cl) (hcell : ∀ z ∈ scope.names, z.2 ≠ .cell) (hkind : scope.kind = .function)
    (hnames : ∀ z ∈ scope.names, z.2 = .local → scope.names.lookup z.1 = some .local) (hxa : scope.names.lookup a = some .local) (hxb : scope.names.lookup b = some .local) (hab : ¬ a = b)
    (hy : env.kindOf y = some .local) (hp : (env.scope.kind == .class || (env.scope.kind == .module && env.locals != env.globals)) = false)
    (hs : ∀ x, foldedSetIterable iter env x = pure x) :
    wpAny (model prog w) A (exec (.Assign [.Name y py] (.ListComp elt [⟨.Tuple [.Name a pa, .Name b pb] kk tp, iter, [], 0⟩] scope pos) spos) env) Q E s := by
  subst hLe
  rw [exec_Assign_Name_used _ _ _ _ hsw]
  refine wpAny_bind (wpAny_standAt (wpAny_bind ?_))
  show wpAny _ A (do let _ ← comprehension (.ListComp elt [⟨.Tuple [.Name a pa, .Name b pb] kk tp, iter, [], 0⟩] scope pos) scope env _ (newList []) false (eval iter env) (some (assign (.Name y py) env))) _ _ s
  refine wpAny_bind (wpAny_mono (wpAny_comprehension_free (use := some (assign (.Name y py) env)) (Q := fun _ s' => Q .next s') rfl hs hclos hkind hnames
    (iterd _ ?_)) (fun _ s' hq => wpAny_pure (wpAny_pure hq)) fun _ _ e => e)
  have hl : s.heap.IsList ax (refs its).toArray := ⟨_, (N _ hax).1, rfl, nl, rfl⟩
  refine wpAny_pyIter_list hl ?_
  have up : ∀ c o, s.heap.get? c = some o → (s.heap.push { cls := .type "list_iterator", data := .fields #[.ref ax, .int 0 0] }).get? c = some o := fun c o e => Heap.get?_push_of_some _ e
  refine block_pair hcell hkind ⟨_, Heap.get?_push_size _ rfl, rfl, rfl⟩ (ax := ax) (its := its) (nl := nl) (F.keeps up) (N.grown up) (Nat.ne_of_lt F.ns.lt) (next_is_new F) (fun p hp => Nat.ne_of_lt (Heap.lt_size (N p hp).1)) ?_
  intro C D h₁ tk m' hit F₁ hn N₁ off hCL hC₀ hDL hD₀ hDI hCI hCD
  refine loop_all (J := J) (its := its) (nl := nl) hh hsz hkind hxa hxb hab hax hits (Nat.ne_of_lt F.ns.lt) (next_is_new F) hCL hC₀ hDL hD₀ hDI hCI hCD hit F₁ hn N₁ off hJ
    (fun i p ys news' oI oC m₂ h tk E' h1 h2 h3 h4 h5 h6 h7 h8 h9 => turn i p ys news' _ C D oI oC m₂ _ h tk E' ⟨_, rfl⟩ h1 h2 h3 h4 h5 h6 h7 h8 h9) ?_
  intro h tk m'' ys news' hJ' hsub F' hn' N' off'
  show wpAny _ A (assign (.Name y py) env (.ref D)) _ _ _
  refine wpAny_assign_Name (wpAny_storeName_local hy F'.ns (fun h₂ hn₂ hs₂ => ?_) hp)
  have hL₀ : h₀.get? env.locals = none := Heap.get?_none_of_le F'.above
  have F₂ : Fr h₀ env.locals h₂ (fun z => if z = y then some (.ref D) else m z) := ⟨hn₂, fun b o e => hs₂.extBut b o (fun q => by rw [q, hL₀] at e; cases e) (F'.keep b o e), F'.above⟩
  refine ⟨m'', hn'.sameBut hs₂ hCL, fun h'' hs'' => fin D h'' _ ys news' hJ' hsub (F₂.change hs'' hCL hC₀) (fun p hp => ?_) off'.one⟩
  have z : h₂.get? p.1 = some p.2 := hs₂.extBut _ _ (N' p hp).2.1 (N' p hp).1
  refine ⟨hs''.extBut _ _ ?_ z, (N' p hp).2⟩
  rcases List.mem_cons.mp hp with rfl | hp
  · exact Ne.symm hCD
  · exact (off'.mem p hp).2.1

theorem eval_not {elt iter c : Expr} {a b : Str} {pa pb tp : Pos} {kk : Nat} {scope : Scope} {cl : List (Str × Addr)} {pos : Pos} {ax : Addr} {its : Prs} {nl : Nat} {news : Led} {Q : Value → Shared → Prop}
    (F : Fr h₀ L s.heap m) (N : News h₀ L s.heap news) (hax : (ax, ListO (refs its) nl) ∈ news) (hits : PrsIn its news)
    (turn : ∀ (i : Nat) (p : Addr × Value × Value) I C D oI oC m₂ s₁ h tk (E' : Value → Shared → Prop), (∃ g, s₁ = { s with heap := g }) → its[i]? = some p → NsObj oC m₂ → m₂ a = some p.2.1 → m₂ b = some p.2.2 → Fr h₀ L h m → News h₀ L h ((I, oI) :: (C, oC) :: (D, lst []) :: news) → Off3 I C D news →
      wpAny (model prog w) A (isTrue c (compEnvC scope cl C env) (eval c (compEnvC scope cl C env))) (fun ok s' => ok = false ∧ ∃ h' tk', s' = { s₁ with heap := h', toks := tk' } ∧ Fr h₀ L h' m ∧ News h₀ L h' ((I, oI) :: (C, oC) :: (D, lst []) :: news)) E' { s₁ with heap := h, toks := tk })
    (fin : ∀ D h tk, Fr h₀ L h m → News h₀ L h ((D, lst []) :: news) → Off1 D news → Q (.ref D) { s with heap := h, toks := tk })
    (iterd : ∀ Q' : Value → Shared → Prop, Q' (.ref ax) s → wpAny (model prog w) A (eval iter env) Q' E s)
    (hh : A.handled = none) (hclos : closureFor scope env = pure cl) (hcell : ∀ z ∈ scope.names, z.2 ≠ .cell) (hkind : scope.kind = .function)
    (hnames : ∀ z ∈ scope.names, z.2 = .local → scope.names.lookup z.1 = some .local) (hxa : scope.names.lookup a = some .local) (hxb : scope.names.lookup b = some .local) (hab : ¬ a = b)
    (hs : ∀ x, foldedSetIterable iter env x = pure x) :
    wpAny (model prog w) A (eval (.ListComp elt [⟨.Tuple [.Name a pa, .Name b pb] kk tp, iter, [c], 0⟩] scope pos) env) Q E s := by
  rw [eval_ListComp]
  refine wpAny_comprehension_free (use := none) rfl hs hclos hkind hnames (iterd _ ?_)
  have hl : s.heap.IsList ax (refs its).toArray := ⟨_, (N _ hax).1, rfl, nl, rfl⟩
  refine wpAny_pyIter_list hl ?_
  have up : ∀ c o, s.heap.get? c = some o → (s.heap.push { cls := .type "list_iterator", data := .fields #[.ref ax, .int 0 0] }).get? c = some o := fun c o e => Heap.get?_push_of_some _ e
  refine block_pair hcell hkind ⟨_, Heap.get?_push_size _ rfl, rfl, rfl⟩ (ax := ax) (its := its) (nl := nl) (F.keeps up) (N.grown up) (Nat.ne_of_lt F.ns.lt) (next_is_new F) (fun p hp => Nat.ne_of_lt (Heap.lt_size (N p hp).1)) ?_
  intro C D h₁ tk m' hit F₁ hn N₁ off hCL hC₀ hDL hD₀ hDI hCI hCD
  refine loop_not (its := its) (nl := nl) hh hkind hxa hxb hab hax hits (Nat.ne_of_lt F.ns.lt) (next_is_new F) hCL hC₀ hDI hCI hCD hit F₁ hn N₁ off
    (fun i p oI oC m₂ h tk E' h1 h4 h5 h6 h7 h8 h9 => turn i p _ C D oI oC m₂ _ h tk E' ⟨_, rfl⟩ h1 h4 h5 h6 h7 h8 h9) ?_
  intro h tk m'' F' hn' N'
  refine ⟨m'', hn', fun h'' hs'' => fin D h'' _ (F'.change hs'' hCL hC₀) (fun p hp => ?_) off.one⟩
  refine ⟨hs''.extBut _ _ ?_ (N' p hp).1, (N' p hp).2⟩
  rcases List.mem_cons.mp hp with rfl | hp
  · exact Ne.symm hCD
  · exact (off.mem p hp).2.1
end
end Mine
local macro_rules | `(tactic| walk_at "compareOp NotEq ref ref") => `(tactic| (k_here; (with_reducible show wpAny _ _ (compareOp CmpOp.NotEq (Value.ref _) (Value.ref _)) _ _ _); k_dflt (first | (refine ke_ne_ints (by is_list) (by is_list) (by l_ints) (by l_ints) ?ku ?_; (case ku => ktr_units)) | (refine ne_dataH (by ke_read) (by ke_read) (by ke_shaped) (by ke_shaped) ?ku ?_; (case ku => ktr_units))); ke_norm))
local macro_rules | `(tactic| walk_at "compareOp Eq ref ref") => `(tactic| (k_here; (with_reducible show wpAny _ _ (compareOp CmpOp.Eq (Value.ref _) (Value.ref _)) _ _ _); k_dflt (first | (refine ke_eq_ints (by is_list) (by is_list) (by l_ints) (by l_ints) ?ku ?_; (case ku => ktr_units))); ke_norm))
namespace Mine
open PyProof.Rows.LCg
/-- the pairs' values stand for the same rational -/
def PairsOK (w : World) (its : Prs) (led : Led) : Prop := PrsIn its led ∧ ∀ p ∈ its, ∃ q k1 k2, RepV w led p.2.1 q k1 ∧ RepV w led p.2.2 q k2
def SameT (led : Led) (p : Addr × Value × Value) : Prop := ∃ (T1 T2 : Addr) (n d : Int) (t1 t2 t3 t4 : Tok), p.2 = (.ref T1, .ref T2) ∧ (T1, TupO (.int n t1) (.int d t2)) ∈ led ∧ (T2, TupO (.int n t3) (.int d t4)) ∈ led
def ShownJ (i : Nat) (ys : List Value) (led : Led) : Prop := ∃ outs : Prs, ys = refs outs ∧ PrsIn outs led ∧ ∀ p ∈ outs, SameT led p
theorem SameT.mono {led led' : Led} {p : Addr × Value × Value} (h : SameT led p) (hs : ∀ q ∈ led, q ∈ led') : SameT led' p :=
  let ⟨T1, T2, n, d, t1, t2, t3, t4, e, h1, h2⟩ := h; ⟨T1, T2, n, d, t1, t2, t3, t4, e, hs _ h1, hs _ h2⟩
theorem allLt_mem {d : Addr} : ∀ {l : Led}, AllLt d l → ∀ p ∈ l, @LT.lt Nat _ p.1 d
  | [], _, _, h => nomatch h
  | _ :: _, h, _, hp => (List.mem_cons.mp hp).elim (fun e => e ▸ h.1) (allLt_mem h.2 _)
theorem elt_end {h₀ h h' : Heap} {L I C D T1 T2 T3 : Addr} {m : Str → Option Value} {s : Shared} {oI oC : Obj} {ys : List Value} {news : Led} {tk tk' : Nat} {i : Nat} {n d : Int} {t1 t2 t3 t4 : Tok}
    (F : Fr h₀ L h' m) (N : News h₀ L h' ((T3, TupO (.ref T1) (.ref T2)) :: (T2, TupO (.int n t3) (.int d t4)) :: (T1, TupO (.int n t1) (.int d t2)) :: (I, oI) :: (C, oC) :: (D, lst ys) :: news))
    (hJ : ShownJ i ys news) (off : Off3 I C D news) (l1 : ∀ q ∈ (I, oI) :: (C, oC) :: (D, lst ys) :: news, @LT.lt Nat _ q.1 T1) (l2 : ∀ q ∈ (T1, TupO (.int n t1) (.int d t2)) :: (I, oI) :: (C, oC) :: (D, lst ys) :: news, @LT.lt Nat _ q.1 T2)
    (l3 : @LT.lt Nat _ T2 T3 ∧ @LT.lt Nat _ T1 T3 ∧ @LT.lt Nat _ I T3 ∧ @LT.lt Nat _ C T3 ∧ @LT.lt Nat _ D T3 ∧ AllLt T3 news) :
    EltEnd h₀ L m { s with heap := h, toks := tk } I C D oI oC ys news (fun y nx => ShownJ (i + 1) (ys ++ [y]) nx) (.ref T3) { s with heap := h', toks := tk' } := by
  have a1 := l1 (I, oI) (.head _)
  have a2 := l1 (C, oC) (.tail _ (.head _))
  have a3 := l1 (D, lst ys) (.tail _ (.tail _ (.head _)))
  have b1 := l2 (I, oI) (.tail _ (.head _))
  have b2 := l2 (C, oC) (.tail _ (.tail _ (.head _)))
  have b3 := l2 (D, lst ys) (.tail _ (.tail _ (.tail _ (.head _))))
  obtain ⟨c1, c2, c3, c4, c5, c6⟩ := l3
  have o3 := off.mem
  refine ⟨h', tk', (T3, TupO (.ref T1) (.ref T2)) :: (T2, TupO (.int n t3) (.int d t4)) :: (T1, TupO (.int n t1) (.int d t2)) :: news, rfl, F, fun p hp => ?_, Off3.of fun p hp => ?_, fun p hp => .tail _ (.tail _ (.tail _ hp)), ?_⟩
  · simp only [List.mem_cons] at hp
    refine N p ?_
    simp only [List.mem_cons]
    rcases hp with e | e | e | e | e | e | e <;> simp only [e, true_or, or_true]
  · rcases List.mem_cons.mp hp with rfl | hp
    · exact ⟨Nat.ne_of_gt c3, Nat.ne_of_gt c4, Nat.ne_of_gt c5⟩
    rcases List.mem_cons.mp hp with rfl | hp
    · exact ⟨Nat.ne_of_gt b1, Nat.ne_of_gt b2, Nat.ne_of_gt b3⟩
    rcases List.mem_cons.mp hp with rfl | hp
    · exact ⟨Nat.ne_of_gt a1, Nat.ne_of_gt a2, Nat.ne_of_gt a3⟩
    exact o3 p hp
  · obtain ⟨outs, e, hin, hs⟩ := hJ
    refine ⟨outs ++ [(T3, .ref T1, .ref T2)], by simp [e, refs], fun p hp => ?_, fun p hp => ?_⟩
    · rcases List.mem_append.mp hp with hp | hp
      · exact .tail _ (.tail _ (.tail _ (hin p hp)))
      · rw [List.mem_singleton.mp hp]; exact .head _
    · rcases List.mem_append.mp hp with hp | hp
      · exact (hs p hp).mono fun q hq => .tail _ (.tail _ (.tail _ hq))
      · rw [List.mem_singleton.mp hp]; exact ⟨T1, T2, n, d, t1, t2, t3, t4, rfl, .tail _ (.tail _ (.head _)), .tail _ (.head _)⟩
section
variable {w : World} {news : Led} {q q1 q2 : Rat} {k k1 k2 : Nat} {v v1 v2 : Value}
theorem alike_c {its : Prs} {ax : Addr} {nl : Nat} (hax : (ax, ListO (refs its) nl) ∈ news) (hP : PairsOK w its news) (hsz : its.length ≤ 1000) : Ct w 12 201 [.ref ax] news (OutB true) := by
  unfold Ct
  k_fill
  intro dp un gd cn cs a ccd cl outer A₀ base h₀ L m s mean mg mb Q E B F X N T hk hd hu hret
  k_with_none
  refine wpAny_call ?_
  k_dflt ktr_enter
  refine wpAny_execs_cons ?_
  rename_i g' L' h' FG' F' N' B' X' T'
  refine assign_all (J := ShownJ) (its := its) (nl := nl) (ax := ax) (cl := []) F' N' hax hP.1 ?s1 ?s2 ?turn ?fin ?s5 ?s6 ?s7 ?s8 ?s9 ?s10 ?s11 ?s12 ?s13 ?s14 ?s15 ?s16 ?s17 ?s18
  case s1 => exact Nat.le_trans hsz (by decide)
  case s2 => exact ⟨[], rfl, fun _ h => (nomatch h), fun _ h => (nomatch h)⟩
  case s5 => exact fun Q' hq => ld F' (by rfl) hq
  case s6 => rfl
  case s7 => rfl
  case s8 => with_unfolding_all rfl
  case s9 => with_unfolding_all rfl
  case s10 => decide
  case s11 => rfl
  case s12 => decide
  case s13 => rfl
  case s14 => rfl
  case s15 => decide
  case s16 => rfl
  case s17 => rfl
  case s18 => intro _; with_unfolding_all rfl
  case turn =>
    intro i ⟨T0, x, y⟩ ys news' I C D oI oC m₂ s₁ h tk E' hs₁ hp hJ hsub hoC ha hb F4 N4 off
    obtain ⟨g4, rfl⟩ := hs₁
    obtain ⟨q, k1, k2, R1, R2⟩ := hP.2 _ (List.mem_of_getElem? hp)
    replace R1 := R1.mono hsub
    replace R2 := R2.mono hsub
    dsimp only at R1 R2 ha hb
    clear N' F' FG'
    repeat' (first | (k_unfold; (try dsimp only)) | walk1 | (dsimp only; walk1))
    exact elt_end (by k_asm) (by k_asm) hJ off (by assumption) (by assumption) (by assumption)
  case fin =>
    intro D h tk ys news' hJ hsub F4 N4 off
    dsimp only
    clear N' F' FG'
    obtain ⟨outs, rfl, hin, hsame⟩ := hJ
    iterate 3 walk1
    refine eval_not (its := outs) (ax := D) (cl := []) F4 N4 (.head _) (hin.mono fun _ h => .tail _ h) ?turn ?fin ?s5 ?s6 ?s8 ?s10 ?s11 ?s12 ?s13 ?s14 ?s15 ?s18
    case s5 => exact fun Q' hq => ld F4 (by rfl) hq
    case s6 => rfl
    case s8 => with_unfolding_all rfl
    case s10 => decide
    case s11 => rfl
    case s12 => decide
    case s13 => rfl
    case s14 => rfl
    case s15 => decide
    case s18 => intro _; with_unfolding_all rfl
    case turn =>
      intro i ⟨T0, x, y⟩ I C D2 oI oC m₂ s₁ h tk E' hs₁ hp hoC ha hb F5 N5 off5
      obtain ⟨g5, rfl⟩ := hs₁
      obtain ⟨T1, T2, n, d, t1, t2, t3, t4, e, h1, h2⟩ := hsame _ (List.mem_of_getElem? hp)
      obtain ⟨rfl, rfl⟩ : x = .ref T1 ∧ y = .ref T2 := by injection e with e1 e2; exact ⟨e1, e2⟩
      dsimp only at ha hb
      clear N4 F4 e
      have N6 : News g' L' h ((T1, TupO (.int n t1) (.int d t2)) :: (T2, TupO (.int n t3) (.int d t4)) :: (I, oI) :: (C, oC) :: (D2, lst []) :: (D, lst (refs outs)) :: news') := fun p hp => by
        rcases List.mem_cons.mp hp with rfl | hp
        · exact N5 _ (.tail _ (.tail _ (.tail _ (.tail _ h1))))
        rcases List.mem_cons.mp hp with rfl | hp
        · exact N5 _ (.tail _ (.tail _ (.tail _ (.tail _ h2))))
        exact N5 p hp
      clear N5
      repeat' (first | (k_unfold; (try dsimp only)) | walk1 | (dsimp only; walk1))
      · exact F5
      · exact fun p hp => N6 p (.tail _ (.tail _ hp))
    case fin =>
      intro D2 h tk F5 N5 off5
      dsimp only
      clear F4 N4
      repeat' (first | (k_unfold; (try dsimp only)) | walk1 | (dsimp only; walk1))
      exact retB hret (by k_asm) (by k_asm) (by intro p hp; have hp := hsub p hp; walk_at "my in") rfl
end
end Mine
namespace Mine
open PyProof.Rows.LCg
/-- the well's two lists -/
inductive Wb (lw lv : Addr) : Led → Prop
  | mk {us : List Value} {l : List Int} {n n2 : Nat} {x : Int} {t : Tok} : IntsAre us l → (∀ z ∈ l, 0 ≤ z) → us.length ≤ 64 → 0 ≤ x → x < 65537 → Wb lw lv [(lv, ListO us n), (lw, ListO [.ref lv, .int x t] n2)]
/-- what a call with the well comes to -/
def CtW (w : World) (sz : Nat) (f lw lv : Addr) (vs : List Value) (news : Led) (Out : Led → Value → Prop) : Prop :=
  ∀ (dp un : Nat) (gd : Option (List Code)) (cn : Str) (cs : Scope) (a : Addr) (ccd : Value) (cl : List (Str × Addr)) (outer : List Env) (A₀ : Around) (base h₀ : Heap) (L : Addr) (m : Str → Option Value) (s : Shared)
    (mean : ExcName → Option Value) (mg mb : Str → Option Value) (Q E : Value → Shared → Prop) (wb : Led),
    Below A₀ base outer h₀ → Fr h₀ L s.heap m → (hd.heap_39 w.params).In h₀ → Wb lw lv wb → News h₀ L s.heap (wb ++ news) → (∀ p ∈ news, p.1 ≠ lv ∧ p.1 ≠ lw) → Top hd.view_39 (looseW hd.view_39 []) mean mg mb h₀ → cs.kind = .function → dp + sz < recursionLimit → un + 8 * sz < cLine →
    (∀ r tl h' tk' wb', Fr h₀ L h' m → Wb lw lv wb' → News h₀ L h' (wb' ++ (tl ++ news)) → (∀ p ∈ tl ++ news, p.1 ≠ lv ∧ p.1 ≠ lw) → (∀ q ∈ news, ∀ p ∈ tl, q.1 < p.1) → Out tl r → Q r { s with heap := h', toks := tk' }) →
    wpAny (model PySem.Challenge.rw_pq1012_01.row.prog w) (ktrTop dp un gd cn cs L a ccd cl outer) (call (.ref f) vs) Q E s
theorem draw_ge (x : Int) : 0 ≤ (x * 75 + 74).fmod 65537 := Int.fmod_nonneg_of_pos _ (by decide)
theorem draw_lt (x : Int) : (x * 75 + 74).fmod 65537 < 65537 := Int.fmod_lt_of_pos _ (by decide)
theorem le64 : 64 ≤ sizeLine := by rw [sizeLine_eq]; decide
theorem seq0 (x : Value) (xs : List Value) : seqIndex? 0 (x :: xs).toArray.size = some 0 := by simp [seqIndex?]
end Mine
local macro_rules | `(tactic| k_all) => `(tactic| assumption)
local macro_rules | `(tactic| walk_at "call builtin:list.pop") => `(tactic| (k_here; (try dsimp only [List.cons_append, List.nil_append]); (with_reducible show wpAny _ _ (call (Value.builtin _) [Value.ref _, Value.int _ _]) _ _ _); k_dflt (refine' kl_popAt (k := 0) ?F ?N ?f ?k ?e ?U ?z ?_; (case F => k_asm); (case N => k_asm); (case U => k_upd); (case f => rfl); (case k => exact Mine.seq0 _ _); (case e => rfl); (case z => exact Nat.le_trans (by assumption) Mine.le64)); intro h' F' N'; (try dsimp only [List.nil_append, List.cons_append] at N')))
namespace Mine
section
variable {w : World} {news : Led} {lw lv : Addr}
theorem retW {h₀ : Heap} {L : Addr} {m : Str → Option Value} {s : Shared} {Q : Value → Shared → Prop} {many z : Int} {t : Tok} {h' : Heap} {tk' : Nat} {nx : Led} {o1 o2 : Obj}
    (hret : ∀ r tl h' tk' wb', Fr h₀ L h' m → Wb lw lv wb' → News h₀ L h' (wb' ++ (tl ++ news)) → (∀ p ∈ tl ++ news, p.1 ≠ lv ∧ p.1 ≠ lw) → (∀ q ∈ news, ∀ p ∈ tl, q.1 < p.1) → (tl = [] ∧ ∃ z t, r = .int z t ∧ 0 ≤ z ∧ z < many) → Q r { s with heap := h', toks := tk' })
    (off : ∀ p ∈ news, p.1 ≠ lv ∧ p.1 ≠ lw) (F : Fr h₀ L h' m) (N : News h₀ L h' nx) (hs : ∀ p ∈ news, p ∈ nx) (h1 : (lv, o1) ∈ nx) (h2 : (lw, o2) ∈ nx) (W : Wb lw lv [(lv, o1), (lw, o2)]) (hz : 0 ≤ z) (hz' : z < many) : Q (.int z t) { s with heap := h', toks := tk' } := by
  refine hret _ [] _ _ _ F W (fun p hp => ?_) off (fun _ _ _ h => nomatch h) ⟨rfl, _, _, rfl, hz, hz'⟩
  simp only [List.cons_append, List.nil_append, List.mem_cons] at hp
  rcases hp with rfl | rfl | hp
  · exact N _ h1
  · exact N _ h2
  · exact N _ (hs _ hp)
theorem drawn_c {many : Int} {tm : Tok} (hne : lv ≠ lw) (h0 : 0 < many) (h1 : many ≤ 100) : CtW w 12 182 lw lv [.ref lw, .int many tm] news (fun tl r => tl = [] ∧ ∃ z t, r = .int z t ∧ 0 ≤ z ∧ z < many) := by
  unfold CtW
  k_fill
  intro dp un gd cn cs a ccd cl outer A₀ base h₀ L m s mean mg mb Q E wb B F X hwb N off T hk hd hu hret
  k_with_none
  have off1 : ∀ p ∈ news, p.1 ≠ lv := fun p hp => (off p hp).1
  have off2 : ∀ p ∈ news, p.1 ≠ lw := fun p hp => (off p hp).2
  have hne1 : @Ne Nat lv lw := hne
  cases hwb with | mk hI hnn hlen hx0 hx1 => ?_
  cases hI with
  | nil =>
    dsimp only [List.cons_append, List.nil_append] at N
    refine wpAny_call ?_
    k_dflt ktr_enter
    k_steps
    exact retW hret off (by k_asm) (by k_asm) (by walk_at "my sub") (by k_mem) (by k_mem) (.mk .nil hnn hlen (draw_ge _) (draw_lt _)) (Int.fmod_nonneg_of_pos _ h0) (Int.fmod_lt_of_pos _ h0)
  | cons k tk hI =>
    dsimp only [List.cons_append, List.nil_append] at N
    refine wpAny_call ?_
    k_dflt ktr_enter
    k_steps
    · exfalso; rename decide _ = true => e9; simp at e9
    · exact retW hret off (by k_asm) (by k_asm) (by walk_at "my sub") (by k_mem) (by k_mem) (.mk hI (fun z hz => hnn z (.tail _ hz)) (Nat.le_of_succ_le hlen) hx0 hx1) (Int.fmod_nonneg_of_pos _ h0) (Int.fmod_lt_of_pos _ h0)
end
end Mine
namespace Mine
open PyProof.Rows.LCg
/-- a ledger without the well -/
inductive Sp (wb : Led) : Led → Led → Prop
  | here {r : Led} : Sp wb (r ++ wb) r
  | cons {p : Addr × Obj} {nx r : Led} : Sp wb nx r → Sp wb (p :: nx) (p :: r)
  | app {l nx r : Led} : Sp wb nx r → Sp wb (l ++ nx) (l ++ r)
theorem Sp.sub {wb nx r : Led} (h : Sp wb nx r) : ∀ p ∈ wb ++ r, p ∈ nx := by
  induction h with
  | here => exact fun _ h => (List.mem_append.mp h).elim (List.mem_append_right _) (List.mem_append_left _)
  | cons _ ih =>
    intro p hp
    rcases List.mem_append.mp hp with hp | hp
    · exact .tail _ (ih p (List.mem_append_left _ hp))
    rcases List.mem_cons.mp hp with rfl | hp
    · exact .head _
    · exact .tail _ (ih p (List.mem_append_right _ hp))
  | app _ ih =>
    intro p hp
    rcases List.mem_append.mp hp with hp | hp
    · exact List.mem_append_right _ (ih p (List.mem_append_left _ hp))
    rcases List.mem_append.mp hp with hp | hp
    · exact List.mem_append_left _ hp
    · exact List.mem_append_right _ (ih p (List.mem_append_right _ hp))
def Off (lw lv : Addr) (news : Led) : Prop := ∀ p ∈ news, p.1 ≠ lv ∧ p.1 ≠ lw
theorem Off.nil {lw lv : Addr} : Off lw lv [] := fun _ h => nomatch h
theorem Off.cons {lw lv : Addr} {p : Addr × Obj} {news : Led} (h1 : p.1 ≠ lv ∧ p.1 ≠ lw) (h2 : Off lw lv news) : Off lw lv (p :: news) := fun q hq => (List.mem_cons.mp hq).elim (fun e => e ▸ h1) (h2 q)
theorem Off.app {lw lv : Addr} {tl news : Led} (h1 : Off lw lv tl) (h2 : Off lw lv news) : Off lw lv (tl ++ news) := fun q hq => (List.mem_append.mp hq).elim (h1 q) (h2 q)
theorem Wb.ends {lw lv : Addr} {wb : Led} (W : Wb lw lv wb) : (∃ o, (lv, o) ∈ wb) ∧ ∃ o, (lw, o) ∈ wb := by
  cases W
  exact ⟨⟨_, .head _⟩, ⟨_, .tail _ (.head _)⟩⟩
theorem Off.of_lt {lw lv : Addr} {wb nx r : Led} {d : Addr} (hs : Sp wb nx r) (W : Wb lw lv wb) (h : ∀ p ∈ nx, @LT.lt Nat _ p.1 d) : d ≠ lv ∧ d ≠ lw := by
  obtain ⟨⟨o1, h1⟩, ⟨o2, h2⟩⟩ := W.ends
  have a := h _ (hs.sub _ (List.mem_append_left _ h1))
  have b := h _ (hs.sub _ (List.mem_append_left _ h2))
  exact ⟨Nat.ne_of_gt a, Nat.ne_of_gt b⟩
theorem Off.of_ord {lw lv : Addr} {wb nx r tl : Led} (hs : Sp wb nx r) (W : Wb lw lv wb) (h : ∀ q ∈ nx, ∀ p ∈ tl, @LT.lt Nat _ q.1 p.1) : Off lw lv tl := fun p hp => Off.of_lt hs W (fun q hq => h q hq p hp)
section
variable {w : World} {lw lv : Addr} {dp un : Nat} {gd : Option (List Code)} {cn : Str} {cs : Scope} {a : Addr} {ccd : Value} {cl : List (Str × Addr)} {outer : List Env} {A₀ : Around} {base h₀ : Heap} {L : Addr} {m : Str → Option Value} {s : Shared}
    {mean : ExcName → Option Value} {mg mb : Str → Option Value} {Q E : Value → Shared → Prop}
theorem pick_pos {z : Int} (h0 : 0 ≤ z) (h1 : z < 3) : 0 < [(6 : Int), 30, 100].getD z.toNat 0 := by
  have : z = 0 ∨ z = 1 ∨ z = 2 := by omega
  rcases this with rfl | rfl | rfl <;> decide
theorem pick_le (k : Nat) : [(6 : Int), 30, 100].getD k 0 ≤ 100 := by
  match k with
  | 0 => decide
  | 1 => decide
  | 2 => decide
  | k + 3 => exact (show (0 : Int) ≤ 100 by decide)
theorem lt7 {z : Int} (h0 : 0 ≤ z) (h1 : z < 100) : (1 + z).natAbs < 2 ^ 7 := by omega
theorem useD {many : Int} {tm : Tok} {wb nx news : Led} (F : Fr h₀ L s.heap m) (N : News h₀ L s.heap nx) (sp : Sp wb nx news) (W : Wb lw lv wb) (off : Off lw lv news) (hne : lv ≠ lw) (h0 : 0 < many) (h1 : many ≤ 100)
    (B : Below A₀ base outer h₀) (X : (hd.heap_39 w.params).In h₀) (T : Top hd.view_39 (looseW hd.view_39 []) mean mg mb h₀) (hk : cs.kind = .function) (hd' : dp + 12 < recursionLimit) (hu : un + 8 * 12 < cLine)
    (ret : ∀ z t h' tk' wb', Fr h₀ L h' m → News h₀ L h' (news ++ wb') → Wb lw lv wb' → Off lw lv news → 0 ≤ z → z < many → z < 100 → Q (.int z t) { s with heap := h', toks := tk' }) :
    wpAny (model PySem.Challenge.rw_pq1012_01.row.prog w) (ktrTop dp un gd cn cs L a ccd cl outer) (call (.ref 182) [.ref lw, .int many tm]) Q E s :=
  drawn_c (news := news) hne h0 h1 _ _ _ _ _ _ _ _ _ _ _ _ _ _ _ _ _ _ _ _ _ B F X W (fun p hp => N p (sp.sub p hp)) off T hk hd' hu fun r tl h' tk' wb' F' W' N' off' _ o => by
    obtain ⟨rfl, z, t, rfl, hz, hz'⟩ := o
    exact ret z t h' tk' wb' F' (fun p hp => N' p ((List.mem_append.mp hp).elim (List.mem_append_right _) (List.mem_append_left _))) W' off hz hz' (Int.lt_of_lt_of_le hz' h1)
end
end Mine
local macro_rules | `(tactic| walk_at "my sp") => `(tactic| first | exact Mine.Sp.here | (refine' Mine.Sp.cons ?a; (case a => walk_at "my sp")) | (refine' Mine.Sp.app ?a; (case a => walk_at "my sp")))
local macro_rules | `(tactic| walk_at "my off") => `(tactic| first
  | assumption
  | exact Mine.Off.nil
  | (refine' Mine.Off.cons (Mine.Off.of_lt ?sp ?W ?l) ?a; (case l => first | assumption | exact Mine.allLt_mem (by assumption)); (case W => assumption); (case sp => walk_at "my sp"); (case a => walk_at "my off"))
  | (refine' Mine.Off.app (Mine.Off.of_ord ?sp ?W ?l) ?a; (case l => assumption); (case W => assumption); (case sp => walk_at "my sp"); (case a => walk_at "my off")))
local macro_rules | `(tactic| walk_at "my numlt") => `(tactic| exact Mine.lt7 (by assumption) (by assumption))
local macro_rules | `(tactic| walk_at "call ref") => `(tactic| (k_here; k_dflt (refine' Mine.useD ?F ?N ?sp ?W ?off ?hne ?h0 ?h1 ?B ?X ?T ?hk ?hd ?hu ?_; (case N => k_asm); walk_at "my std"; (case hne => assumption); (case W => assumption); (case sp => walk_at "my sp"); (case off => walk_at "my off"); (case h0 => first | walk_at "my nat" | exact Mine.pick_pos (by assumption) (by assumption)); (case h1 => first | walk_at "my nat" | exact Mine.pick_le _);  intro z' t' h' tk' wb' F' N' W' off' hz' hz1' hz2'; (try dsimp only [List.cons_append, List.nil_append] at N'); walk_at "my tail")))
namespace Mine
section
variable {w : World} {news : Led} {lw lv : Addr}
theorem num_ne {z z' : Int} (h0 : 0 ≤ z) (h1 : 0 ≤ z') : mkRat (1 + z) (1 + z').toNat ≠ 0 := by
  have h2 : (1 + z').toNat ≠ 0 := by omega
  intro e
  have := (Rat.mkRat_eq_zero h2).mp e
  omega
theorem neg_ne {q : Rat} (h : q ≠ 0) : -q ≠ 0 := fun e => h (by rw [← Rat.neg_neg q, e]; rfl)
theorem retNum {h₀ : Heap} {L : Addr} {m : Str → Option Value} {s : Shared} {Q : Value → Shared → Prop} {r : Value} {q : Rat} {tl wb nx : Led} {h' : Heap} {tk' : Nat}
    (hret : ∀ r tl h' tk' wb', Fr h₀ L h' m → Wb lw lv wb' → News h₀ L h' (wb' ++ (tl ++ news)) → (∀ p ∈ tl ++ news, p.1 ≠ lv ∧ p.1 ≠ lw) → (∀ q ∈ news, ∀ p ∈ tl, q.1 < p.1) → (∃ q, q ≠ 0 ∧ RepV w tl r q 7) → Q r { s with heap := h', toks := tk' })
    (R : RepV w tl r q 7) (hq : q ≠ 0) (F : Fr h₀ L h' m) (N : News h₀ L h' nx) (W : Wb lw lv wb) (s1 : ∀ p ∈ wb, p ∈ nx) (s2 : ∀ p ∈ tl, p ∈ nx) (s3 : ∀ p ∈ news, p ∈ nx) (offt : Off lw lv tl) (off : Off lw lv news) (ord : ∀ q ∈ news, ∀ p ∈ tl, q.1 < p.1) : Q r { s with heap := h', toks := tk' } :=
  hret r tl _ _ wb F W (fun p hp => N p ((List.mem_append.mp hp).elim (s1 p) fun hp => (List.mem_append.mp hp).elim (s2 p) (s3 p))) (offt.app off) ord ⟨q, hq, R⟩
theorem number_c (hne : lv ≠ lw) : CtW w 16 189 lw lv [.ref lw] news (fun tl r => ∃ q, q ≠ 0 ∧ RepV w tl r q 7) := by
  unfold CtW
  k_fill
  intro dp un gd cn cs a ccd cl outer A₀ base h₀ L m s mean mg mb Q E wb B F X W N off T hk hd hu hret
  change Off lw lv news at off
  replace N : News h₀ L s.heap (news ++ wb) := fun p hp => N p ((List.mem_append.mp hp).elim (List.mem_append_right _) (List.mem_append_left _))
  k_with_none
  refine wpAny_call ?_
  k_dflt ktr_enter
  k_steps
  · exact retNum hret (by assumption) (neg_ne (num_ne (by assumption) (by assumption))) (by k_asm) (by k_asm) (by assumption) (by walk_at "my sub") (by walk_at "my sub") (by walk_at "my sub") (by refine' Off.of_ord ?sp ?W ?l; (case l => assumption); (case W => assumption); (case sp => walk_at "my sp")) off (by walk_at "my ord")
  · exact retNum hret (by assumption) (num_ne (by assumption) (by assumption)) (by k_asm) (by k_asm) (by assumption) (by walk_at "my sub") (by walk_at "my sub") (by walk_at "my sub") (fun p hp => (by assumption : Off lw lv (_ ++ _)) p (List.mem_append_left _ hp)) off (by walk_at "my ord")
end
section
variable {w : World} {lw lv : Addr} {dp un : Nat} {gd : Option (List Code)} {cn : Str} {cs : Scope} {a : Addr} {ccd : Value} {cl : List (Str × Addr)} {outer : List Env} {A₀ : Around} {base h₀ : Heap} {L : Addr} {m : Str → Option Value} {s : Shared}
    {mean : ExcName → Option Value} {mg mb : Str → Option Value} {Q E : Value → Shared → Prop}
theorem useNum {wb nx news : Led} (F : Fr h₀ L s.heap m) (N : News h₀ L s.heap nx) (sp : Sp wb nx news) (W : Wb lw lv wb) (off : Off lw lv news) (hne : lv ≠ lw)
    (B : Below A₀ base outer h₀) (X : (hd.heap_39 w.params).In h₀) (T : Top hd.view_39 (looseW hd.view_39 []) mean mg mb h₀) (hk : cs.kind = .function) (hd' : dp + 16 < recursionLimit) (hu : un + 8 * 16 < cLine)
    (ret : ∀ r tl h' tk' wb' q, Fr h₀ L h' m → News h₀ L h' ((tl ++ news) ++ wb') → Wb lw lv wb' → Off lw lv (tl ++ news) → (∀ q ∈ news, ∀ p ∈ tl, q.1 < p.1) → q ≠ 0 → RepV w tl r q 7 → Q r { s with heap := h', toks := tk' }) :
    wpAny (model PySem.Challenge.rw_pq1012_01.row.prog w) (ktrTop dp un gd cn cs L a ccd cl outer) (call (.ref 189) [.ref lw]) Q E s :=
  number_c (news := news) hne _ _ _ _ _ _ _ _ _ _ _ _ _ _ _ _ _ _ _ _ _ B F X W (fun p hp => N p (sp.sub p hp)) off T hk hd' hu fun r tl h' tk' wb' F' W' N' off' o ⟨q, hq, R⟩ => 
    ret r tl h' tk' wb' q F' (fun p hp => N' p ((List.mem_append.mp hp).elim (List.mem_append_right _) (List.mem_append_left _))) W' off' o hq R
end
end Mine
local macro_rules | `(tactic| walk_at "call ref") => `(tactic| (k_here; k_dflt (refine' Mine.useNum ?F ?N ?sp ?W ?off ?hne ?B ?X ?T ?hk ?hd ?hu ?_; (case N => k_asm); walk_at "my std"; (case hne => assumption); (case W => assumption); (case sp => walk_at "my sp"); (case off => walk_at "my off");  intro r' tl' h' tk' wb' q' F' N' W' off' o' hq' R'; (try dsimp only [List.cons_append, List.nil_append] at N'); walk_at "my tail")))
namespace Mine
open PyProof.Rows.LCg
/-- the numbers at hand -/
def Nums (w : World) (led : Led) (l : List (Value × Rat × Nat)) : Prop := ∀ t ∈ l, RepV w led t.1 t.2.1 t.2.2
section
variable {prog : Program} {w : World} {A : Around} {E : Value → Shared → Prop} {s : Shared} {h₀ h : Heap} {L lp : Addr} {m : Str → Option Value} {led nx rest : Led} {l : List (Value × Rat × Nat)}
theorem Nums.get {v : Value} {q : Rat} {k : Nat} (h : Nums w led l) (hm : (v, q, k) ∈ l) : RepV w led v q k := h _ hm
theorem Nums.mono {led' : Led} (h : Nums w led l) (hs : ∀ p ∈ led, p ∈ led') : Nums w led' l := fun t ht => (h t ht).mono hs
theorem Nums.add {v : Value} {q : Rat} {k : Nat} (h : Nums w led l) (R : RepV w led v q k) : Nums w led ((v, q, k) :: l) := fun t ht => (List.mem_cons.mp ht).elim (fun e => e ▸ R) (h t)
theorem RepV.one {t : Tok} : RepV w led (.int 1 t) 1 1 := RepV.ofInt' (q := 1) rfl rfl (by decide)
theorem RepV.zero {t : Tok} : RepV w led (.int 0 t) 0 1 := RepV.ofInt' (q := 0) rfl rfl (by decide)
theorem PairsOK.mono {its : Prs} {led' : Led} (h : PairsOK w its led) (hs : ∀ p ∈ led, p ∈ led') : PairsOK w its led' :=
  ⟨h.1.mono hs, fun p hp => let ⟨q, k1, k2, R1, R2⟩ := h.2 p hp; ⟨q, k1, k2, R1.mono hs, R2.mono hs⟩⟩
theorem PairsOK.nil : PairsOK w [] led := ⟨fun _ h => (nomatch h), fun _ h => (nomatch h)⟩
theorem PairsOK.snoc {its : Prs} {T : Addr} {x y : Value} {q1 q2 : Rat} {k1 k2 : Nat} (h : PairsOK w its led) (hT : (T, TupO x y) ∈ led) (R1 : RepV w led x q1 k1) (R2 : RepV w led y q2 k2) (e : q1 = q2) : PairsOK w (its ++ [(T, x, y)]) led := by
  subst e
  refine ⟨fun p hp => ?_, fun p hp => ?_⟩
  · rcases List.mem_append.mp hp with hp | hp
    · exact h.1 p hp
    · rw [List.mem_singleton.mp hp]; exact hT
  · rcases List.mem_append.mp hp with hp | hp
    · exact h.2 p hp
    · rw [List.mem_singleton.mp hp]; exact ⟨q1, k1, k2, R1, R2⟩
def OffP (lp : Addr) (led : Led) : Prop := ∀ p ∈ led, p.1 ≠ lp
theorem OffP.cons {p : Addr × Obj} (h1 : p.1 ≠ lp) (h2 : OffP lp led) : OffP lp (p :: led) := fun q hq => (List.mem_cons.mp hq).elim (fun e => e ▸ h1) (h2 q)
theorem OffP.app (h1 : OffP lp nx) (h2 : OffP lp led) : OffP lp (nx ++ led) := fun q hq => (List.mem_append.mp hq).elim (h1 q) (h2 q)
theorem OffP.of_lt {o : Obj} {d : Addr} (h : ∀ p ∈ nx, @LT.lt Nat _ p.1 d) (hm : (lp, o) ∈ nx) : d ≠ lp := Nat.ne_of_gt (h _ hm)
theorem OffP.of_ord {o : Obj} {tl : Led} (h : ∀ q ∈ nx, ∀ p ∈ tl, @LT.lt Nat _ q.1 p.1) (hm : (lp, o) ∈ nx) : OffP lp tl := fun p hp => Nat.ne_of_gt (h _ hm p hp)
theorem OffP.of_new {d : Addr} (h : ∀ p ∈ nx, @LT.lt Nat _ p.1 d) : OffP d nx := fun p hp => Nat.ne_of_lt (h p hp)

theorem append_P {its : Prs} {n c : Nat} {T : Addr} {x y : Value} {q1 q2 : Rat} {k1 k2 : Nat} {Q : Value → Shared → Prop} (F : Fr h₀ L s.heap m) (N : News h₀ L s.heap ((T, TupO x y) :: nx)) (sp : Sp [(lp, ListO (refs its) n)] nx rest) (P : PairsOK w its led) (NU : Nums w led l)
    (offT : T ≠ lp) (off : OffP lp rest) (hs : ∀ p ∈ led, p ∈ rest) (R1 : RepV w rest x q1 k1) (R2 : RepV w rest y q2 k2) (e : q1 = q2) (hlen : its.length ≤ c) (hc : c ≤ 900)
    (go : ∀ h' its' led', Fr h₀ L h' m → News h₀ L h' (led' ++ [(lp, ListO (refs its') (n + 1))]) → OffP lp led' → PairsOK w its' led' → Nums w led' l → its'.length ≤ c + 1 → Q .none { s with heap := h' }) :
    wpAny (model prog w) A (call (.builtin "list.append") [.ref lp, .ref T]) Q E s := by
  have z := N _ (.tail _ (sp.sub _ (List.mem_append_left _ (.head _))))
  refine append_at (hsz := by show (refs its).toArray.size ≤ sizeLine; rw [List.size_toArray, List.length_map, sizeLine_eq]; omega) z.1 fun h' hs' ho' => ?_
  have t1 : ∀ p ∈ rest, p ∈ (T, TupO x y) :: rest := fun p hp => .tail _ hp
  refine go h' (its ++ [(T, x, y)]) ((T, TupO x y) :: rest) (F.change hs' z.2.1 z.2.2) (fun p hp => ?_) (OffP.cons offT off) (((P.mono hs).mono t1).snoc (.head _) (R1.mono t1) (R2.mono t1) e) ((NU.mono hs).mono t1) (by rw [List.length_append]; exact Nat.succ_le_succ hlen)
  rcases List.mem_append.mp hp with hp | hp
  · have a : p ∈ (T, TupO x y) :: nx := by
      rcases List.mem_cons.mp hp with rfl | hp
      · exact .head _
      · exact .tail _ (sp.sub _ (List.mem_append_right _ hp))
    exact ⟨hs'.extBut _ _ (OffP.cons offT off p hp) (N p a).1, (N p a).2⟩
  · rw [List.mem_singleton.mp hp]
    refine ⟨ho'.trans (congrArg some ?_), z.2⟩
    simp [ListO, refs]
/-- a made list of pairs -/
theorem made_P {its : Prs} {n : Nat} {D : Addr} {vs : Array Value} (N : News h₀ L h ((D, PySem.W.listOf vs n) :: nx)) (hv : vs = (refs its).toArray) (P : PairsOK w its nx) (NU : Nums w led l) (hs : ∀ p ∈ led, p ∈ nx) (hD : ∀ p ∈ nx, @LT.lt Nat _ p.1 D) {c : Nat} (hlen : its.length ≤ c) :
    ∃ its' led', News h₀ L h (led' ++ [(D, ListO (refs its') n)]) ∧ OffP D led' ∧ PairsOK w its' led' ∧ Nums w led' l ∧ its'.length ≤ c := by
  subst hv
  refine ⟨its, nx, fun p hp => ?_, OffP.of_new hD, P, NU.mono hs, hlen⟩
  rcases List.mem_append.mp hp with hp | hp
  · exact N p (.tail _ hp)
  · rw [List.mem_singleton.mp hp]; exact N _ (.head _)
theorem add_P {its its2 : Prs} {n c c0 : Nat} {D2 : Addr} {vs2 : Array Value} {Q : Value → Shared → Prop} (F : Fr h₀ L s.heap m) (N : News h₀ L s.heap ((D2, PySem.W.listOf vs2 0) :: nx)) (hm : (lp, ListO (refs its) n) ∈ nx) (hv : vs2 = (refs its2).toArray) (P : PairsOK w its led) (P2 : PairsOK w its2 nx) (NU : Nums w led l)
    (hs : ∀ p ∈ led, p ∈ nx) (k : its2.length = c) (hc : c ≤ 90) (hlen : its.length ≤ c0) (hc0 : c0 ≤ 900)
    (go : ∀ D h' its' led', Fr h₀ L h' m → News h₀ L h' (led' ++ [(D, ListO (refs its') 0)]) → OffP D led' → PairsOK w its' led' → Nums w led' l → its'.length ≤ c0 + c → Q (.ref D) { s with heap := h' }) :
    wpAny (model prog w) A (binaryOp .Add (.ref lp) (.ref D2)) Q E s := by
  subst hv
  have t1 : ∀ p ∈ nx, p ∈ (D2, PySem.W.listOf (refs its2).toArray 0) :: nx := fun p hp => .tail _ hp
  refine add_lists (vs := refs its) (ws := refs its2) F N ⟨_, (N _ (t1 _ hm)).1, rfl, n, rfl⟩ ⟨_, (N _ (.head _)).1, rfl, 0, rfl⟩ (fun h' F' N' => ?_) (by rw [sizeLine_eq, List.length_map, List.length_map]; omega)
  refine go _ h' (its ++ its2) ((D2, PySem.W.listOf (refs its2).toArray 0) :: nx) F' (fun p hp => ?_) (OffP.of_new fun p hp => Heap.lt_size (N p hp).1) ⟨fun p hp => ?_, fun p hp => ?_⟩ (NU.mono fun p hp => t1 p (hs p hp)) (by rw [List.length_append, k]; exact Nat.add_le_add_right hlen c)
  · rcases List.mem_append.mp hp with hp | hp
    · exact N' p (.tail _ hp)
    · rw [List.mem_singleton.mp hp]
      have z := N' _ (.head _)
      refine ⟨z.1.trans (congrArg some ?_), z.2⟩
      simp [ListO, refs]
  · rcases List.mem_append.mp hp with hp | hp
    · exact t1 _ (hs _ (P.1 p hp))
    · exact t1 _ (P2.1 p hp)
  · rcases List.mem_append.mp hp with hp | hp
    · exact ((P.mono hs).mono t1).2 p hp
    · exact (P2.mono t1).2 p hp
theorem size_P {its : Prs} {n : Nat} {tl : Led} {r : Value} {q : Rat} {k : Nat} (N : News h₀ L h (tl ++ (led ++ [(lp, ListO (refs its) n)]))) (R : RepV w tl r q k) (P : PairsOK w its led) (NU : Nums w led l) (off : OffP lp led) (ho : ∀ x ∈ led ++ [(lp, ListO (refs its) n)], ∀ p ∈ tl, @LT.lt Nat _ x.1 p.1) :
    ∃ led', News h₀ L h (led' ++ [(lp, ListO (refs its) n)]) ∧ OffP lp led' ∧ PairsOK w its led' ∧ Nums w led' ((r, q, k) :: l) := by
  refine ⟨tl ++ led, fun p hp => N p ?_, (OffP.of_ord ho (List.mem_append_right _ (.head _))).app off, P.mono fun p hp => List.mem_append_right _ hp, (NU.mono fun p hp => List.mem_append_right _ hp).add (R.mono fun p hp => List.mem_append_left _ hp)⟩
  rw [List.append_assoc] at hp
  exact hp
theorem fm4 (x : Int) : 0 ≤ x.fmod 4 ∧ x.fmod 4 < 4 := ⟨Int.fmod_nonneg_of_pos _ (by decide), Int.fmod_lt_of_pos _ (by decide)⟩
theorem fm4_le {x : Int} : x.fmod 4 ≤ 18 := by have := (fm4 x).2; omega
theorem fm4_ge {x : Int} : -18 ≤ x.fmod 4 := by have := (fm4 x).1; omega
theorem mul4 {x y : Int} (h : -6 ≤ y) (h' : y ≤ 6) : -18 ≤ x.fmod 4 * y ∧ x.fmod 4 * y ≤ 18 := by
  have ⟨a, b⟩ := fm4 x
  generalize x.fmod 4 = u at a b ⊢
  have : u = 0 ∨ u = 1 ∨ u = 2 ∨ u = 3 := by omega
  rcases this with rfl | rfl | rfl | rfl <;> omega
theorem mul4_le {x y : Int} (h : -6 ≤ y) (h' : y ≤ 6) : x.fmod 4 * y ≤ 18 := (mul4 h h').2
theorem mul4_ge {x y : Int} (h : -6 ≤ y) (h' : y ≤ 6) : -18 ≤ x.fmod 4 * y := (mul4 h h').1
theorem mul4_ok {x y : Int} (h : -6 ≤ y) (h' : y ≤ 6) : IntMulOk (x.fmod 4) y := by
  have ⟨a, b⟩ := fm4 x
  exact mulok (m := 3) (n := 3) (by omega) (by omega) (by decide)
theorem sign_lt (x : Int) : x.sign.natAbs < 2 ^ 1 := by
  rcases Int.lt_trichotomy x 0 with h | h | h
  · rw [Int.sign_eq_neg_one_of_neg h]; decide
  · rw [h]; decide
  · rw [Int.sign_eq_one_of_pos h]; decide
theorem sign_ok {x y : Int} : IntMulOk x.sign y.sign := mulok (sign_lt x) (sign_lt y) (by decide)
theorem RepV.whole_of {v : Value} {q : Rat} {k : Nat} {n : Int} (h : RepV w led v q k) (hd : q.den = 1) (hn : q.num = n) : ∃ t, v = .int n t := by
  subst hn
  exact h.whole hd
theorem end_P (N : News h₀ L h nx) (NU : Nums w led l) (hs : ∀ p ∈ led, p ∈ nx) : ∃ led', News h₀ L h led' ∧ Nums w led' l := ⟨led, fun p hp => N p (hs p hp), NU⟩
theorem start_nums {t1 t2 t3 : Led} {ra rb rc : Value} {qa qb qc : Rat} {vm vn vd : Value} {m₀ : Str → Option Value}
    (F : Fr h₀ L h (fun y => if y = Str.ofString "m" then some vm else if y = Str.ofString "n" then some vn else if y = Str.ofString "d" then some vd else if y = Str.ofString "a" then some ra else if y = Str.ofString "b" then some rb else if y = Str.ofString "c" then some rc else m₀ y))
    (N : News h₀ L h nx) (R1 : RepV w t1 ra qa 7) (R2 : RepV w t2 rb qb 7) (R3 : RepV w t3 rc qc 7) (h1 : qa ≠ 0) (h2 : qb ≠ 0) (h3 : qc ≠ 0) (s1 : ∀ p ∈ t1, p ∈ nx) (s2 : ∀ p ∈ t2, p ∈ nx) (s3 : ∀ p ∈ t3, p ∈ nx) :
    ∃ led qa qb qc, News h₀ L h led ∧ Nums w led [(ra, qa, 7), (rb, qb, 7), (rc, qc, 7)] ∧ qa ≠ 0 ∧ qb ≠ 0 ∧ qc ≠ 0 := by
  refine ⟨nx, qa, qb, qc, N, fun t ht => ?_, h1, h2, h3⟩
  simp only [List.mem_cons, List.mem_singleton, List.not_mem_nil, or_false] at ht
  rcases ht with rfl | rfl | rfl
  · exact R1.mono s1
  · exact R2.mono s2
  · exact R3.mono s3
theorem isi_ref {h₀ : Heap} {L : Addr} {m : Str → Option Value} {news : Led} {x dx : Addr} {n d : Int} {t1 t2 t3 t4 : Tok} {mean : ExcName → Option Value} {mg mb : Str → Option Value} {Q : Value → Shared → Prop}
    (F : Fr h₀ L s.heap m) (X : (hd.heap_39 w.params).In h₀) (N : News h₀ L s.heap news) (T : Top hd.view_39 (looseW hd.view_39 []) mean mg mb h₀) (m1 : (x, instObj 31 dx) ∈ news) (m2 : (dx, RD w n d t1 t2 t3 t4) ∈ news) (hq : ∀ tk, Q (.bool false) { s with toks := tk }) :
    wpAny (model PySem.Challenge.rw_pq1012_01.row.prog w) A (call (.builtin "isinstance") [.ref x, .type "int"]) Q E s := by
  revert X
  k_fill
  intro X
  walk1
  exact hq _
end
end Mine
local macro_rules | `(tactic| walk_at "my in") => `(tactic| exact List.Mem.head _)
local macro_rules | `(tactic| walk_at "my rep") => `(tactic| first
  | assumption
  | (refine' Mine.RepV.mono ?R ?s; (case R => assumption); (case s => walk_at "my sub"); done)
  | (refine' Mine.RepV.mono (Mine.Nums.get ?n ?k) ?s; (case n => assumption); (case k => k_mem); (case s => walk_at "my sub"); done)
  | exact Mine.RepV.one
  | exact Mine.RepV.zero)
local macro_rules | `(tactic| walk_at "my nz") => `(tactic| first
  | assumption
  | (refine Mine.zpow_ne ?_ _; walk_at "my nz")
  | (refine Mine.mul_ne ?_ ?_ <;> walk_at "my nz")
  | (refine Mine.div_ne ?_ ?_ <;> walk_at "my nz")
  | (refine Mine.rabs_ne ?_; walk_at "my nz")
  | (refine Mine.inv_ne ?_; walk_at "my nz")
  | exact Mine.one_ne)
local macro_rules | `(tactic| walk_at "my id") => `(tactic| first
  | rfl
  | exact Rat.zpow_add (by assumption) _ _
  | exact Mine.zpow_mul_rat _
  | exact Mine.zpow_zpow (by assumption) _ _
  | exact Mine.zpow_opp _
  | exact Mine.zpow_div _
  | exact Rat.zpow_zero _
  | exact Rat.zpow_one _
  | exact Mine.zpow_one_rat _
  | exact Rat.add_neg_cancel _
  | exact Rat.mul_inv_cancel _ (by assumption)
  | exact Rat.mul_add _ _ _
  | exact Mine.sub_sub
  | exact Mine.div_div
  | exact Rat.neg_neg _)
local macro_rules | `(tactic| walk_at "my lt") => `(tactic| first | assumption | exact Mine.allLt_mem (by assumption))
local macro_rules | `(tactic| walk_at "my offp") => `(tactic| first
  | assumption
  | (refine' Mine.OffP.cons (Mine.OffP.of_lt ?l ?m) ?a; (case l => walk_at "my lt"); (case m => walk_at "my in"); (case a => walk_at "my offp"))
  | (refine' Mine.OffP.app (Mine.OffP.of_ord ?l ?m) ?a; (case l => assumption); (case m => walk_at "my in"); (case a => walk_at "my offp")))
local macro_rules | `(tactic| walk_at "call builtin:list.append") => `(tactic| (k_here; (with_reducible show wpAny _ _ (call (Value.builtin _) [Value.ref _, Value.ref _]) _ _ _); k_dflt (refine' Mine.append_P ?F ?N ?sp ?P ?NU ?oT ?off ?hs ?R1 ?R2 ?e ?len ?hc ?_; (case F => k_asm); (case N => k_asm); (case sp => walk_at "my sp"); (case P => assumption); (case NU => assumption); (case oT => (refine' Mine.OffP.of_lt ?l ?m; (case l => walk_at "my lt"); (case m => walk_at "my in"))); (case off => walk_at "my offp"); (case hs => walk_at "my sub"); (case R1 => walk_at "my rep"); (case R2 => walk_at "my rep"); (case e => walk_at "my id"); (case len => assumption); (case hc => decide); intro h' its' led' F' N' off' P' NU' len'; walk_at "my tail")))
local macro_rules | `(tactic| walk_at "my nat") => `(tactic| first | exact Mine.fm4_le | exact Mine.fm4_ge | exact Mine.mul4_le (by omega) (by omega) | exact Mine.mul4_ge (by omega) (by omega))
local macro_rules | `(tactic| walk_at "my mul") => `(tactic| exact Mine.mul4_ok (by omega) (by omega))
local macro_rules | `(tactic| walk_at "my pok") => `(tactic| (refine' Mine.PairsOK.mono ?P ?s; (case P => assumption); (case s => walk_at "my sub")))
local macro_rules | `(tactic| walk_at "my mul") => `(tactic| exact Mine.sign_ok)
local macro_rules | `(tactic| walk_at "my ctB") => `(tactic| (refine' Mine.alike_c ?p0 ?p1 ?p2; (case p0 => walk_at "my in"); (case p1 => walk_at "my pok"); (case p2 => walk_at "my nat")))
namespace Mine
theorem start_well {h₀ h : Heap} {L lw lv D0 : Addr} {ys : List Value} {l : List Int} {n1 : Nat} {k : Int} {t : Tok} {o0 : Obj}
    (hI : IntsAre ys (l.map fun k' => if k' < 0 then -k' else k')) (N : News h₀ L h [(lw, PySem.W.listOf #[.ref lv, .int k t] n1), (lv, LCg.lst ys), (D0, o0)]) (l1 : @LT.lt Nat _ lv lw ∧ @LT.lt Nat _ D0 lw)
    (hlen : ys.length ≤ 64) (hk : 0 ≤ k) (hk' : k < 65537) :
    ∃ wb, News h₀ L h ([] ++ wb) ∧ Wb lw lv wb ∧ Off lw lv [] ∧ lv ≠ lw := by
  refine ⟨_, fun p hp => ?_, Wb.mk (t := t) (n := ys.length) (n2 := n1) hI (fun z hz => ?_) hlen hk hk', Off.nil, Nat.ne_of_lt l1.1⟩
  · rcases List.mem_cons.mp hp with rfl | hp
    · exact N _ (.tail _ (.head _))
    · rw [List.mem_singleton.mp hp]; exact N _ (.head _)
  · obtain ⟨y, _, rfl⟩ := List.mem_map.mp hz
    split <;> omega
end Mine
theorem PySem.Challenge.cw_pq1012_01_holds : PySem.Challenge.rw_pq1012_01.Holds :=
  Mine.hd (by
  k_go0
  (all_goals try k_fold)
  repeat' ((fail_if_success (with_reducible show wpAny _ _ (call (Value.ref 189) _) _ _ _)); walk1)
  rename IntsAre _ (List.map _ _) => hI8
  have hl8 := hI8.length
  simp only [List.length_map, List.length_take] at hl8
  obtain ⟨wb9, N9, W9, off9, hne9⟩ := Mine.start_well hI8 (by assumption) (by assumption) (by omega) (by omega) (by omega)
  rename News _ _ _ (_ :: _) => N8
  clear N8
  repeat' ((fail_if_success (with_reducible show wpAny _ _ (execs (Stmt.Assign [Expr.Name (Str.ofString "pairs") _] _ _ :: _) _) _ _ _)); walk1)
  obtain ⟨led9, qa, qb, qc, N9, NU9, ha9, hb9, hc9⟩ := Mine.start_nums (by assumption) (by assumption) (by assumption) (by assumption) (by assumption) (by assumption) (by assumption) (by assumption) (by walk_at "my sub") (by walk_at "my sub") (by walk_at "my sub")
  repeat (rename Mine.RepV _ _ _ _ _ => x9; clear x9)
  repeat (rename News _ _ _ (_ ++ _) => x9; clear x9)
  repeat (rename News _ _ _ (_ :: _) => x9; clear x9)
  repeat (rename Mine.Wb _ _ _ => x9; clear x9)
  repeat (rename Mine.Off _ _ _ => x9; clear x9)
  iterate 2 walk1
  repeat' ((fail_if_success (with_reducible show wpAny _ _ (execs _ _) _ _ _)); walk1)
  obtain ⟨its1, led1, N1, off1, P1, NU1, len1⟩ := Mine.made_P (c := 1) (its := [] ++ [(_, _, _)]) (by assumption) rfl (Mine.PairsOK.snoc Mine.PairsOK.nil (List.Mem.head _) (by walk_at "my rep") (by walk_at "my rep") (by walk_at "my id")) NU9 (by walk_at "my sub") (by walk_at "my lt") (Nat.le_refl _)
  repeat (rename Mine.RepV _ _ _ _ _ => x9; clear x9)
  repeat (rename News _ _ _ (_ :: _) => x9; clear x9)
  repeat (rename ∀ q ∈ _, ∀ p ∈ _, _ => x9; clear x9)
  clear NU9
  iterate 2 walk1
  repeat' ((fail_if_success (with_reducible show wpAny _ _ (execs (Stmt.Assign _ _ _ :: _) _) _ _ _)); walk1)
  repeat (rename Mine.RepV _ _ _ _ _ => x9; clear x9)
  repeat (rename ∀ q ∈ _, ∀ p ∈ _, _ => x9; clear x9)
  iterate 2 walk1
  repeat' ((fail_if_success (with_reducible show wpAny _ _ (binaryOp _ (Value.ref _) (Value.ref _)) _ _ _)); walk1)
  k_dflt (refine' Mine.add_P (its2 := (([] ++ [(_, _, _)]) ++ [(_, _, _)]) ++ [(_, _, _)]) (c := 3) ?yF ?yN ?yhm ?yhv ?yP ?yP2 ?yNU ?yhs ?yk ?yhc ?ylen ?yhc0 ?_; (case yF => k_asm); (case yN => k_asm); (case yhv => exact rfl); (case yP => assumption); (case yhm => walk_at "my in"); (case yNU => assumption); (case yhs => walk_at "my sub"); (case yk => exact rfl); (case yhc => decide); (case ylen => assumption); (case yhc0 => decide))
  case yP2 =>
    refine' Mine.PairsOK.snoc (Mine.PairsOK.snoc (Mine.PairsOK.snoc Mine.PairsOK.nil ?ym1 ?ya1 ?yb1 ?ye1) ?ym2 ?ya2 ?yb2 ?ye2) ?ym3 ?ya3 ?yb3 ?ye3
    case ym1 => walk_at "my in"
    case ym2 => walk_at "my in"
    case ym3 => walk_at "my in"
    case ya1 => walk_at "my rep"
    case ya2 => walk_at "my rep"
    case ya3 => walk_at "my rep"
    case yb1 => walk_at "my rep"
    case yb2 => walk_at "my rep"
    case yb3 => walk_at "my rep"
    all_goals walk_at "my id"
  intro D9 h9 its9 led9 F9 N9 off9 P9 NU9 len9
  walk_at "my tail"
  repeat' ((fail_if_success (with_reducible show wpAny _ _ (execs (Stmt.Assign _ _ _ :: _) _) _ _ _)); walk1)
  repeat (rename Mine.RepV _ _ _ _ _ => x9; clear x9)
  repeat (rename ∀ q ∈ _, ∀ p ∈ _, _ => x9; clear x9)
  iterate 2 walk1
  repeat' ((fail_if_success (with_reducible show wpAny _ _ (execs _ _) _ _ _)); walk1)
  obtain ⟨led2, N2, off2, P2, NU2⟩ := Mine.size_P (by assumption) (by assumption) (by assumption) (by assumption) (by assumption) (by assumption)
  repeat (rename Mine.RepV _ _ _ _ _ => x9; clear x9)
  repeat (rename ∀ q ∈ _, ∀ p ∈ _, _ => x9; clear x9)
  have hp9 := Mine.rabs_pos ha9
  have hr9 := NU2 _ (.head _)
  have hb19 : (Mine.rabs qa).num.natAbs < 2 ^ 7 := hr9.num_lt
  have hb29 : (((Mine.rabs qa).den : Nat) : Int).natAbs < 2 ^ 7 := hr9.den_lt (show 0 < 7 by decide)
  clear hr9
  iterate 2 walk1
  repeat' ((fail_if_success (with_reducible show wpAny _ _ (execs (Stmt.If _ _ _ _ :: _) _) _ _ _)); walk1)
  repeat (rename Mine.RepV _ _ _ _ _ => x9; clear x9)
  repeat (rename ∀ q ∈ _, ∀ p ∈ _, _ => x9; clear x9)
  iterate 3 walk1
  repeat' ((fail_if_success (with_reducible show wpAny _ _ (execs (Stmt.If _ _ _ _ :: _) _) _ _ _)); walk1)
  iterate 3 walk1
  repeat' ((fail_if_success (with_reducible show wpAny _ _ (execs (Stmt.If _ _ _ _ :: _) _) _ _ _)); walk1)
  all_goals try exact absurd (Mine.cmp_sub qa qb) (by assumption)
  all_goals try exact absurd (Mine.cmp_swap qa qb) (by assumption)
  iterate 3 walk1
  repeat' ((fail_if_success (with_reducible show wpAny _ _ (execs (Stmt.If _ _ _ _ :: _) _) _ _ _)); walk1)
  all_goals try exact absurd (Mine.cmp_add qa qb qc) (by assumption)
  iterate 3 walk1
  repeat' ((fail_if_success (with_reducible show wpAny _ _ (execs (Stmt.If _ _ _ _ :: _) _) _ _ _)); walk1)
  all_goals try exact absurd (Mine.sign_mul qa qb) (by assumption)
  obtain ⟨led4, N4, NU4⟩ := Mine.end_P (by assumption) (by assumption) (by walk_at "my sub")
  repeat (rename Mine.RepV _ _ _ _ _ => x9; clear x9)
  repeat (rename ∀ q ∈ _, ∀ p ∈ _, _ => x9; clear x9)
  repeat (rename News _ _ _ (_ ++ _) => x9; clear x9)
  have R9 := NU4 _ (.head _)
  dsimp only at R9
  by_cases hd9 : (Mine.rabs qa).den = 1
  · obtain ⟨t9, e9⟩ := R9.whole hd9
    subst e9
    repeat' ((fail_if_success (with_reducible show wpAny _ _ (binaryOp Operator.Add _ _) _ _ _)); walk1)
    · rename Mine.RepV _ _ _ (Mine.rabs qa ^ _) _ => R10
      obtain ⟨t10, e10⟩ := R10.whole_of (Mine.pow_den _ _ (by omega) hd9) (Mine.pow_num _ _ (by omega))
      subst e10
      k_steps
    · k_steps
  · obtain ⟨x9, dx9, t91, t92, t93, t94, e9, m91, m92⟩ := R9.parts hd9
    subst e9
    repeat' ((fail_if_success (with_reducible show wpAny _ _ (call (Value.builtin _) [Value.ref _, Value.type _]) _ _ _)); walk1)
    k_dflt (refine' Mine.isi_ref ?yF ?yX ?yN ?yT m91 m92 ?_; (case yF => k_asm); (case yX => k_asm); (case yN => k_asm); (case yT => k_asm))
    intro tk9
    walk_at "my tail"
    k_steps)
