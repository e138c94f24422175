import PyProof.Rows.All
import Wide.All
import OpenK.AllK
import Wide.FinOn
import KE.KStateDown
import HandS.ForMost
import HandS.Defaults
import HandS.Head0
import HandS.Head1
import HandS.Head2
import HandS.Head3
import HandS.HeadEnd
import HandS.HeadHook1
import HandS.HeadHook2
import HandS.Gcd
import HandS.Wide
import HandS.IsInst
import HandS.Deep
import HandS.Style
import HandS.TupAny
import HandS.Flow
import HandS.Sort
import HandS.Conv
import HandS.Walk
import HandS.CallRecv
import KE.GoesEnum
import PyProof.EnumMake
import PySem.Challenge.RW_cushioned_k34_whole_falls_on_great_table
set_option Elab.async false
set_option linter.all false
section
set_option linter.all false
namespace K34
/-! ### gcd: the law's loop of 400 turns -/
def SameDiv (u v A B : Int) : Prop := ∀ d : Int, (d ∣ u ∧ d ∣ v) ↔ (d ∣ A ∧ d ∣ B)
theorem SameDiv.refl (A B : Int) : SameDiv A B A B := fun _ => Iff.rfl
theorem SameDiv.turn {u v A B : Int} (h : SameDiv u v A B) : SameDiv v (u % v) A B := fun d => by
  rw [← h d]
  have e : v * (u / v) + u % v = u := Int.mul_ediv_add_emod u v
  constructor
  · rintro ⟨h1, h2⟩
    refine ⟨?_, h1⟩
    rw [← e]
    exact Int.dvd_add (Int.dvd_trans h1 (Int.dvd_mul_right _ _)) h2
  · rintro ⟨h1, h2⟩
    refine ⟨h2, ?_⟩
    have q : u % v = u - v * (u / v) := by omega
    rw [q]
    exact Int.dvd_sub h1 (Int.dvd_trans h2 (Int.dvd_mul_right _ _))
theorem SameDiv.fin {u A B : Int} (h : SameDiv u 0 A B) (hu : 0 < u) : u = (Int.gcd A B : Int) := by
  have h1 := (h u).mp ⟨Int.dvd_refl u, Int.dvd_zero u⟩
  have h2 : u ∣ (Int.gcd A B : Int) := Int.dvd_coe_gcd h1.1 h1.2
  have h3 := (h (Int.gcd A B : Int)).mpr ⟨Int.gcd_dvd_left A B, Int.gcd_dvd_right A B⟩
  exact Int.dvd_antisymm (by omega) (by omega) h2 h3.1
/-- what the turns of the law's two loops keep of their numbers -/
structure Pot (A B : Int) (i : Nat) (u v : Int) : Prop where
  pos : 0 < u
  nn : 0 ≤ v
  lt : i ≠ 0 → v < u
  pot : v = 0 ∨ u * v * 2 ^ (i - 1) ≤ A * B
theorem Pot.start {A B : Int} (hA : 0 < A) (hB : 0 ≤ B) : Pot A B 0 A B :=
  ⟨hA, hB, fun h => (h rfl).elim, .inr (by
    show A * B * 2 ^ 0 ≤ A * B
    rw [Int.pow_zero]; omega)⟩
theorem half_mod {u v : Int} (h0 : 0 < v) (h : v < u) : 2 * (u % v) ≤ u := by
  have e : v * (u / v) + u % v = u := Int.mul_ediv_add_emod u v
  have h1 : u % v < v := Int.emod_lt_of_pos _ h0
  have h2 : 1 ≤ u / v := by
    have : 0 < u / v := Int.ediv_pos_of_pos_of_dvd_or u v h0 h
    omega
  have h3 : v * 1 ≤ v * (u / v) := Int.mul_le_mul_of_nonneg_left h2 (by omega)
  omega
where
  Int.ediv_pos_of_pos_of_dvd_or (u v : Int) (h0 : 0 < v) (h : v < u) : 0 < u / v := by
    have := Int.le_ediv_of_mul_le (a := 1) (b := u) h0 (by omega)
    omega
theorem Pot.turn {A B : Int} {i : Nat} {u v : Int} (h : Pot A B i u v) (hv : v > 0) : Pot A B (i + 1) v (u % v) := by
  have h0 : 0 ≤ u % v := Int.emod_nonneg _ (by omega)
  have h1 : u % v < v := Int.emod_lt_of_pos _ hv
  refine ⟨hv, h0, fun _ => h1, ?_⟩
  by_cases hz : u % v = 0
  · exact .inl hz
  refine .inr ?_
  have hp : u * v * 2 ^ (i - 1) ≤ A * B := by
    rcases h.pot with q | q
    · omega
    · exact q
  cases i with
  | zero =>
    show v * (u % v) * 2 ^ 0 ≤ A * B
    have hp' : u * v * 2 ^ 0 ≤ A * B := hp
    rw [Int.pow_zero] at hp' ⊢
    have hm : u % v ≤ u := Int.emod_le_self_of_nn u v (by have := h.pos; omega) hv
    have h3 : v * (u % v) ≤ v * u := Int.mul_le_mul_of_nonneg_left hm (by omega)
    have e2 : v * u = u * v := Int.mul_comm v u
    omega
  | succ j =>
    show v * (u % v) * 2 ^ (j + 1) ≤ A * B
    have hp' : u * v * 2 ^ j ≤ A * B := hp
    have hl := h.lt (by omega)
    have h2 := half_mod hv hl
    have h3 : v * (2 * (u % v)) ≤ v * u := Int.mul_le_mul_of_nonneg_left h2 (by omega)
    have h4 : v * (2 * (u % v)) * 2 ^ j ≤ v * u * 2 ^ j := Int.mul_le_mul_of_nonneg_right h3 (Int.pow_nonneg (by decide))
    have e1 : v * (u % v) * 2 ^ (j + 1) = v * (2 * (u % v)) * 2 ^ j := by
      rw [Int.pow_succ]; simp only [Int.mul_assoc, Int.mul_comm, Int.mul_left_comm]
    have e2 : v * u * 2 ^ j = u * v * 2 ^ j := by rw [Int.mul_comm v u]
    omega
where
  Int.emod_le_self_of_nn (u v : Int) (h : 0 ≤ u) (hv : 0 < v) : u % v ≤ u := by
    have e : v * (u / v) + u % v = u := Int.mul_ediv_add_emod u v
    have h1 : 0 ≤ u / v := Int.ediv_nonneg h (by omega)
    have h2 : 0 ≤ v * (u / v) := Int.mul_nonneg (by omega) h1
    omega
theorem Pot.stay {A B : Int} {i : Nat} {u v : Int} (h : Pot A B i u v) (hv : ¬ v > 0) : Pot A B (i + 1) u v := by
  have h0 := h.nn
  have h1 := h.pos
  exact ⟨h1, h0, fun _ => by omega, .inl (by omega)⟩
theorem Pot.fin {A B : Int} {u v : Int} (h : Pot A B 400 u v) (hA0 : 0 < A) (hB0 : 0 ≤ B) (hA : A < 2 ^ 190) (hB : B < 2 ^ 190) : v = 0 := by
  have h1 := h.pos
  have h2 := h.nn
  rcases h.pot with q | q
  · exact q
  · by_cases hv : v = 0
    · exact hv
    · exfalso
      have e : A * B ≤ 2 ^ 190 * 2 ^ 190 := Int.mul_le_mul (by omega) (by omega) hB0 (by decide)
      have p1 : 1 * 1 ≤ u * v := Int.mul_le_mul (by omega) (by omega) (by decide) (by omega)
      have p2 : 1 * 2 ^ (400 - 1) ≤ u * v * 2 ^ (400 - 1) := Int.mul_le_mul_of_nonneg_right (by omega) (Int.pow_nonneg (by decide))
      have p3 : (2 : Int) ^ 190 * 2 ^ 190 < 1 * 2 ^ (400 - 1) := by decide +kernel
      omega
end K34
end
section
set_option linter.all false
namespace K34
/-! ### inverse: both loops -/
theorem abs_step (s t q : Int) (hq : 0 ≤ q) : ((s - q * t).natAbs : Int) ≤ s.natAbs + q * t.natAbs := by
  have h1 := Int.natAbs_sub_le s (q * t)
  have h2 : ((q * t).natAbs : Int) = q * t.natAbs := by
    rw [Int.natAbs_mul]; push_cast
    rw [show ((q.natAbs : Nat) : Int) = q by omega]
  omega
/-- (u, s), (v, t): u = s * a and v = t * a modulo m; the sizes of s and t -/
structure Euc (a m u s v t : Int) : Prop where
  pos : 0 < u
  nn : 0 ≤ v
  hm : 0 < m
  cs : m ∣ s * a - u
  ct : m ∣ t * a - v
  bnd : (s.natAbs : Int) * v + (t.natAbs : Int) * u ≤ m
  sm : (s.natAbs : Int) ≤ m
theorem Euc.start {a m : Int} (ha : 0 < a) (hm : 0 < m) : Euc a m a 1 m 0 :=
  ⟨ha, by omega, hm, ⟨0, by omega⟩, ⟨-1, by omega⟩, by simp, by simp; omega⟩
theorem Euc.tm {a m u s v t : Int} (h : Euc a m u s v t) : (t.natAbs : Int) ≤ m := by
  have h1 : (t.natAbs : Int) * 1 ≤ (t.natAbs : Int) * u := Int.mul_le_mul_of_nonneg_left (by have := h.pos; omega) (by omega)
  have h2 : 0 ≤ (s.natAbs : Int) * v := Int.mul_nonneg (by omega) h.nn
  have := h.bnd
  omega
theorem Euc.turn {a m u s v t : Int} (h : Euc a m u s v t) (hv : 0 < v) : Euc a m v t (u - u / v * v) (s - u / v * t) := by
  have e : u / v * v + u % v = u := Int.ediv_mul_add_emod u v
  have h0 : 0 ≤ u % v := Int.emod_nonneg _ (by omega)
  have hq : 0 ≤ u / v := Int.ediv_nonneg (by have := h.pos; omega) (by omega)
  generalize hqq : u / v = q at *
  refine ⟨hv, by omega, h.hm, h.ct, ?_, ?_, h.tm⟩
  · obtain ⟨x, hx⟩ := h.cs
    obtain ⟨y, hy⟩ := h.ct
    refine ⟨x - q * y, ?_⟩
    have e1 : (s - q * t) * a - (u - q * v) = (s * a - u) - q * (t * a - v) := by
      rw [Int.sub_mul, Int.mul_sub, Int.mul_assoc]; omega
    rw [e1, hx, hy, Int.mul_sub]
    rw [show q * (m * y) = m * (q * y) by rw [Int.mul_left_comm]]
  · have h1 := abs_step s t q hq
    have h2 : ((s - q * t).natAbs : Int) * v ≤ (s.natAbs + q * t.natAbs) * v := Int.mul_le_mul_of_nonneg_right h1 (by omega)
    have h3 := h.bnd
    rw [Int.add_mul] at h2
    rw [Int.mul_sub]
    have e2 : (t.natAbs : Int) * (q * v) = q * t.natAbs * v := by rw [Int.mul_assoc, Int.mul_left_comm]
    omega
theorem Euc.eq_mod (u v : Int) : u - u / v * v = u % v := by
  have e : u / v * v + u % v = u := Int.ediv_mul_add_emod u v
  omega
/-- behind the loop: what is 1 modulo m -/
theorem Euc.fin {a m s t : Int} (h : Euc a m 1 s 0 t) : m ∣ (s % m) * a - 1 := by
  obtain ⟨x, hx⟩ := h.cs
  have e : s / m * m + s % m = s := Int.ediv_mul_add_emod s m
  refine ⟨x - s / m * a, ?_⟩
  have e1 : s % m = s - s / m * m := by omega
  rw [e1, Int.sub_mul, Int.mul_sub]
  have e2 : s / m * m * a = m * (s / m * a) := by rw [Int.mul_comm (s / m) m, Int.mul_assoc]
  omega
/-! ### two classes -/
theorem mod_iff {m r T : Int} (hm : 0 < m) (h0 : 0 ≤ r) (h1 : r < m) : T % m = r ↔ m ∣ T - r := by
  constructor
  · intro h
    refine ⟨T / m, ?_⟩
    have e : m * (T / m) + T % m = T := Int.mul_ediv_add_emod T m
    omega
  · rintro ⟨k, hk⟩
    have e : T = r + m * k := by omega
    rw [e, Int.add_mul_emod_self_left]
    exact Int.emod_eq_of_lt h0 h1
/-- no number is in both -/
theorem crt_none {r1 m1 r2 m2 g : Int} (h1 : 0 < m1) (h2 : 0 < m2) (g1 : g ∣ m1) (g2 : g ∣ m2) (a0 : 0 ≤ r1) (a1 : r1 < m1) (b0 : 0 ≤ r2) (b1 : r2 < m2) (h : ¬ g ∣ r2 - r1) (T : Int) : ¬ (T % m1 = r1 ∧ T % m2 = r2) := by
  rintro ⟨x, y⟩
  have x' := Int.dvd_trans g1 ((mod_iff h1 a0 a1).mp x)
  have y' := Int.dvd_trans g2 ((mod_iff h2 b0 b1).mp y)
  apply h
  have := Int.dvd_sub x' y'
  rw [show T - r1 - (T - r2) = r2 - r1 by omega] at this
  exact this
/-- the class of both -/
theorem crt_some {r1 m1 r2 m2 g k inv : Int} {p b : Int} (hg : 0 < g) (h1 : 0 < m1) (h2 : 0 < m2) (e1 : m1 = g * p) (e2 : m2 = g * b) (a0 : 0 ≤ r1) (a1 : r1 < m1) (b0 : 0 ≤ r2) (b1 : r2 < m2)
    (hk : r2 - r1 = g * k) (hi : b ∣ inv * p - 1) (T : Int) :
    T % (m1 * b) = (r1 + m1 * ((k * inv) % b)) % (m1 * b) ↔ (T % m1 = r1 ∧ T % m2 = r2) := by
  have hb : 0 < b := by
    apply Int.pos_of_mul_pos_right' hg
    omega
  have hp : 0 < p := by
    apply Int.pos_of_mul_pos_right' hg
    omega
  have hL : 0 < m1 * b := Int.mul_pos h1 hb
  generalize hy : r1 + m1 * ((k * inv) % b) = y
  have y1 : m1 ∣ y - r1 := ⟨(k * inv) % b, by omega⟩
  obtain ⟨z, hz⟩ := hi
  have y2 : m2 ∣ y - r2 := by
    have e3 : b * (k * inv / b) + (k * inv) % b = k * inv := Int.mul_ediv_add_emod _ _
    refine ⟨k * z - p * (k * inv / b), ?_⟩
    have e4 : (k * inv) % b = k * inv - b * (k * inv / b) := by omega
    rw [← hy, e4]
    generalize k * inv / b = w
    have e5 : y - r2 = y - r1 - (r2 - r1) := by omega
    rw [show r1 + m1 * (k * inv - b * w) - r2 = m1 * (k * inv - b * w) - (r2 - r1) by omega, hk, e1, e2]
    have e6 : inv * p = b * z + 1 := by omega
    have e7 : g * p * (k * inv - b * w) = g * (k * (inv * p)) - g * b * (p * w) := by
      rw [Int.mul_sub]
      congr 1
      · simp only [Int.mul_assoc, Int.mul_comm, Int.mul_left_comm]
      · simp only [Int.mul_assoc, Int.mul_comm, Int.mul_left_comm]
    rw [e7, e6, Int.mul_add, Int.mul_add, Int.mul_sub]
    have e8 : g * (k * (b * z)) = g * b * (k * z) := by simp only [Int.mul_assoc, Int.mul_comm, Int.mul_left_comm]
    rw [e8, Int.mul_one]
    omega
  have big : T % (m1 * b) = y % (m1 * b) ↔ m1 * b ∣ T - y := by
    rw [Int.emod_eq_emod_iff_emod_sub_eq_zero]
    exact ⟨Int.dvd_of_emod_eq_zero, Int.emod_eq_zero_of_dvd⟩
  rw [big, mod_iff h1 a0 a1, mod_iff h2 b0 b1]
  constructor
  · rintro ⟨c, hc⟩
    constructor
    · have : m1 ∣ T - y := ⟨b * c, by rw [hc, Int.mul_assoc]⟩
      have := Int.dvd_add this y1
      rwa [show T - y + (y - r1) = T - r1 by omega] at this
    · have : m2 ∣ T - y := ⟨p * c, by rw [hc, e1, e2]; simp only [Int.mul_assoc, Int.mul_comm, Int.mul_left_comm]⟩
      have := Int.dvd_add this y2
      rwa [show T - y + (y - r2) = T - r2 by omega] at this
  · rintro ⟨q1, q2⟩
    have d1 : m1 ∣ T - y := by
      have := Int.dvd_sub q1 y1
      rwa [show T - r1 - (y - r1) = T - y by omega] at this
    have d2 : m2 ∣ T - y := by
      have := Int.dvd_sub q2 y2
      rwa [show T - r2 - (y - r2) = T - y by omega] at this
    obtain ⟨c, hc⟩ := d1
    obtain ⟨d, hd⟩ := d2
    -- g p c = g b d, so p c = b d; c = (inv p - b z) c = inv b d - b z c
    have e9 : p * c = b * d := by
      have : g * (p * c) = g * (b * d) := by
        rw [← Int.mul_assoc, ← Int.mul_assoc, ← e1, ← e2]; omega
      exact Int.eq_of_mul_eq_mul_left (by omega) this
    have e10 : c = b * (inv * d - z * c) := by
      have : (inv * p) * c = inv * (b * d) := by rw [Int.mul_assoc, e9]
      rw [show inv * p = b * z + 1 by omega, Int.add_mul, Int.one_mul] at this
      rw [Int.mul_sub]
      have q1 : inv * (b * d) = b * (inv * d) := by simp only [Int.mul_assoc, Int.mul_comm, Int.mul_left_comm]
      have q2 : b * (z * c) = b * z * c := by rw [Int.mul_assoc]
      omega
    refine ⟨inv * d - z * c, ?_⟩
    rw [Int.mul_assoc, ← e10]
    exact hc
where
  Int.pos_of_mul_pos_right' {g b : Int} (hg : 0 < g) (h : 0 < g * b) : 0 < b := by
    by_cases hb : 0 < b
    · exact hb
    · exfalso
      have : g * b ≤ g * 0 := Int.mul_le_mul_of_nonneg_left (by omega) (by omega)
      omega
end K34
end
section
namespace K34
/-! ### the two quotients by the gcd -/
structure Cop (m1 m2 g p b : Int) : Prop where
  g0 : 0 < g
  e1 : m1 = g * p
  e2 : m2 = g * b
  p0 : 0 < p
  b0 : 0 < b
  one : Int.gcd p b = 1
theorem cop {m1 m2 : Int} (h1 : 0 < m1) (h2 : 0 < m2) : Cop m1 m2 (Int.gcd m1 m2) (m1 / (Int.gcd m1 m2 : Int)) (m2 / (Int.gcd m1 m2 : Int)) := by
  have gn : 0 < Int.gcd m1 m2 := Int.gcd_pos_of_ne_zero_left _ (by omega)
  have g0 : (0 : Int) < (Int.gcd m1 m2 : Int) := by omega
  have d1 : m1 = (Int.gcd m1 m2 : Int) * (m1 / (Int.gcd m1 m2 : Int)) := (Int.mul_ediv_cancel' (Int.gcd_dvd_left m1 m2)).symm
  have d2 : m2 = (Int.gcd m1 m2 : Int) * (m2 / (Int.gcd m1 m2 : Int)) := (Int.mul_ediv_cancel' (Int.gcd_dvd_right m1 m2)).symm
  have p0 : 0 < m1 / (Int.gcd m1 m2 : Int) := Int.ediv_pos_of_pos_of_dvd h1 (by omega) (Int.gcd_dvd_left m1 m2)
  have b0 : 0 < m2 / (Int.gcd m1 m2 : Int) := Int.ediv_pos_of_pos_of_dvd h2 (by omega) (Int.gcd_dvd_right m1 m2)
  refine ⟨g0, d1, d2, p0, b0, ?_⟩
  have h := Nat.coprime_div_gcd_div_gcd (m := m1.natAbs) (n := m2.natAbs) gn
  have q1 : (m1 / (Int.gcd m1 m2 : Int)).natAbs = m1.natAbs / Nat.gcd m1.natAbs m2.natAbs := by
    have : (m1 / (Int.gcd m1 m2 : Int)) = ((m1.natAbs / Nat.gcd m1.natAbs m2.natAbs : Nat) : Int) := by
      rw [Int.natCast_ediv]
      congr 1
      omega
    omega
  have q2 : (m2 / (Int.gcd m1 m2 : Int)).natAbs = m2.natAbs / Nat.gcd m1.natAbs m2.natAbs := by
    have : (m2 / (Int.gcd m1 m2 : Int)) = ((m2.natAbs / Nat.gcd m1.natAbs m2.natAbs : Nat) : Int) := by
      rw [Int.natCast_ediv]
      congr 1
      omega
    omega
  show Nat.gcd _ _ = 1
  rw [q1, q2]
  exact h
/-! ### classes -/
abbrev C2 := Int × Int
def MemC (cs : List C2) (T : Int) : Prop := ∃ c ∈ cs, T % c.2 = c.1
structure OkC (cs : List C2) (m : Int) : Prop where
  pos : 0 < m
  all : ∀ c ∈ cs, c.2 = m ∧ 0 ≤ c.1 ∧ c.1 < m
/-- the class of the common numbers: the wish -/
def ChinR (c d : C2) (x : Int) : Prop := (0 ≤ x ∧ x < c.2 * (d.2 / (Int.gcd c.2 d.2 : Int))) ∧ x % c.2 = c.1 ∧ x % d.2 = d.1
open Classical in
noncomputable def chin (c d : C2) : Option C2 :=
  if (Int.gcd c.2 d.2 : Int) ∣ d.1 - c.1 then some (epsilon (ChinR c d), c.2 * (d.2 / (Int.gcd c.2 d.2 : Int))) else none
/-- a class that may be -/
structure Ok1 (c : C2) : Prop where
  pos : 0 < c.2
  lo : 0 ≤ c.1
  hi : c.1 < c.2
theorem chin_uniq {c d : C2} (hc : Ok1 c) (hd : Ok1 d) {x y : Int} (hx : ChinR c d x) (hy : ChinR c d y) : x = y := by
  have P := cop hc.pos hd.pos
  obtain ⟨⟨x0, x1⟩, x2, x3⟩ := hx
  obtain ⟨⟨y0, y1⟩, y2, y3⟩ := hy
  have a1 : c.2 ∣ x - y := by
    have := Int.dvd_sub ((mod_iff hc.pos hc.lo hc.hi).mp x2) ((mod_iff hc.pos hc.lo hc.hi).mp y2)
    rwa [show x - c.1 - (y - c.1) = x - y by omega] at this
  have a2 : d.2 ∣ x - y := by
    have := Int.dvd_sub ((mod_iff hd.pos hd.lo hd.hi).mp x3) ((mod_iff hd.pos hd.lo hd.hi).mp y3)
    rwa [show x - d.1 - (y - d.1) = x - y by omega] at this
  generalize hL : c.2 * (d.2 / (Int.gcd c.2 d.2 : Int)) = L at *
  have dv : L ∣ x - y := by
    have h1 : (Int.lcm c.2 d.2 : Int) ∣ x - y := Int.coe_lcm_dvd a1 a2
    have h2 : (Int.lcm c.2 d.2 : Int) = L := by
      have e : Int.gcd c.2 d.2 * Int.lcm c.2 d.2 = (c.2 * d.2).natAbs := by rw [Int.natAbs_mul]; exact Int.gcd_mul_lcm c.2 d.2
      have p : 0 < c.2 * d.2 := Int.mul_pos hc.pos hd.pos
      have e' : (Int.gcd c.2 d.2 : Int) * (Int.lcm c.2 d.2 : Int) = c.2 * d.2 := by
        have : ((Int.gcd c.2 d.2 * Int.lcm c.2 d.2 : Nat) : Int) = ((c.2 * d.2).natAbs : Nat) := by rw [e]
        rw [Int.natCast_mul] at this
        omega
      have e2 : (Int.gcd c.2 d.2 : Int) * L = c.2 * d.2 := by
        rw [← hL, Int.mul_left_comm, ← P.e2]
      exact Int.eq_of_mul_eq_mul_left (by have := P.g0; omega) (e'.trans e2.symm)
    rwa [h2] at h1
  have r1 := Int.emod_eq_of_lt x0 x1
  have r2 := Int.emod_eq_of_lt y0 y1
  have := Int.emod_eq_emod_iff_emod_sub_eq_zero.mpr (Int.emod_eq_zero_of_dvd dv)
  omega
theorem chin_none {c d : C2} (h : ¬ (Int.gcd c.2 d.2 : Int) ∣ d.1 - c.1) : chin c d = none := by
  unfold chin; rw [if_neg h]
theorem chin_some {c d : C2} (hc : Ok1 c) (hd : Ok1 d) (h : (Int.gcd c.2 d.2 : Int) ∣ d.1 - c.1) {x : Int} (hx : ChinR c d x) : chin c d = some (x, c.2 * (d.2 / (Int.gcd c.2 d.2 : Int))) := by
  unfold chin
  rw [if_pos h]
  have : ChinR c d (Classical.epsilon (ChinR c d)) := Classical.epsilon_spec ⟨x, hx⟩
  rw [chin_uniq hc hd this hx]
/-- what both programs reckon -/
theorem chin_is {c d : C2} (hc : Ok1 c) (hd : Ok1 d) {g p b k inv : Int} (hg : g = (Int.gcd c.2 d.2 : Int)) (hp : p = c.2 / g) (hb : b = d.2 / g) (hk : k = (d.1 - c.1) / g) (h : (d.1 - c.1) % g = 0)
    (hi : b ∣ inv * p - 1) : chin c d = some ((c.1 + c.2 * ((k * inv) % b)) % (c.2 * b), c.2 * b) ∧ ∀ T, T % (c.2 * b) = (c.1 + c.2 * ((k * inv) % b)) % (c.2 * b) ↔ (T % c.2 = c.1 ∧ T % d.2 = d.1) := by
  have P := cop hc.pos hd.pos
  rw [← hg, ← hp, ← hb] at P
  have hkk : d.1 - c.1 = g * k := by
    rw [hk]
    exact (Int.mul_ediv_cancel' (Int.dvd_of_emod_eq_zero h)).symm
  have key := crt_some (k := k) (inv := inv) P.g0 hc.pos hd.pos P.e1 P.e2 hc.lo hc.hi hd.lo hd.hi hkk hi
  refine ⟨?_, key⟩
  have hL : 0 < c.2 * b := Int.mul_pos hc.pos P.b0
  have e : c.2 * b = c.2 * (d.2 / (Int.gcd c.2 d.2 : Int)) := by rw [hb, hg]
  have := (key ((c.1 + c.2 * ((k * inv) % b)) % (c.2 * b))).mp (by rw [Int.emod_emod])
  rw [chin_some hc hd (by rw [← hg]; exact Int.dvd_of_emod_eq_zero h) (x := (c.1 + c.2 * ((k * inv) % b)) % (c.2 * b))
    ⟨⟨Int.emod_nonneg _ (by omega), by rw [← e]; exact Int.emod_lt_of_pos _ hL⟩, this⟩, e]
end K34
end
section
namespace K34
/-! ### what is in the class of two -/
theorem chin_mem {c d e : C2} (hc : Ok1 c) (hd : Ok1 d) (h : chin c d = some e) : Ok1 e ∧ e.2 = c.2 * (d.2 / (Int.gcd c.2 d.2 : Int)) ∧ ∀ T, T % e.2 = e.1 ↔ (T % c.2 = c.1 ∧ T % d.2 = d.1) := by
  have P := cop hc.pos hd.pos
  have hdv : (Int.gcd c.2 d.2 : Int) ∣ d.1 - c.1 := by
    by_cases q : (Int.gcd c.2 d.2 : Int) ∣ d.1 - c.1
    · exact q
    · rw [chin_none q] at h; cases h
  -- an inverse
  obtain ⟨inv, hi⟩ : ∃ inv, (d.2 / (Int.gcd c.2 d.2 : Int)) ∣ inv * (c.2 / (Int.gcd c.2 d.2 : Int)) - 1 := inv_ex P.p0 P.b0 P.one
  obtain ⟨q1, q2⟩ := chin_is hc hd rfl rfl rfl rfl (Int.emod_eq_zero_of_dvd hdv) hi
  rw [q1] at h
  cases h
  have hL : 0 < c.2 * (d.2 / (Int.gcd c.2 d.2 : Int)) := Int.mul_pos hc.pos P.b0
  exact ⟨⟨hL, Int.emod_nonneg _ (by omega), Int.emod_lt_of_pos _ hL⟩, rfl, q2⟩
where
  inv_ex {p b : Int} (hp : 0 < p) (hb : 0 < b) (h : Int.gcd p b = 1) : ∃ inv, b ∣ inv * p - 1 := by
    obtain ⟨n, hn⟩ : ∃ n : Nat, n = b.natAbs := ⟨_, rfl⟩
    -- run the loop
    have run : ∀ (n : Nat) (u s v t : Int), v.natAbs = n → Euc p b u s v t → SameDiv u v p b → ∃ s' t', Euc p b 1 s' 0 t' := by
      intro n
      induction n using Nat.strongRecOn with
      | _ n ih =>
        intro u s v t hv E S
        by_cases hz : v = 0
        · subst hz
          have := S.fin E.pos
          rw [h] at this
          rw [this] at E
          exact ⟨s, t, E⟩
        · have hv0 : 0 < v := by have := E.nn; omega
          have E' := E.turn hv0
          have S' := S.turn
          rw [← Euc.eq_mod u v] at S'
          refine ih (u - u / v * v).natAbs ?_ v t _ _ rfl E' S'
          rw [Euc.eq_mod]
          have := Int.emod_lt_of_pos u hv0
          have := Int.emod_nonneg u (by omega : v ≠ 0)
          omega
    obtain ⟨s, t, E⟩ := run _ p 1 b 0 rfl (Euc.start hp hb) (SameDiv.refl p b)
    exact ⟨_, E.fin⟩
theorem chin_not {c d : C2} (hc : Ok1 c) (hd : Ok1 d) (h : chin c d = none) (T : Int) : ¬ (T % c.2 = c.1 ∧ T % d.2 = d.1) := by
  refine crt_none hc.pos hd.pos (Int.gcd_dvd_left _ _) (Int.gcd_dvd_right _ _) hc.lo hc.hi hd.lo hd.hi (fun q => ?_) T
  unfold chin at h
  rw [if_pos q] at h
  cases h
theorem OkC.one {cs : List C2} {m : Int} (h : OkC cs m) {c : C2} (hc : c ∈ cs) : Ok1 c := by
  obtain ⟨e, a, b⟩ := h.all c hc
  exact ⟨by rw [e]; exact h.pos, a, by rw [e]; exact b⟩
/-! ### all pairs -/
noncomputable def crossRow (c : C2) (ys : List C2) : List C2 := ys.filterMap (chin c)
noncomputable def crossL (xs ys : List C2) : List C2 := xs.flatMap fun c => crossRow c ys
theorem mem_crossL {xs ys : List C2} {e : C2} : e ∈ crossL xs ys ↔ ∃ c ∈ xs, ∃ d ∈ ys, chin c d = some e := by
  unfold crossL crossRow
  simp only [List.mem_flatMap, List.mem_filterMap]
theorem crossL_mem {xs ys : List C2} {m n : Int} (hx : OkC xs m) (hy : OkC ys n) (T : Int) : MemC (crossL xs ys) T ↔ MemC xs T ∧ MemC ys T := by
  constructor
  · rintro ⟨e, he, ht⟩
    obtain ⟨c, hc, d, hd, q⟩ := mem_crossL.mp he
    obtain ⟨_, _, k⟩ := chin_mem (hx.one hc) (hy.one hd) q
    have := (k T).mp ht
    exact ⟨⟨c, hc, this.1⟩, ⟨d, hd, this.2⟩⟩
  · rintro ⟨⟨c, hc, h1⟩, ⟨d, hd, h2⟩⟩
    cases q : chin c d with
    | none => exact absurd ⟨h1, h2⟩ (chin_not (hx.one hc) (hy.one hd) q T)
    | some e =>
      obtain ⟨_, _, k⟩ := chin_mem (hx.one hc) (hy.one hd) q
      exact ⟨e, mem_crossL.mpr ⟨c, hc, d, hd, q⟩, (k T).mpr ⟨h1, h2⟩⟩
theorem crossL_ok {xs ys : List C2} {m n : Int} (hx : OkC xs m) (hy : OkC ys n) : OkC (crossL xs ys) (m * (n / (Int.gcd m n : Int))) := by
  refine ⟨Int.mul_pos hx.pos (cop hx.pos hy.pos).b0, fun e he => ?_⟩
  obtain ⟨c, hc, d, hd, q⟩ := mem_crossL.mp he
  obtain ⟨o, e2, _⟩ := chin_mem (hx.one hc) (hy.one hd) q
  have h1 := (hx.all c hc).1
  have h2 := (hy.all d hd).1
  have e3 : e.2 = m * (n / (Int.gcd m n : Int)) := by rw [e2, h1, h2]
  exact ⟨e3, o.lo, by rw [← e3]; exact o.hi⟩
theorem chin_inj {xs ys : List C2} {m n : Int} (hx : OkC xs m) (hy : OkC ys n) {c c' d d' e : C2} (hc : c ∈ xs) (hc' : c' ∈ xs) (hd : d ∈ ys) (hd' : d' ∈ ys) (h : chin c d = some e) (h' : chin c' d' = some e) : c = c' ∧ d = d' := by
  obtain ⟨o, _, k⟩ := chin_mem (hx.one hc) (hy.one hd) h
  obtain ⟨_, _, k'⟩ := chin_mem (hx.one hc') (hy.one hd') h'
  have e1 : e.1 % e.2 = e.1 := Int.emod_eq_of_lt o.lo o.hi
  have a := (k e.1).mp e1
  have b := (k' e.1).mp e1
  have q1 := (hx.all c hc).1
  have q2 := (hx.all c' hc').1
  have q3 := (hy.all d hd).1
  have q4 := (hy.all d' hd').1
  refine ⟨Prod.ext ?_ (q1.trans q2.symm), Prod.ext ?_ (q3.trans q4.symm)⟩
  · rw [← a.1, ← b.1, q1, q2]
  · rw [← a.2, ← b.2, q3, q4]
theorem nodup_filterMap {α β : Type} {f : α → Option β} : ∀ {l : List α}, l.Nodup → (∀ a ∈ l, ∀ b ∈ l, ∀ z, f a = some z → f b = some z → a = b) → (l.filterMap f).Nodup
  | [], _, _ => List.nodup_nil
  | a :: l, hn, hi => by
    obtain ⟨h1, h2⟩ := List.nodup_cons.mp hn
    have ih := nodup_filterMap (f := f) h2 fun x hx y hy z e1 e2 => hi x (List.mem_cons_of_mem _ hx) y (List.mem_cons_of_mem _ hy) z e1 e2
    cases q : f a with
    | none => rw [List.filterMap_cons_none q]; exact ih
    | some z =>
      rw [List.filterMap_cons_some q]
      refine List.nodup_cons.mpr ⟨fun hm => ?_, ih⟩
      obtain ⟨b, hb, e⟩ := List.mem_filterMap.mp hm
      exact h1 (hi a List.mem_cons_self b (List.mem_cons_of_mem _ hb) z q e ▸ hb)
theorem crossL_nodup {ys : List C2} {n : Int} (hy : OkC ys n) (ny : ys.Nodup) : ∀ {xs : List C2} {m : Int}, OkC xs m → xs.Nodup → (crossL xs ys).Nodup
  | [], _, _, _ => List.nodup_nil
  | c :: xs, m, hx, nx => by
    obtain ⟨h1, h2⟩ := List.nodup_cons.mp nx
    have hx' : OkC xs m := ⟨hx.pos, fun c hc => hx.all c (List.mem_cons_of_mem _ hc)⟩
    have ih := crossL_nodup hy ny hx' h2
    show (crossRow c ys ++ crossL xs ys).Nodup
    refine List.nodup_append.mpr ⟨nodup_filterMap ny fun a ha b hb z e1 e2 => (chin_inj hx hy List.mem_cons_self List.mem_cons_self ha hb e1 e2).2, ih, fun a ha b hb e => ?_⟩
    subst e
    obtain ⟨d, hd, e1⟩ := List.mem_filterMap.mp ha
    obtain ⟨c', hc', d', hd', e2⟩ := mem_crossL.mp hb
    exact h1 ((chin_inj hx hy List.mem_cons_self (List.mem_cons_of_mem _ hc') hd hd' e1 e2).1 ▸ hc')
theorem crossL_len (xs ys : List C2) : (crossL xs ys).length ≤ xs.length * ys.length := by
  induction xs with
  | nil => simp [crossL]
  | cons c xs ih =>
    show (crossRow c ys ++ crossL xs ys).length ≤ _
    have : (crossRow c ys).length ≤ ys.length := List.length_filterMap_le _ _
    rw [List.length_append, List.length_cons, Nat.succ_mul]
    omega
/-- classes of one modulus that are different are apart -/
theorem apart {cs : List C2} {m : Int} (h : OkC cs m) {c d : C2} (hc : c ∈ cs) (hd : d ∈ cs) (ne : c ≠ d) : c.1 % (Int.gcd c.2 d.2 : Int) ≠ d.1 % (Int.gcd c.2 d.2 : Int) := by
  obtain ⟨a1, a2, a3⟩ := h.all c hc
  obtain ⟨b1, b2, b3⟩ := h.all d hd
  have hp := h.pos
  have e : (Int.gcd c.2 d.2 : Int) = m := by rw [a1, b1, Int.gcd_self]; omega
  rw [e, Int.emod_eq_of_lt a2 a3, Int.emod_eq_of_lt b2 b3]
  intro q
  exact ne (Prod.ext q (a1.trans b1.symm))
/-! ### the least -/
/-- o tells the least number, from 0 on, of which S holds -/
def Least (S : Int → Prop) : Option Int → Prop
  | none => ∀ t, 0 ≤ t → ¬ S t
  | some f => 0 ≤ f ∧ S f ∧ ∀ t, 0 ≤ t → S t → f ≤ t
theorem Least.uniq {S : Int → Prop} {o p : Option Int} (h : Least S o) (k : Least S p) : o = p := by
  cases o with
  | none => cases p with
    | none => rfl
    | some f => exact absurd k.2.1 (h f k.1)
  | some f => cases p with
    | none => exact absurd h.2.1 (k f h.1)
    | some g =>
      have a := h.2.2 g k.1 k.2.1
      have b := k.2.2 f h.1 h.2.1
      rw [show f = g by omega]
theorem Least.congr {S S' : Int → Prop} {o : Option Int} (h : Least S o) (e : ∀ t, 0 ≤ t → (S t ↔ S' t)) : Least S' o := by
  cases o with
  | none => exact fun t ht q => h t ht ((e t ht).mpr q)
  | some f => exact ⟨h.1, (e f h.1).mp h.2.1, fun t ht q => h.2.2 t ht ((e t ht).mpr q)⟩
/-- the law's turn -/
def minT (o : Option Int) (r : Int) : Option Int := match o with
  | none => some r
  | some f => if r < f then some r else some f
def minO (cs : List C2) : Option Int := cs.foldl (fun o c => minT o c.1) none
theorem minO_append (xs ys : List C2) : minO (xs ++ ys) = ys.foldl (fun o c => minT o c.1) (minO xs) := by
  unfold minO; rw [List.foldl_append]
theorem minO_snoc (xs : List C2) (c : C2) : minO (xs ++ [c]) = minT (minO xs) c.1 := by rw [minO_append]; rfl
theorem class_least {c : C2} (h : Ok1 c) {t : Int} (ht : 0 ≤ t) (q : t % c.2 = c.1) : c.1 ≤ t := by
  have e : c.2 * (t / c.2) + t % c.2 = t := Int.mul_ediv_add_emod t c.2
  have h1 : 0 ≤ t / c.2 := Int.ediv_nonneg ht (by have := h.pos; omega)
  have h2 : 0 ≤ c.2 * (t / c.2) := Int.mul_nonneg (by have := h.pos; omega) h1
  omega
theorem minT_least {cs : List C2} {c : C2} {o : Option Int} (h : Least (MemC cs) o) (hc : Ok1 c) : Least (MemC (cs ++ [c])) (minT o c.1) := by
  have self : c.1 % c.2 = c.1 := Int.emod_eq_of_lt hc.lo hc.hi
  have memc : MemC (cs ++ [c]) c.1 := ⟨c, by simp, self⟩
  have spl : ∀ t, MemC (cs ++ [c]) t → MemC cs t ∨ t % c.2 = c.1 := by
    rintro t ⟨d, hd, e⟩
    rcases List.mem_append.mp hd with q | q
    · exact .inl ⟨d, q, e⟩
    · rw [List.mem_singleton.mp q] at e; exact .inr e
  cases o with
  | none =>
    refine ⟨hc.lo, memc, fun t ht q => ?_⟩
    rcases spl t q with q | q
    · exact absurd q (h t ht)
    · exact class_least hc ht q
  | some f =>
    obtain ⟨f0, ⟨d, hd, fd⟩, fl⟩ := h
    show Least _ (if c.1 < f then some c.1 else some f)
    by_cases k : c.1 < f
    · rw [if_pos k]
      refine ⟨hc.lo, memc, fun t ht q => ?_⟩
      rcases spl t q with q | q
      · have := fl t ht q; omega
      · exact class_least hc ht q
    · rw [if_neg k]
      refine ⟨f0, ⟨d, List.mem_append_left _ hd, fd⟩, fun t ht q => ?_⟩
      rcases spl t q with q | q
      · exact fl t ht q
      · have := class_least hc ht q; omega
theorem minO_least : ∀ {cs : List C2}, (∀ c ∈ cs, Ok1 c) → Least (MemC cs) (minO cs) := by
  intro cs
  have : ∀ (n : Nat) (cs : List C2), cs.length = n → (∀ c ∈ cs, Ok1 c) → Least (MemC cs) (minO cs) := by
    intro n
    induction n with
    | zero =>
      intro cs hl _
      have : cs = [] := List.length_eq_zero_iff.mp hl
      subst this
      rintro t _ ⟨c, hc, _⟩
      exact nomatch hc
    | succ n ih =>
      intro cs hl h
      have hne : cs ≠ [] := by intro e; rw [e] at hl; cases hl
      have e := List.dropLast_concat_getLast hne
      rw [← e, minO_snoc]
      exact minT_least (ih cs.dropLast (by rw [List.length_dropLast]; omega) fun c hc => h c (by rw [← e]; exact List.mem_append_left _ hc)) (h _ (List.getLast_mem hne))
  exact this _ cs rfl
theorem minO_lt {cs : List C2} {L f : Int} (h : OkC cs L) (e : minO cs = some f) : f < L := by
  have q := minO_least fun c hc => h.one hc
  rw [e] at q
  obtain ⟨q0, ⟨c, hc, q1⟩, _⟩ := q
  have o := h.one hc
  obtain ⟨a, b, d⟩ := h.all c hc
  have := minO_least (cs := cs) fun c hc => h.one hc
  rw [e] at this
  have := this.2.2 c.1 b ⟨c, hc, Int.emod_eq_of_lt o.lo o.hi⟩
  omega
/-- the program's least: the first ones of the classes from M on -/
def firstFrom (M : Int) (c : C2) : Int := M + (c.1 - M) % c.2
theorem firstFrom_least {cs : List C2} {M z : Int} (h : ∀ c ∈ cs, Ok1 c) (hz : z ∈ cs.map (firstFrom M)) (hl : ∀ y ∈ cs.map (firstFrom M), z ≤ y) : Least (fun t => MemC cs (M + t)) (some (z - M)) := by
  obtain ⟨c, hc, rfl⟩ := List.mem_map.mp hz
  have o := h c hc
  have n0 : 0 ≤ (c.1 - M) % c.2 := Int.emod_nonneg _ (by have := o.pos; omega)
  refine ⟨by unfold firstFrom; omega, ⟨c, hc, ?_⟩, fun t ht q => ?_⟩
  · show (M + (firstFrom M c - M)) % c.2 = c.1
    have : M + (firstFrom M c - M) = M + (c.1 - M) % c.2 := by unfold firstFrom; omega
    rw [this, Int.add_emod, Int.emod_emod, ← Int.add_emod, show M + (c.1 - M) = c.1 by omega]
    exact Int.emod_eq_of_lt o.lo o.hi
  · obtain ⟨d, hd, e⟩ := q
    have od := h d hd
    have := hl (firstFrom M d) (List.mem_map.mpr ⟨d, hd, rfl⟩)
    have k : firstFrom M d ≤ M + t := by
      have e2 : (d.1 - M) % d.2 = t % d.2 := by
        rw [← e, Int.sub_emod, Int.emod_emod, ← Int.sub_emod, show M + t - M = t by omega]
      have e3 : t % d.2 ≤ t := class_least (c := (t % d.2, d.2)) ⟨od.pos, Int.emod_nonneg _ (by have := od.pos; omega), Int.emod_lt_of_pos _ od.pos⟩ ht rfl
      unfold firstFrom
      omega
    omega
theorem least_none {M : Int} : Least (fun t => MemC [] (M + t)) none := by
  rintro t _ ⟨c, hc, _⟩
  exact nomatch hc
end K34
end
section
namespace K34
/-! ### folds -/
def foldZ (s n : Int) : Int := if 2 * s - n % (2 * s) < n % (2 * s) then 2 * s - n % (2 * s) else n % (2 * s)
theorem dvd_small {m z : Int} (hm : 0 < m) (h1 : -m < z) (h2 : z < 2 * m) : m ∣ z ↔ (z = 0 ∨ z = m) := by
  constructor
  · rintro ⟨k, hk⟩
    have a : k < 2 := by
      by_cases q : k < 2
      · exact q
      · have := Int.mul_le_mul_of_nonneg_left (show 2 ≤ k by omega) (show 0 ≤ m by omega); omega
    have b : -1 < k := by
      by_cases q : -1 < k
      · exact q
      · have := Int.mul_le_mul_of_nonneg_left (show k ≤ -1 by omega) (show 0 ≤ m by omega); omega
    have c : k = 0 ∨ k = 1 := by omega
    rcases c with rfl | rfl
    · left; omega
    · right; omega
  · rintro (h | h)
    · exact ⟨0, by omega⟩
    · exact ⟨1, by omega⟩
theorem dvd_shift {m n r q z : Int} (e : n = m * q + r) (hz : z = r + (z - r)) : m ∣ m * q + z ↔ m ∣ z := by
  constructor
  · intro h
    have := Int.dvd_sub h (Int.dvd_mul_right m q)
    rwa [show m * q + z - m * q = z by omega] at this
  · intro h
    exact Int.dvd_add (Int.dvd_mul_right m q) h
theorem foldZ_iff {s n p : Int} (hs : 0 < s) (h0 : 0 ≤ p) (h1 : p ≤ s) : foldZ s n = p ↔ (2 * s ∣ n - p ∨ 2 * s ∣ n + p) := by
  have e : 2 * s * (n / (2 * s)) + n % (2 * s) = n := Int.mul_ediv_add_emod n (2 * s)
  have r0 : 0 ≤ n % (2 * s) := Int.emod_nonneg _ (by omega)
  have r1 : n % (2 * s) < 2 * s := Int.emod_lt_of_pos _ (by omega)
  unfold foldZ
  generalize hr : n % (2 * s) = r at *
  generalize n / (2 * s) = q at *
  have a : 2 * s ∣ n - p ↔ (r - p = 0 ∨ r - p = 2 * s) := by
    rw [show n - p = 2 * s * q + (r - p) by omega, dvd_shift e.symm (by omega)]
    exact dvd_small (by omega) (by omega) (by omega)
  have b : 2 * s ∣ n + p ↔ (r + p = 0 ∨ r + p = 2 * s) := by
    rw [show n + p = 2 * s * q + (r + p) by omega, dvd_shift e.symm (by omega)]
    exact dvd_small (by omega) (by omega) (by omega)
  rw [a, b]
  split <;> omega
theorem foldZ_self {s p : Int} (hs : 0 < s) (h0 : 0 ≤ p) (h1 : p ≤ s) : foldZ s p = p := (foldZ_iff hs h0 h1).mpr (.inl ⟨0, by omega⟩)
theorem foldZ_range {s n : Int} (hs : 0 < s) : 0 ≤ foldZ s n ∧ foldZ s n ≤ s := by
  have r0 : 0 ≤ n % (2 * s) := Int.emod_nonneg _ (by omega)
  have r1 : n % (2 * s) < 2 * s := Int.emod_lt_of_pos _ (by omega)
  unfold foldZ
  split <;> omega
theorem foldZ_mod {s n k : Int} (hs : 0 < s) (h : 2 * s ∣ n - k) : foldZ s n = foldZ s k := by
  have r := foldZ_range (n := k) hs
  rw [foldZ_iff hs r.1 r.2]
  rcases (foldZ_iff (n := k) hs r.1 r.2).mp rfl with q | q
  · left
    have := Int.dvd_add h q
    rwa [show n - k + (k - foldZ s k) = n - foldZ s k by omega] at this
  · right
    have := Int.dvd_add h q
    rwa [show n - k + (k + foldZ s k) = n + foldZ s k by omega] at this
theorem foldZ_neg {s n : Int} (hs : 0 < s) : foldZ s (-n) = foldZ s n := by
  have r := foldZ_range (n := n) hs
  rw [foldZ_iff hs r.1 r.2]
  rcases (foldZ_iff (n := n) hs r.1 r.2).mp rfl with q | q
  · right
    have := (Int.dvd_neg).mpr q
    rwa [show -(n - foldZ s n) = -n + foldZ s n by omega] at this
  · left
    have := (Int.dvd_neg).mpr q
    rwa [show -(n + foldZ s n) = -n - foldZ s n by omega] at this
/-! ### where a part is -/
def Dir (d : Int) : Prop := d = -1 ∨ d = 0 ∨ d = 1
/-- the part is at the goal at its unfolded place -/
def At (s x d p t : Int) : Prop := foldZ s (x + d * t) = p
/-- the program's own way: the phase -/
def phaseZ (s x d : Int) : Int := if d = 1 then x else (-x) % (2 * s)
def partZ (s x d t : Int) : Int := if d = 0 then x else foldZ s (phaseZ s x d + t)
theorem partZ_eq {s x d t : Int} (hs : 0 < s) (h0 : 0 ≤ x) (h1 : x ≤ s) (hd : Dir d) : partZ s x d t = foldZ s (x + d * t) := by
  unfold partZ
  by_cases z : d = 0
  · rw [if_pos z, z, show x + 0 * t = x by omega, foldZ_self hs h0 h1]
  · rw [if_neg z]
    unfold phaseZ
    by_cases o : d = 1
    · rw [if_pos o, o, Int.one_mul]
    · rw [if_neg o]
      have m : d = -1 := by unfold Dir at hd; omega
      rw [m, ← foldZ_neg hs (n := x + -1 * t)]
      refine foldZ_mod hs ?_
      have e : 2 * s * (-x / (2 * s)) + (-x) % (2 * s) = -x := Int.mul_ediv_add_emod (-x) (2 * s)
      exact ⟨-(-x / (2 * s)), by rw [Int.mul_neg]; omega⟩
/-! ### the classes of a part -/
theorem mod_cls {m z T : Int} (hm : 0 < m) : T % m = z % m ↔ m ∣ T - z := by
  rw [Int.emod_eq_emod_iff_emod_sub_eq_zero]
  exact ⟨Int.dvd_of_emod_eq_zero, Int.emod_eq_zero_of_dvd⟩
theorem dir_dvd {m d z T : Int} (hd : d = 1 ∨ d = -1) : m ∣ T - d * z ↔ m ∣ d * T - z := by
  rcases hd with rfl | rfl
  · rw [Int.one_mul, Int.one_mul]
  · rw [show -1 * T - z = -(T - -1 * z) by omega]
    exact Int.dvd_neg.symm
/-- the classes of the law -/
def lawC1 (s x d p : Int) : C2 := ((d * (p - x)) % (2 * s), 2 * s)
def lawC2 (s x d p : Int) : C2 := ((0 - d * (p + x)) % (2 * s), 2 * s)
def lawCls (s x d p : Int) : List C2 := if d = 0 then (if x = p then [(0, 1)] else []) else if lawC2 s x d p = lawC1 s x d p then [lawC1 s x d p] else [lawC1 s x d p, lawC2 s x d p]
/-- a list of classes that tells when the part is at its goal: of one modulus, none twice -/
structure PCls (cs : List C2) (m : Int) (S : Int → Prop) : Prop where
  ok : OkC cs m
  nd : cs.Nodup
  len : cs.length ≤ 2
  mem : ∀ T, MemC cs T ↔ S T
theorem cls_two {c c' : C2} {m : Int} {S : Int → Prop} {cs : List C2} (hn : cs.Nodup) (hm : ∀ e, e ∈ cs ↔ (e = c ∨ e = c')) (h2 : 0 < m) (e1 : c.2 = m ∧ 0 ≤ c.1 ∧ c.1 < m) (e2 : c'.2 = m ∧ 0 ≤ c'.1 ∧ c'.1 < m)
    (hS : ∀ T, S T ↔ (T % m = c.1 ∨ T % m = c'.1)) : PCls cs m S := by
  refine ⟨⟨h2, fun e he => ?_⟩, hn, ?_, fun T => ?_⟩
  · rcases (hm e).mp he with rfl | rfl
    · exact e1
    · exact e2
  · have sub : cs ⊆ [c, c'] := fun e he => by
      rcases (hm e).mp he with rfl | rfl <;> simp
    exact (List.Nodup.length_le_of_subset' hn sub)
  · rw [hS T]
    constructor
    · rintro ⟨e, he, q⟩
      rcases (hm e).mp he with rfl | rfl
      · left; rw [← e1.1]; exact q
      · right; rw [← e2.1]; exact q
    · rintro (q | q)
      · exact ⟨c, (hm c).mpr (.inl rfl), by rw [e1.1]; exact q⟩
      · exact ⟨c', (hm c').mpr (.inr rfl), by rw [e2.1]; exact q⟩
where
  List.Nodup.length_le_of_subset' {α : Type} [DecidableEq α] : ∀ {l k : List α}, l.Nodup → l ⊆ k → l.length ≤ k.length
    | [], _, _, _ => Nat.zero_le _
    | a :: l, k, hn, hs => by
      obtain ⟨h1, h2⟩ := List.nodup_cons.mp hn
      have ha : a ∈ k := hs List.mem_cons_self
      have : l ⊆ k.erase a := fun b hb => by
        have ne : b ≠ a := fun e => h1 (e ▸ hb)
        exact (List.mem_erase_of_ne ne).mpr (hs (List.mem_cons_of_mem _ hb))
      have := List.Nodup.length_le_of_subset' h2 this
      rw [List.length_erase_of_mem ha] at this
      have : 0 < k.length := List.length_pos_of_mem ha
      rw [List.length_cons]
      omega
theorem lawCls_ok {s x d p : Int} (hs : 0 < s) (h0 : 0 ≤ x) (h1 : x ≤ s) (p0 : 0 ≤ p) (p1 : p ≤ s) (hd : Dir d) : ∃ m, m ≤ 2 * s ∧ PCls (lawCls s x d p) m (At s x d p) := by
  unfold lawCls
  by_cases z : d = 0
  · rw [if_pos z]
    refine ⟨1, by omega, ?_⟩
    have hA : ∀ T, At s x d p T ↔ x = p := fun T => by
      unfold At
      rw [z, show x + 0 * T = x by omega, foldZ_self hs h0 h1]
    by_cases e : x = p
    · rw [if_pos e]
      refine ⟨⟨by decide, fun c hc => ?_⟩, by simp, by simp, fun T => ?_⟩
      · rw [List.mem_singleton.mp hc]; decide
      · rw [hA T]
        exact ⟨fun _ => e, fun _ => ⟨(0, 1), by simp, by show T % 1 = 0; omega⟩⟩
    · rw [if_neg e]
      refine ⟨⟨by decide, fun c hc => nomatch hc⟩, by simp, by simp, fun T => ?_⟩
      rw [hA T]
      exact ⟨fun ⟨c, hc, _⟩ => (nomatch hc), fun q => absurd q e⟩
  · rw [if_neg z]
    refine ⟨2 * s, by omega, ?_⟩
    have hd' : d = 1 ∨ d = -1 := by unfold Dir at hd; omega
    have hS : ∀ T, At s x d p T ↔ (T % (2 * s) = (lawC1 s x d p).1 ∨ T % (2 * s) = (lawC2 s x d p).1) := fun T => by
      unfold At lawC1 lawC2
      rw [foldZ_iff hs p0 p1, mod_cls (by omega), mod_cls (by omega), dir_dvd hd', show 0 - d * (p + x) = d * (0 - (p + x)) by rw [Int.mul_sub, Int.mul_zero], dir_dvd hd',
        show x + d * T - p = d * T - (p - x) by omega, show x + d * T + p = d * T - (0 - (p + x)) by omega]
    have b1 : (lawC1 s x d p).2 = 2 * s ∧ 0 ≤ (lawC1 s x d p).1 ∧ (lawC1 s x d p).1 < 2 * s := ⟨rfl, Int.emod_nonneg _ (by omega), Int.emod_lt_of_pos _ (by omega)⟩
    have b2 : (lawC2 s x d p).2 = 2 * s ∧ 0 ≤ (lawC2 s x d p).1 ∧ (lawC2 s x d p).1 < 2 * s := ⟨rfl, Int.emod_nonneg _ (by omega), Int.emod_lt_of_pos _ (by omega)⟩
    by_cases e : lawC2 s x d p = lawC1 s x d p
    · rw [if_pos e]
      exact cls_two (by simp) (fun f => by rw [e]; simp) (by omega) b1 b2 hS
    · rw [if_neg e]
      exact cls_two (by simp; exact fun q => e q.symm) (fun f => by simp) (by omega) b1 b2 hS
/-! ### the classes of the program: T counts from 0 -/
def progC1 (s a d p : Int) : C2 := ((d * (p - a)) % (2 * s), 2 * s)
def progC2 (s a d p : Int) : C2 := ((d * (-p - a)) % (2 * s), 2 * s)
/-- what solved hands back for an even modulus, a factor from -1 to 1 -/
def solvedL (d r m : Int) : List C2 := if d = 0 then (if r % m = 0 then [(0, 1)] else []) else [((d * r) % m, m)]
/-- what united hands back: WHOLE, or each once -/
def Uni (xs ys zs : List C2) : Prop := if (0, 1) ∈ xs ∨ (0, 1) ∈ ys then zs = [(0, 1)] else zs.Nodup ∧ ∀ c, c ∈ zs ↔ (c ∈ xs ∨ c ∈ ys)
theorem prog_ok {s x d p M : Int} {zs : List C2} (hs : 0 < s) (h0 : 0 ≤ x) (h1 : x ≤ s) (p0 : 0 ≤ p) (p1 : p ≤ s) (hd : Dir d)
    (h : Uni (solvedL d (p - (x - d * M)) (2 * s)) (solvedL d (-p - (x - d * M)) (2 * s)) zs) : ∃ m, m ≤ 2 * s ∧ PCls zs m (fun T => At s x d p (T - M)) := by
  by_cases z : d = 0
  · refine ⟨1, by omega, ?_⟩
    have hA : ∀ T, At s x d p (T - M) ↔ x = p := fun T => by
      unfold At
      rw [z, show x + 0 * (T - M) = x by omega, foldZ_self hs h0 h1]
    unfold Uni solvedL at h
    rw [if_pos z, if_pos z, z, show x - 0 * M = x by omega] at h
    by_cases e : x = p
    · have q : zs = [(0, 1)] := by
        rw [if_pos (show (p - x) % (2 * s) = 0 by rw [e]; simp), if_pos (.inl (by simp))] at h
        exact h
      rw [q]
      refine ⟨⟨by decide, fun c hc => ?_⟩, by simp, by simp, fun T => ?_⟩
      · rw [List.mem_singleton.mp hc]; decide
      · rw [hA T]
        exact ⟨fun _ => e, fun _ => ⟨(0, 1), by simp, by show T % 1 = 0; omega⟩⟩
    · have n1 : ¬ (p - x) % (2 * s) = 0 := fun q => by
        have := (dvd_small (z := p - x) (m := 2 * s) (by omega) (by omega) (by omega)).mp (Int.dvd_of_emod_eq_zero q)
        omega
      have n2 : ¬ (-p - x) % (2 * s) = 0 := fun q => by
        have q' : 2 * s ∣ p + x := by
          have := (Int.dvd_neg).mpr (Int.dvd_of_emod_eq_zero q)
          rwa [show -(-p - x) = p + x by omega] at this
        have := (dvd_small (z := p + x) (m := 2 * s) (by omega) (by omega) (by omega)).mp q'
        omega
      rw [if_neg n1, if_neg n2, if_neg (by simp)] at h
      have q : zs = [] := by
        cases zs with
        | nil => rfl
        | cons c zs => exact absurd ((h.2 c).mp List.mem_cons_self) (by simp)
      rw [q]
      refine ⟨⟨by decide, fun c hc => nomatch hc⟩, by simp, by simp, fun T => ?_⟩
      rw [hA T]
      exact ⟨fun ⟨c, hc, _⟩ => (nomatch hc), fun q => absurd q e⟩
  · refine ⟨2 * s, by omega, ?_⟩
    have hd' : d = 1 ∨ d = -1 := by unfold Dir at hd; omega
    unfold Uni solvedL at h
    rw [if_neg z, if_neg z, if_neg (by
      rintro (q | q) <;>
      · have := congrArg Prod.snd (List.mem_singleton.mp q)
        have : (1 : Int) = 2 * s := this
        omega)] at h
    have hS : ∀ T, At s x d p (T - M) ↔ (T % (2 * s) = (d * (p - (x - d * M))) % (2 * s) ∨ T % (2 * s) = (d * (-p - (x - d * M))) % (2 * s)) := fun T => by
      unfold At
      rw [foldZ_iff hs p0 p1, mod_cls (by omega), mod_cls (by omega), dir_dvd hd', dir_dvd hd', Int.mul_sub]
      rw [show x + (d * T - d * M) - p = d * T - (p - (x - d * M)) by omega, show x + (d * T - d * M) + p = d * T - (-p - (x - d * M)) by omega]
    refine cls_two h.1 (c := ((d * (p - (x - d * M))) % (2 * s), 2 * s)) (c' := ((d * (-p - (x - d * M))) % (2 * s), 2 * s)) (fun e => ?_) (by omega) ⟨rfl, Int.emod_nonneg _ (by omega), Int.emod_lt_of_pos _ (by omega)⟩ ⟨rfl, Int.emod_nonneg _ (by omega), Int.emod_lt_of_pos _ (by omega)⟩ hS
    rw [h.2 e, List.mem_singleton, List.mem_singleton]
end K34
end
section
set_option Elab.async false
set_option linter.all false
set_option maxRecDepth 100000
set_option maxHeartbeats 0
/-! the text by places, the head's facts by names, the run of the top -/
namespace K34
open PySem PySem.Spec PyProof.Rows L2
abbrev prg : Program := PySem.Challenge.pw_cushioned_k34_whole_falls_on_great_table
abbrev rw_ : PySem.W.OpenLaw := PySem.Challenge.rw_cushioned_k34_whole_falls_on_great_table
def top (i : Nat) : Stmt := PySem.Challenge.pw_cushioned_k34_whole_falls_on_great_table.main.body.getD i (.Pass ⟨0, 0, 0, 0⟩)
abbrev s_require : Stmt := top 10
abbrev s_Table_init : Stmt := inClass (top 11) 0
abbrev s_is_point : Stmt := inClass (top 11) 1
abbrev s_check_point : Stmt := inClass (top 11) 2
abbrev s_is_name : Stmt := top 15
abbrev s_is_ball : Stmt := top 16
abbrev s_check_ball : Stmt := top 17
abbrev s_inverse : Stmt := top 20
abbrev s_chinese : Stmt := top 21
abbrev s_solved : Stmt := top 22
abbrev s_united : Stmt := top 23
abbrev s_point_classes : Stmt := top 24
abbrev s_crossed : Stmt := top 25
abbrev s_is_class : Stmt := top 28
abbrev s_are_apart : Stmt := top 29
abbrev s_Times_init : Stmt := inClass (top 30) 0
abbrev s_is_within : Stmt := inClass (top 30) 1
abbrev s_next_from : Stmt := inClass (top 30) 3
abbrev s_at_point : Stmt := top 32
abbrev s_fall_of : Stmt := top 34
abbrev s_phase_of : Stmt := top 36
abbrev s_fold : Stmt := top 37
abbrev s_part_at : Stmt := top 38
abbrev s_parts_of : Stmt := top 39
abbrev s_place_at : Stmt := top 40
abbrev s_row : Stmt := top 42
abbrev s_numbers : Stmt := top 43
abbrev s_great : Stmt := top 44
abbrev s_directions : Stmt := top 45
abbrev s_gcd : Stmt := top 46
abbrev s_linverse : Stmt := top 47
abbrev s_agreed : Stmt := top 48
abbrev s_part_classes : Stmt := top 49
abbrev s_first_at : Stmt := top 50
abbrev s_great_table : Stmt := top 51
abbrev s_lfold : Stmt := top 52
abbrev s_ball_of : Stmt := top 53
abbrev s_law : Stmt := top 54
/-- a def of the text as it stands behind the top (Table's __init__ alone has a default) -/
abbrev FnP (K : PySem.W.Frag) (x q : Str) (st : Stmt) (f : Addr) (fd : FuncData) : Prop := FunD K x q (defArgs st) (defBody st) (defScope st) [] [] f fd
def glD (x : Str) (st : Stmt) : He.DefD := ⟨(x, none), x, x, defArgs st, defBody st, defScope st, [], []⟩
def meD (c m q : Str) (st : Stmt) : He.DefD := ⟨(c, some m), m, q, defArgs st, defBody st, defScope st, [], []⟩
def defs1 : List He.DefD := [glD "require" s_require, ⟨("Table", some "__init__"), "__init__", "Table.__init__", defArgs s_Table_init, defBody s_Table_init, defScope s_Table_init, [.adr (He.dflAt ("Table", some "__init__") 0)], []⟩,
  meD "Table" "is_point" "Table.is_point" s_is_point, meD "Table" "check_point" "Table.check_point" s_check_point, glD "is_name" s_is_name, glD "is_ball" s_is_ball, glD "check_ball" s_check_ball, glD "inverse" s_inverse,
  glD "chinese" s_chinese, glD "solved" s_solved, glD "united" s_united, glD "point_classes" s_point_classes, glD "crossed" s_crossed, glD "is_class" s_is_class, glD "are_apart" s_are_apart,
  meD "Times" "__init__" "Times.__init__" s_Times_init, meD "Times" "is_within" "Times.is_within" s_is_within, meD "Times" "next_from" "Times.next_from" s_next_from, glD "at_point" s_at_point, glD "fall_of" s_fall_of]
def defs2 : List He.DefD := [glD "phase_of" s_phase_of, glD "fold" s_fold, glD "part_at" s_part_at, glD "parts_of" s_parts_of, glD "place_at" s_place_at,
  glD "_law_row" s_row, glD "_law_numbers" s_numbers, glD "_law_great" s_great, glD "_law_directions" s_directions, glD "_law_gcd" s_gcd, glD "_law_inverse" s_linverse, glD "_law_agreed" s_agreed,
  glD "_law_part_classes" s_part_classes, glD "_law_first_at" s_first_at, glD "_law_great_table" s_great_table, glD "_law_fold" s_lfold, glD "_law_ball_of" s_ball_of, glD "law" s_law]
def defs : List He.DefD := defs1 ++ defs2
def gloNames : List Str := ["require", "Table", "is_name", "is_ball", "check_ball", "WHOLE", "inverse", "chinese", "solved", "united", "point_classes", "crossed", "is_class", "are_apart", "Times", "at_point", "fall_of",
  "phase_of", "fold", "part_at", "parts_of", "place_at"]
def gloNames2 : List Str := ["_law_row", "_law_numbers", "_law_great", "_law_directions", "_law_gcd", "_law_inverse", "_law_agreed", "_law_part_classes", "_law_first_at", "_law_great_table", "_law_fold", "_law_ball_of", "law"]
def freeNames : List Str := ["len", "range", "abs", "int", "min", "max", "tuple", "list", "sorted", "enumerate", "all", "isinstance", "repr"]
def facts1 : List He.Fa := gloNames.map .glo ++ gloNames2.map .glo ++ freeNames.map .free
def facts2 : List He.Fa := [.int "MOST" 1000000000000000000000000000000, .int "MOST_POCKETS" 12, .int "MOST_NAME_CHARS" 12, .int "MOST_CLASSES" 64, .str "NAME_CHARS" "abcdefghijklmnopqrstuvwxyz0123456789",
  .cls "Table", .cls "Times", .mkr "Table", .mkr "Times", .noat "Table" "width", .noat "Table" "height", .noat "Table" "pockets", .noat "Times" "start", .noat "Times" "end", .noat "Times" "classes",
  .meth "Table" "is_point", .meth "Table" "check_point", .meth "Times" "is_within", .meth "Times" "next_from"]
def facts : List He.Fa := facts1 ++ facts2
/-- the tuple in WHOLE -/
def wholeT (K : PySem.W.Frag) : Addr := match K.lookup (He.ga K "WHOLE") with
  | some ⟨_, _, .seq its _, _⟩ => (match its.toList[0]? with
    | some (Value.ref a) => a
    | _ => 0)
  | _ => 0
def tupAtB (K : PySem.W.Frag) (a : Addr) (vs : List V) : Bool := match K.lookup a with
  | some ⟨.type c, _, .seq its _, _⟩ => decide (c = "tuple") && (decide (its.size ≤ sizeLine) && He.relAll vs its.toList)
  | _ => false
def exB (K : PySem.W.Frag) : Bool := He.eqO (PySem.W.nsIn K mainGlobals "gcd") (some (some (.builtin "math.gcd"))) && (He.lstB K "WHOLE" [.adr wholeT] && tupAtB K (wholeT K) [.int 0, .int 1])
theorem tupAtB_ok {K : PySem.W.Frag} {a : Addr} {vs : List V} (h : tupAtB K a vs = true) (H : Hp) : SqT K H a vs := by
  unfold tupAtB at h
  cases q : K.lookup a with
  | none =>
    rw [q] at h
    cases h
  | some o =>
    obtain ⟨oc, od, dt, osl⟩ := o
    rw [q] at h
    cases oc with
    | type c =>
      cases dt with
      | seq its n =>
        obtain ⟨h1, h2⟩ := He.ba (show (decide (c = "tuple") && (decide (its.size ≤ sizeLine) && He.relAll vs its.toList)) = true from h)
        obtain ⟨h3, h4⟩ := He.ba h2
        exact .inr ⟨_, its, n, q, congrArg Value.type (of_decide_eq_true h1), rfl, of_decide_eq_true h3, He.relAll_ok h4⟩
      | _ => cases h
    | _ => cases dt <;> cases h
/-- what the end leans on -/
def Says (K : PySem.W.Frag) : Prop := He.obsD facts defs K = He.valD defs ∧ exB K = true
def obsK (n : Nat) (g : Addr → Option Obj) : He.AlD × Bool := (He.obsD facts defs (He.frG g (He.asD g n)), exB (He.frG g (He.asD g n)))
def hookK (n : Nat) : PySem.W.Hook where
  α := He.AlD × Bool
  obs := fun s => obsK n s.heap.get?
  val := fun _ => (He.valD defs, true)
  says := fun _ h => ∃ K : PySem.W.Frag, K.In h ∧ Says K
  of := fun _ _ e => ⟨_, He.frG_in, congrArg (fun z : He.AlD × Bool => z.1) e, congrArg (fun z : He.AlD × Bool => z.2) e⟩
  keeps := fun _ _ _ ⟨F, inF, said⟩ still => ⟨F, inF.keeps still, said⟩
abbrev R : PySem.W.OpenRow := PySem.W.OpenLaw.row PySem.Challenge.rw_cushioned_k34_whole_falls_on_great_table
abbrev hk : PySem.W.Hook := hookK 5
def ob (s : PySem.W.SharedT) : He.AlD × Bool := obsK 5 (HandSHeadRun.getT s)
theorem ob_eq (s : PySem.W.SharedT) : ob s = hk.obs s.abs := by
  have e : HandSHeadRun.getT s = s.abs.heap.get? := funext (HandSHeadRun.getT_eq s)
  show obsK 5 (HandSHeadRun.getT s) = obsK 5 s.abs.heap.get?
  rw [e]
def names1 : List PySem.Str := ["_wall", "CushionedError", "InvalidTable", "InvalidBall", "InvalidQuestion", "MOST", "MOST_POCKETS", "require", "Table", "NAME_CHARS", "MOST_NAME_CHARS", "is_name", "is_ball", "check_ball", "WHOLE", "inverse", "chinese", "solved", "united", "point_classes", "crossed"]
def names2 : List PySem.Str := ["MOST_CLASSES", "is_class", "are_apart", "Times", "at_point", "fall_of", "phase_of", "fold", "part_at", "parts_of", "place_at", "_law_row", "_law_numbers", "_law_great", "_law_directions", "_law_gcd", "_law_inverse", "_law_agreed", "_law_part_classes", "_law_first_at", "_law_great_table", "_law_fold", "_law_ball_of"]
def names : List PySem.Str := names1 ++ names2
theorem run (w : World) : HandSHeadRun.RunEqI R (PySem.W.view R.prog [0, 54]) hk ob 4000 names w := by
  unfold HandSHeadRun.RunEqI
  kernel_rfl
end K34
open PySem PySem.W PySem.Calls PyProof.Rows
theorem K34.end_ (call : ∀ {q : Program} {loose : List Str} {XP : (Str → Option Value) → Heap → Prop}, WalkO q loose XP K34.hk.says K34.R.toRowW (HandSHeadRun.topDef K34.R.prog 54) [] fun f vs => PySem.call f vs) : PySem.Challenge.rw_cushioned_k34_whole_falls_on_great_table.Holds := by
  w_on; o_law
  refine HandSHeadRun.head_imp (r := OpenLaw.row PySem.Challenge.rw_cushioned_k34_whole_falls_on_great_table) (q := view (OpenLaw.row PySem.Challenge.rw_cushioned_k34_whole_falls_on_great_table).prog [0, 54]) (H := K34.hk) (ob := K34.ob) (M := 4000) (loose := K34.names) (d := HandSHeadRun.topDef (OpenLaw.row PySem.Challenge.rw_cushioned_k34_whole_falls_on_great_table).prog 54) (kwd := []) K34.ob_eq
    K34.run (by kernel_rfl) (by kernel_rfl) (by kernel_rfl) (by rfl) (by first | assumption | decide +kernel) (by decide +kernel) ⟨rfl, rfl, rfl, rfl, rfl, by decide +kernel⟩ ?hw ?hc
  case hw => w_witness2
  case hc => exact call
end
section
set_option Elab.async false
set_option linter.all false
set_option maxRecDepth 100000
set_option maxHeartbeats 5000000
/-! heaps, data, calls: what all defs share -/
namespace K34
open PySem PySem.Spec PyProof.Rows L2
/-! ### heaps -/
theorem same_new {H : Hp} {p : Addr} {o : HO} (h : H p = none) : Same H (upd H p o) := fun b u e => by
  rw [upd_ne (ne_of_none e h)]; exact e
theorem same_set {H H' : Hp} {l : Addr} {o : HO} (s : Same H H') (h : H l = none) : Same H (upd H' l o) := fun b u e => by
  rw [upd_ne (ne_of_none e h)]; exact s b u e
theorem same_add {H H' : Hp} {p : Addr} {o : HO} (s : Same H H') (h : H' p = none) : Same H (upd H' p o) := s.trans (same_new h)
theorem same_tup {K : PySem.W.Frag} {H H' : Hp} {a : Addr} {xs : List V} (e : Same H H') (h : SqT K H a xs) : SqT K H' a xs := by
  rcases h with (own | ⟨o, fro⟩) | mod
  · exact .inl (.inl (e _ _ own))
  · exact .inl (.inr ⟨o, e _ _ fro⟩)
  · exact .inr mod
/-- tuples stay -/
def Tps (H H' : Hp) : Prop := ∀ b, (∀ xs, H b = some (.tup xs) → H' b = some (.tup xs)) ∧ ∀ o u, H b = some (.frz o u) → H' b = some (.frz o u)
theorem Tps.refl (H : Hp) : Tps H H := fun _ => ⟨fun _ e => e, fun _ _ e => e⟩
theorem Tps.trans {H H1 H2 : Hp} (a : Tps H H1) (b : Tps H1 H2) : Tps H H2 := fun c => ⟨fun xs e => (b c).1 xs ((a c).1 xs e), fun o u e => (b c).2 o u ((a c).2 o u e)⟩
theorem Tps.same {H H' : Hp} (e : Same H H') : Tps H H' := fun b => ⟨fun xs q => e b _ q, fun o u q => e b _ q⟩
theorem Tps.setl {H : Hp} {l : Addr} {xs : List V} {o : HO} (h : H l = some (.lst xs)) : Tps H (upd H l o) := fun b =>
  ⟨fun ys e => by rw [upd_ne (ne_of e h (fun q => nomatch q))]; exact e, fun o u e => by rw [upd_ne (ne_of e h (fun q => nomatch q))]; exact e⟩
theorem Tps.setd {H : Hp} {l : Addr} {xs : List (List Key × V)} {o : HO} (h : H l = some (.dT xs)) : Tps H (upd H l o) := fun b =>
  ⟨fun ys e => by rw [upd_ne (ne_of e h (fun q => nomatch q))]; exact e, fun o u e => by rw [upd_ne (ne_of e h (fun q => nomatch q))]; exact e⟩
theorem Tps.seti {H : Hp} {x C dx : Addr} {fs : List (Str × V)} {o : HO} (h : H x = some (.ins C dx fs)) : Tps H (upd H x o) := fun b =>
  ⟨fun ys e => by rw [upd_ne (ne_of e h (fun q => nomatch q))]; exact e, fun o u e => by rw [upd_ne (ne_of e h (fun q => nomatch q))]; exact e⟩
theorem Tps.new {H : Hp} {p : Addr} {o : HO} (h : H p = none) : Tps H (upd H p o) := Tps.same (same_new h)
theorem Tps.tup {K : PySem.W.Frag} {H H' : Hp} {a : Addr} {xs : List V} (e : Tps H H') (h : SqT K H a xs) : SqT K H' a xs := by
  rcases h with (own | ⟨o, fro⟩) | mod
  · exact .inl (.inl ((e _).1 _ own))
  · exact .inl (.inr ⟨o, (e _).2 _ _ fro⟩)
  · exact .inr mod
/-! ### tests whose answer is known -/
theorem ifT {c : Bool} {A B : Prop} (hc : c = true) (h : A) : if c = true then A else B := by
  rw [if_pos hc]; exact h
theorem ifF {c : Bool} {A B : Prop} (hc : c = false) (h : B) : if c = true then A else B := by
  rw [hc, if_neg Bool.false_ne_true]; exact h
theorem eqI_t {x y : Int} (h : x = y) : decide (V.int x = V.int y) = true := decide_eq_true (by rw [h])
theorem eqI_f {x y : Int} (h : x ≠ y) : decide (V.int x = V.int y) = false := decide_eq_false fun q => h (by injection q)
theorem neI_f {x y : Int} (h : x = y) : (!decide (V.int x = V.int y)) = false := by rw [eqI_t h]; rfl
theorem neI_t {x y : Int} (h : x ≠ y) : (!decide (V.int x = V.int y)) = true := by rw [eqI_f h]; rfl
/-- what is wanted of a known truth value -/
theorem qB {Q : VK} {c b : Bool} {H : Hp} (e : c = b) (h : Q (.bl b) H) : Q (.bl c) H := by rw [e]; exact h
/-! ### data -/
/-- a pair of ints -/
def T2 (K : PySem.W.Frag) (H : Hp) (v : V) (c : Int × Int) : Prop := ∃ a, v = .ref a ∧ SqT K H a [.int c.1, .int c.2]
theorem T2.mono {K : PySem.W.Frag} {H H' : Hp} {v : V} {c : Int × Int} (e : Tps H H') (h : T2 K H v c) : T2 K H' v c := let ⟨a, q, s⟩ := h; ⟨a, q, e.tup s⟩
theorem T2.of {K : PySem.W.Frag} {H : Hp} {p : Addr} {i j : Int} (h : H p = some (.tup [.int i, .int j])) : T2 K H (.ref p) (i, j) := ⟨p, rfl, .of h⟩
theorem T2.new {K : PySem.W.Frag} {H : Hp} {p : Addr} {i j : Int} : T2 K (upd H p (.tup [.int i, .int j])) (.ref p) (i, j) := .of upd_same
/-- item by item -/
inductive All2 {α β : Type} (R : α → β → Prop) : List α → List β → Prop
  | nil : All2 R [] []
  | cons {a : α} {b : β} {as : List α} {bs : List β} : R a b → All2 R as bs → All2 R (a :: as) (b :: bs)
namespace All2
variable {α β : Type} {R R' : α → β → Prop}
theorem length {as : List α} {bs : List β} (h : All2 R as bs) : as.length = bs.length := by
  induction h with
  | nil => rfl
  | cons _ _ ih => simp [ih]
theorem imp {as : List α} {bs : List β} (h : All2 R as bs) (f : ∀ a b, R a b → R' a b) : All2 R' as bs := by
  induction h with
  | nil => exact .nil
  | cons r _ ih => exact .cons (f _ _ r) ih
theorem append {as as' : List α} {bs bs' : List β} (h : All2 R as bs) (h' : All2 R as' bs') : All2 R (as ++ as') (bs ++ bs') := by
  induction h with
  | nil => exact h'
  | cons r _ ih => exact .cons r ih
theorem snoc {as : List α} {bs : List β} {a : α} {b : β} (h : All2 R as bs) (r : R a b) : All2 R (as ++ [a]) (bs ++ [b]) := h.append (.cons r .nil)
theorem get {as : List α} {bs : List β} (h : All2 R as bs) : ∀ {i : Nat} {a : α}, as[i]? = some a → ∃ b, bs[i]? = some b ∧ R a b := by
  induction h with
  | nil => intro _ _ none_there; simp at none_there
  | cons r _ ih =>
    intro i a e
    cases i with
    | zero => simp at e; subst e; exact ⟨_, rfl, r⟩
    | succ i => simp at e; obtain ⟨b, h1, h2⟩ := ih e; exact ⟨b, by simpa using h1, h2⟩
theorem mem {as : List α} {bs : List β} (h : All2 R as bs) : ∀ {a : α}, a ∈ as → ∃ b ∈ bs, R a b := by
  intro a ha
  obtain ⟨i, hi, e⟩ := List.mem_iff_getElem.mp ha
  obtain ⟨b, h1, h2⟩ := h.get (i := i) (a := a) (by rw [List.getElem?_eq_getElem hi, e])
  exact ⟨b, List.mem_of_getElem? h1, h2⟩
/-- an arrangement of the left is one of the right -/
theorem perm {as as' : List α} (p : as'.Perm as) : ∀ {bs : List β}, All2 R as bs → ∃ bs', bs'.Perm bs ∧ All2 R as' bs' := by
  induction p with
  | nil => intro bs h; exact ⟨bs, .refl _, h⟩
  | cons a p ih =>
    intro bs h
    cases h with
    | cons r t =>
      obtain ⟨bs', p', h'⟩ := ih t
      exact ⟨_ :: bs', p'.cons _, .cons r h'⟩
  | swap a b l =>
    intro bs h
    cases h with
    | cons r t =>
      cases t with
      | cons r' t => exact ⟨_ :: _ :: _, .swap _ _ _, .cons r' (.cons r t)⟩
  | trans p1 p2 ih1 ih2 =>
    intro bs h
    obtain ⟨bs', q1, h1⟩ := ih2 h
    obtain ⟨bs'', q2, h2⟩ := ih1 h1
    exact ⟨bs'', q2.trans q1, h2⟩
end All2
/-- pairs of ints -/
abbrev Cs (K : PySem.W.Frag) (H : Hp) (vs : List V) (cs : List (Int × Int)) : Prop := All2 (T2 K H) vs cs
theorem Cs.mono {K : PySem.W.Frag} {H H' : Hp} {vs : List V} {cs : List (Int × Int)} (e : Tps H H') (h : Cs K H vs cs) : Cs K H' vs cs := All2.imp h fun _ _ q => q.mono e
/-- a list of pairs of ints -/
def LC (K : PySem.W.Frag) (H : Hp) (v : V) (cs : List (Int × Int)) : Prop := ∃ a vs, v = .ref a ∧ H a = some (.lst vs) ∧ Cs K H vs cs
theorem LC.same {K : PySem.W.Frag} {H H' : Hp} {v : V} {cs : List (Int × Int)} (e : Same H H') (h : LC K H v cs) : LC K H' v cs := let ⟨a, vs, q, s, c⟩ := h; ⟨a, vs, q, e _ _ s, c.mono (Tps.same e)⟩
/-- None or a pair of ints -/
def O2 (K : PySem.W.Frag) (H : Hp) (v : V) : Option (Int × Int) → Prop
  | none => v = .non
  | some c => T2 K H v c
theorem O2.mono {K : PySem.W.Frag} {H H' : Hp} {v : V} {o : Option (Int × Int)} (e : Tps H H') (h : O2 K H v o) : O2 K H' v o := by
  cases o with
  | none => exact h
  | some c => exact T2.mono e h
/-! ### the same as data of any depth -/
def pD (c : Int × Int) : PyData := .tuple [.int c.1, .int c.2]
theorem T2.dp {K : PySem.W.Frag} {H : Hp} {v : V} {c : Int × Int} (h : T2 K H v c) : Dp K H v (pD c) := by
  obtain ⟨a, rfl, s⟩ := h
  exact .tup s (.cons (.int _) (.cons (.int _) .nil))
theorem Cs.dp {K : PySem.W.Frag} {H : Hp} {vs : List V} {cs : List (Int × Int)} (h : Cs K H vs cs) : DpAll K H vs (cs.map pD) := by
  induction h with
  | nil => exact .nil
  | cons r _ ih => exact .cons r.dp ih
theorem LC.dp {K : PySem.W.Frag} {H : Hp} {v : V} {cs : List (Int × Int)} (h : LC K H v cs) : Dp K H v (.list (cs.map pD)) := by
  obtain ⟨a, vs, rfl, s, c⟩ := h
  exact .lst (.of s) c.dp
theorem pD_lay (c : Int × Int) : (pD c).canLay0 = true := by simp [pD, PyData.canLay0, PyData.canLayAll0]
theorem pD_depth (c : Int × Int) : (pD c).depth = 1 := by simp [pD, PyData.depth, PyData.depthAll]
theorem pDs_lay : ∀ cs : List (Int × Int), PyData.canLayAll0 (cs.map pD) = true
  | [] => by rw [List.map_nil]; simp [PyData.canLayAll0]
  | c :: cs => by simp [PyData.canLayAll0, pD_lay c, pDs_lay cs]
theorem pDs_depth : ∀ cs : List (Int × Int), PyData.depthAll (cs.map pD) ≤ 1
  | [] => by rw [List.map_nil]; simp [PyData.depthAll]
  | c :: cs => by
    have h1 := pDs_depth cs
    have h2 := pD_depth c
    simp only [PyData.depthAll, List.map_cons]
    omega
theorem shaped_of {d : PyData} (h1 : d.canLay0 = true) (h2 : d.depth ≤ 64) : SeqAt.shaped d = true := by
  show (d.canLay0 && decide (d.depth ≤ 64)) = true
  rw [Bool.and_eq_true]
  exact ⟨h1, decide_eq_true h2⟩
theorem pD_shaped (c : Int × Int) : SeqAt.shaped (pD c) = true := shaped_of (pD_lay c) (by rw [pD_depth]; decide)
theorem pDs_shaped (cs : List (Int × Int)) : SeqAt.shaped (.list (cs.map pD)) = true := shaped_of (by simp only [PyData.canLay0]; exact pDs_lay cs) (by
  have := pDs_depth cs
  simp only [PyData.depth]; omega)
theorem pDt_shaped (cs : List (Int × Int)) : SeqAt.shaped (.tuple (cs.map pD)) = true := shaped_of (by simp only [PyData.canLay0]; exact pDs_lay cs) (by
  have := pDs_depth cs
  simp only [PyData.depth]; omega)
theorem pD_eqv (c d : Int × Int) : PyData.eqv (pD c) (pD d) = decide (c = d) := by
  obtain ⟨a, b⟩ := c
  obtain ⟨a', b'⟩ := d
  have e : PyData.eqv (pD (a, b)) (pD (a', b')) = ((a == a') && ((b == b') && true)) := by simp only [pD, PyData.eqv, PyData.eqvAll]
  rw [e]
  by_cases h : ((a, b) : Int × Int) = (a', b')
  · cases h
    simp
  · rw [decide_eq_false h]
    by_cases h1 : a = a'
    · have q : (b == b') = false := beq_eq_false_iff_ne.mpr fun z => h (by rw [h1, z])
      rw [q, Bool.false_and, Bool.and_false]
    · rw [beq_eq_false_iff_ne.mpr h1, Bool.false_and]
theorem pD_any (cs : List (Int × Int)) (d : Int × Int) : ((cs.map pD).any fun z => PyData.eqv z (pD d)) = decide (d ∈ cs) := by
  induction cs with
  | nil => simp
  | cons c cs ih =>
    rw [List.map_cons, List.any_cons, ih, pD_eqv]
    by_cases h : c = d
    · rw [decide_eq_true h, Bool.true_or, decide_eq_true (by rw [h]; exact List.mem_cons_self)]
    · rw [decide_eq_false h, Bool.false_or]
      congr 1
      simp only [List.mem_cons, eq_iff_iff]
      constructor
      · exact fun q => .inr q
      · rintro (q | q)
        · exact absurd q.symm h
        · exact q
/-! ### calls of the text's own defs -/
structure Cal (P : Program) (w : World) (K : PySem.W.Frag) (mg : Str → Option Value) (base : Heap) (x : Str) (ps : List Str) (k : Nat) (sp : Sp) (f : Addr) (fd : FuncData) : Prop where
  g : mg x = some (.ref f)
  (kp : PySem.W.keepIn K (.ref f) = true)
  b : Binds K fd ps []
  ok : FnOk P w K mg base CX0 k f fd ps sp
structure CalM (P : Program) (w : World) (K : PySem.W.Frag) (mg : Str → Option Value) (base : Heap) (C : Addr) (m : Str) (ps : List Str) (k : Nat) (sp : Sp) (f : Addr) (fd : FuncData) : Prop where
  cl : Cls K C
  me : Meth K C m f
  b : Binds K fd ps []
  ok : FnOk P w K mg base CX0 k f fd ps sp
section
variable {X : Cx} {k : Nat} {f C : Addr} {fd : FuncData} {ps : List Str} {sp : Sp} {x m : Str} {p pos apos : Pos} {e o : Expr} {es : List Expr} {ta : TE} {t : TA}
theorem pe_cal (c : Cal X.prog X.w X.K X.mg X.base x ps k sp f fd) (hr : Room k X.A) (ha : PA X (e :: es) t) (hg : Gl X x := by rfl) (hdb : (x == ("__debug__" : Str)) = false := by decide)
    (he : starEach (e :: es) X.env = (false, eval e X.env) :: starEach es X.env := by rfl) (hpl : (backTo pos (starEach es X.env)).any (·.1) = false := by rfl) : PE X (.Call (.Name x p) (e :: es) [] pos) (tCall sp [] E0 t) :=
  pe_call c.ok hr hg c.g c.kp c.b .nil pass0 ha hdb he hpl
theorem pe_cal0 (c : Cal X.prog X.w X.K X.mg X.base x ps k sp f fd) (hr : Room k X.A) (hg : Gl X x := by rfl) (hdb : (x == ("__debug__" : Str)) = false := by decide) : PE X (.Call (.Name x p) [] [] pos) (tCall sp [] E0 tNil) :=
  pe_call0 c.ok hr hg c.g c.kp c.b .nil pass0 hdb
end
/-! ### what the top has written -/
structure Top (K : PySem.W.Frag) (mg : Str → Option Value) : Prop where
  free : ∀ x ∈ freeNames, mg x = none
  gcd : mg "gcd" = some (.builtin "math.gcd")
  most : ∃ t, mg "MOST" = some (.int 1000000000000000000000000000000 t)
  mpk : ∃ t, mg "MOST_POCKETS" = some (.int 12 t)
  mnc : ∃ t, mg "MOST_NAME_CHARS" = some (.int 12 t)
  mcl : ∃ t, mg "MOST_CLASSES" = some (.int 64 t)
  nch : ∃ t, mg "NAME_CHARS" = some (.str "abcdefghijklmnopqrstuvwxyz0123456789" t)
  whole : ∃ a b, mg "WHOLE" = some (.ref a) ∧ ∀ H, SqL K H a [.ref b] ∧ SqT K H b [.int 0, .int 1]
namespace Top
variable {K : PySem.W.Frag} {mg : Str → Option Value}
theorem len (T : Top K mg) : mg "len" = none := T.free _ (by simp [freeNames])
theorem range (T : Top K mg) : mg "range" = none := T.free _ (by simp [freeNames])
theorem abs (T : Top K mg) : mg "abs" = none := T.free _ (by simp [freeNames])
theorem int (T : Top K mg) : mg "int" = none := T.free _ (by simp [freeNames])
theorem min (T : Top K mg) : mg "min" = none := T.free _ (by simp [freeNames])
theorem max (T : Top K mg) : mg "max" = none := T.free _ (by simp [freeNames])
theorem tuple (T : Top K mg) : mg "tuple" = none := T.free _ (by simp [freeNames])
theorem list (T : Top K mg) : mg "list" = none := T.free _ (by simp [freeNames])
theorem sorted (T : Top K mg) : mg "sorted" = none := T.free _ (by simp [freeNames])
theorem enumerate (T : Top K mg) : mg "enumerate" = none := T.free _ (by simp [freeNames])
theorem all (T : Top K mg) : mg "all" = none := T.free _ (by simp [freeNames])
theorem isinstance (T : Top K mg) : mg "isinstance" = none := T.free _ (by simp [freeNames])
theorem repr (T : Top K mg) : mg "repr" = none := T.free _ (by simp [freeNames])
end Top
theorem hb_len : bootBuiltins "len" = some (.builtin "len") := by decide +kernel
theorem hb_abs : bootBuiltins "abs" = some (.builtin "abs") := by decide +kernel
theorem hb_int : bootBuiltins "int" = some (.type "int") := by decide +kernel
theorem hb_min : bootBuiltins "min" = some (.builtin "min") := by decide +kernel
theorem hb_max : bootBuiltins "max" = some (.builtin "max") := by decide +kernel
theorem hb_tuple : bootBuiltins "tuple" = some (.type "tuple") := by decide +kernel
theorem hb_list : bootBuiltins "list" = some (.type "list") := by decide +kernel
theorem hb_sorted : bootBuiltins "sorted" = some (.builtin "sorted") := by decide +kernel
theorem hb_all : bootBuiltins "all" = some (.builtin "all") := by decide +kernel
theorem hb_isinstance : bootBuiltins "isinstance" = some (.builtin "isinstance") := by decide +kernel
theorem hb_repr : bootBuiltins "repr" = some (.builtin "repr") := by decide +kernel
theorem bindsF {K : PySem.W.Frag} {x q : Str} {st : Stmt} {f : Addr} {fd : FuncData} {ps : List Str} (F : FnP K x q st f fd)
    (h : ∀ (kV doc pm : Value) (an : Option Addr) (cdv ct : Value) (us : List Value), us.length = ps.length → bindArgs (PySem.W.fnOf x q (defArgs st) (defBody st) (defScope st) .none kV doc pm an cdv ct) ⟨us, []⟩ = pure (ps.zip us)) : Binds K fd ps [] := FunD.bindsN F h
section
variable {base : Heap} {mg : Str → Option Value} {K : PySem.W.Frag} {w : World} {P : Program}
/-- a def of which nothing is raised: its body's term and reading -/
theorem okB {x q : Str} {st : Stmt} {f : Addr} {fd : FuncData} {dvs : List V} {N ps : List Str} {k : Nat} {sp : Sp} (F : FunD K x q (defArgs st) (defBody st) (defScope st) dvs [] f fd) (S : FnScope N ps (defScope st)) (len : ∀ vs H Q E, sp vs H Q E → vs.length = ps.length)
    (hbody : ∀ (cdv : Value) (A : Around) (outer : List Env) (s : Shared) (H : Hp) (vs : List V) (Q : VK) (E : XK), Room k (A.deeper (envOfC q (defScope st) s.heap.objs.size f cdv)) → sp vs H Q E →
      ∃ t, PSs (cxOf CX0 P w K mg base N q (defScope st) f cdv A outer s H E).nox (defBody st) t ∧ t { nx := fun _ H' => Q .non H', rt := Q } (start N vs) H) : FnOk P w K mg base CX0 (k + 1) f fd ps sp :=
  F.ok S len fun cdv A outer s H vs Q E hr h => let ⟨t, p, r⟩ := hbody cdv A outer s H vs Q E hr h; ⟨t, p.nox, r⟩
end
end K34
end
section
set_option Elab.async false
set_option linter.all false
set_option maxRecDepth 100000
set_option maxHeartbeats 5000000
namespace K34
open PySem PySem.Spec PyProof.Rows L2
/-! ### promises of the small defs -/
def tabF (w h : Int) (pk : Addr) : List (Str × V) := putF "pockets" (.ref pk) (putF "height" (.int h) (putF "width" (.int w) []))
theorem n_ph : ¬ (("pockets" : Str) = "height") := by decide +kernel
theorem n_pw : ¬ (("pockets" : Str) = "width") := by decide +kernel
theorem n_hw : ¬ (("height" : Str) = "width") := by decide +kernel
theorem n_hp : ¬ (("height" : Str) = "pockets") := by decide +kernel
theorem n_wp : ¬ (("width" : Str) = "pockets") := by decide +kernel
theorem n_wh : ¬ (("width" : Str) = "height") := by decide +kernel
theorem tabF_w (w h : Int) (pk : Addr) : (tabF w h pk).lookup ("width" : Str) = some (.int w) := by
  unfold tabF
  rw [lookup_putF, if_neg n_wp, lookup_putF, if_neg n_wh, lookup_putF, if_pos rfl]
theorem tabF_h (w h : Int) (pk : Addr) : (tabF w h pk).lookup ("height" : Str) = some (.int h) := by
  unfold tabF
  rw [lookup_putF, if_neg n_hp, lookup_putF, if_pos rfl]
theorem tabF_p (w h : Int) (pk : Addr) : (tabF w h pk).lookup ("pockets" : Str) = some (.ref pk) := by
  unfold tabF
  rw [lookup_putF, if_pos rfl]
theorem tabF_no (w h : Int) (pk : Addr) {m : Str} (h1 : ¬ m = "pockets") (h2 : ¬ m = "height") (h3 : ¬ m = "width") : (tabF w h pk).lookup m = none := by
  unfold tabF
  rw [lookup_putF, if_neg h1, lookup_putF, if_neg h2, lookup_putF, if_neg h3]
  all_goals rfl
/-- a table stands at t -/
def Tab (H : Hp) (C t : Addr) (w h : Int) (pk : Addr) : Prop := ∃ dx, H t = some (.ins C dx (tabF w h pk))
theorem Tab.same {H H' : Hp} {C t : Addr} {w h : Int} {pk : Addr} (e : Same H H') (q : Tab H C t w h pk) : Tab H' C t w h pk := let ⟨dx, p⟩ := q; ⟨dx, e _ _ p⟩
/-- what is known of the class Table -/
structure TabC (K : PySem.W.Frag) (C : Addr) : Prop where
  cl : Cls K C
  nw : NoAttr K C "width"
  nh : NoAttr K C "height"
  np : NoAttr K C "pockets"
structure TimC (K : PySem.W.Frag) (C : Addr) : Prop where
  cl : Cls K C
  ns : NoAttr K C "start"
  ne : NoAttr K C "end"
  nc : NoAttr K C "classes"
def timF (M : Int) (l : Addr) : List (Str × V) := putF "classes" (.ref l) (putF "end" .non (putF "start" (.int M) []))
theorem n_ce : ¬ (("classes" : Str) = "end") := by decide +kernel
theorem n_cs : ¬ (("classes" : Str) = "start") := by decide +kernel
theorem n_es : ¬ (("end" : Str) = "start") := by decide +kernel
theorem n_ec : ¬ (("end" : Str) = "classes") := by decide +kernel
theorem n_sc : ¬ (("start" : Str) = "classes") := by decide +kernel
theorem n_se : ¬ (("start" : Str) = "end") := by decide +kernel
theorem timF_s (M : Int) (l : Addr) : (timF M l).lookup ("start" : Str) = some (.int M) := by
  unfold timF
  rw [lookup_putF, if_neg n_sc, lookup_putF, if_neg n_se, lookup_putF, if_pos rfl]
theorem timF_e (M : Int) (l : Addr) : (timF M l).lookup ("end" : Str) = some .non := by
  unfold timF
  rw [lookup_putF, if_neg n_ec, lookup_putF, if_pos rfl]
theorem timF_c (M : Int) (l : Addr) : (timF M l).lookup ("classes" : Str) = some (.ref l) := by
  unfold timF
  rw [lookup_putF, if_pos rfl]
theorem timF_no (M : Int) (l : Addr) {m : Str} (h1 : ¬ m = "classes") (h2 : ¬ m = "end") (h3 : ¬ m = "start") : (timF M l).lookup m = none := by
  unfold timF
  rw [lookup_putF, if_neg h1, lookup_putF, if_neg h2, lookup_putF, if_neg h3]
  all_goals rfl
def Tim (H : Hp) (C t : Addr) (M : Int) (l : Addr) : Prop := ∃ dx, H t = some (.ins C dx (timF M l))
theorem Tim.same {H H' : Hp} {C t : Addr} {M : Int} {l : Addr} (e : Same H H') (q : Tim H C t M l) : Tim H' C t M l := let ⟨dx, p⟩ := q; ⟨dx, e _ _ p⟩
def spRequire : Sp := fun vs H Q _ => vs = [.bl true] ∧ Q .non H
def spIsPoint (K : PySem.W.Frag) (C : Addr) : Sp := fun vs H Q _ => ∃ t v w h pk c, vs = [.ref t, v] ∧ Tab H C t w h pk ∧ T2 K H v c ∧ (0 ≤ c.1 ∧ c.1 ≤ w ∧ 0 ≤ c.2 ∧ c.2 ≤ h) ∧ Q (.bl true) H
def spCheckPoint (K : PySem.W.Frag) (C : Addr) : Sp := fun vs H Q _ => ∃ t v w h pk c, vs = [.ref t, v] ∧ Tab H C t w h pk ∧ T2 K H v c ∧ (0 ≤ c.1 ∧ c.1 ≤ w ∧ 0 ≤ c.2 ∧ c.2 ≤ h) ∧ Q .non H
def spApart (K : PySem.W.Frag) : Sp := fun vs H Q _ => ∃ v u c d, vs = [v, u] ∧ T2 K H v c ∧ T2 K H u d ∧ (0 < c.2 ∧ c.1 % (Int.gcd c.2 d.2 : Int) ≠ d.1 % (Int.gcd c.2 d.2 : Int)) ∧ Q (.bl true) H
def spWithin (C : Addr) : Sp := fun vs H Q _ => ∃ t M l m, vs = [.ref t, .int m] ∧ Tim H C t M l ∧ M ≤ m ∧ Q (.bl true) H
def spFold : Sp := fun vs H Q _ => ∃ s n, vs = [.int s, .int n] ∧ 0 < s ∧ Q (.int (foldZ s n)) H
def spPhase : Sp := fun vs H Q _ => ∃ s x d, vs = [.int s, .int x, .int d] ∧ 0 < s ∧ Q (.int (phaseZ s x d)) H
def spPart : Sp := fun vs H Q _ => ∃ s x d t, vs = [.int s, .int x, .int d, .int t] ∧ 0 < s ∧ Q (.int (partZ s x d t)) H
section
variable {P : Program} {w : World} {K : PySem.W.Frag} {mg : Str → Option Value} {base : Heap} {f : Addr} {fd : FuncData}
theorem sc_require : FnScope ["holds"] ["holds"] (defScope s_require) := ⟨rfl, rfl, rfl, by decide +kernel, rfl, by decide +kernel, by decide +kernel⟩
theorem ok_require (F : FnP K "require" "require" s_require f fd) : FnOk P w K mg base CX0 1 f fd ["holds"] spRequire := by
  refine okB F sc_require (fun vs H Q E h => ?_) (fun cdv A outer s H vs Q E hr h => ?_)
  · obtain ⟨rfl, _⟩ := h; rfl
  · obtain ⟨rfl, hQ⟩ := h
    refine ⟨_, pss_one (ps_if (pt_not (pt_val (pv 0))) (pss_one ps_never) pss_nil), ?_⟩
    exact ⟨_, rfl, _, rfl, iteF hQ⟩
theorem sc_is_point : FnScope ["self", "point"] ["self", "point"] (defScope s_is_point) := ⟨rfl, rfl, rfl, by decide +kernel, rfl, by decide +kernel, by decide +kernel⟩
theorem ok_is_point {C : Addr} (F : FnP K "is_point" "Table.is_point" s_is_point f fd) (T : TabC K C) : FnOk P w K mg base CX0 1 f fd ["self", "point"] (spIsPoint K C) := by
  refine okB F sc_is_point (fun vs H Q E h => ?_) (fun cdv A outer s H vs Q E hr h => ?_)
  · obtain ⟨t, v, w', h', pk, c, rfl, _⟩ := h; rfl
  · obtain ⟨t, v, w', h', pk, c, rfl, ⟨dx, hT⟩, ⟨a, rfl, hA⟩, ⟨h1, h2, h3, h4⟩, hQ⟩ := h
    refine ⟨_, pss_one (ps_ret (pe_and (pe_chain op_le op_le pe_int (pe_ix ix_tup (pv 1) pe_int (fun _ _ => rfl)) (pe_fld (pv 0) rfl))
      (pe_one (pe_chain op_le op_le pe_int (pe_ix ix_tup (pv 1) pe_int (fun _ _ => rfl)) (pe_fld (pv 0) rfl))))), ?_⟩
    refine ⟨_, rfl, a, _, _, _, rfl, rfl, hA, rfl, _, _, rfl, rfl, _, rfl, ?_⟩
    rw [decide_eq_true h1]
    refine iteT ⟨_, rfl, t, C, dx, _, _, rfl, hT, T.cl, T.nw, tabF_w _ _ _, _, _, rfl, rfl, _, rfl, ?_⟩
    rw [decide_eq_true h2]
    refine iteT ?_
    refine ⟨_, rfl, a, _, _, _, rfl, rfl, hA, rfl, _, _, rfl, rfl, _, rfl, ?_⟩
    rw [decide_eq_true h3]
    refine iteT ⟨_, rfl, t, C, dx, _, _, rfl, hT, T.cl, T.nh, tabF_h _ _ _, _, _, rfl, rfl, ?_⟩
    show Q (.bl (decide (c.2 ≤ h'))) H
    rw [decide_eq_true h4]
    exact hQ
theorem sc_check_point : FnScope ["self", "point"] ["self", "point"] (defScope s_check_point) := ⟨rfl, rfl, rfl, by decide +kernel, rfl, by decide +kernel, by decide +kernel⟩
theorem ok_check_point {C fP : Addr} {fdP : FuncData} (F : FnP K "check_point" "Table.check_point" s_check_point f fd) (T : TabC K C) (M : CalM P w K mg base C "is_point" ["self", "point"] 1 (spIsPoint K C) fP fdP) :
    FnOk P w K mg base CX0 2 f fd ["self", "point"] (spCheckPoint K C) := by
  refine okB F sc_check_point (fun vs H Q E h => ?_) (fun cdv A outer s H vs Q E hr h => ?_)
  · obtain ⟨t, v, w', h', pk, c, rfl, _⟩ := h; rfl
  · obtain ⟨t, v, w', h', pk, c, rfl, ⟨dx, hT⟩, hA, hr', hQ⟩ := h
    refine ⟨_, pss_one (ps_if (pt_not (pt_val (pe_meth (pv 0) T.cl M.me M.ok hr M.b .nil pass0 (pa_cons (pv 1) pa_nil)))) (pss_one ps_never) pss_nil), ?_⟩
    refine ⟨_, rfl, t, dx, _, rfl, hT, tabF_no _ _ _ (by decide +kernel) (by decide +kernel) (by decide +kernel), _, rfl, t, v, w', h', pk, c, rfl, ⟨dx, hT⟩, hA, hr', _, rfl, iteF hQ⟩
theorem sc_fold : FnScope ["size", "phase", "rest"] ["size", "phase"] (defScope s_fold) := ⟨rfl, rfl, rfl, by decide +kernel, rfl, by decide +kernel, by decide +kernel⟩
theorem ok_fold (F : FnP K "fold" "fold" s_fold f fd) (T : Top K mg) : FnOk P w K mg base CX0 1 f fd ["size", "phase"] spFold := by
  refine okB F sc_fold (fun vs H Q E h => ?_) (fun cdv A outer s H vs Q E hr h => ?_)
  · obtain ⟨s', n, rfl, _⟩ := h; rfl
  · obtain ⟨s', n, rfl, hs, hQ⟩ := h
    refine ⟨_, pss_cons (ps_set (i := 2) sc_fold.nd rfl (Or.inl rfl) (pe_op op_mod (pv 1) (pe_op op_mul pe_int (pv 0))))
      (pss_one (ps_ret (pe_callB (call_min2 rfl) (by rfl) T.min hb_min (pa_cons (pv 2) (pa_cons (pe_op op_sub (pe_op op_mul pe_int (pv 0)) (pv 2)) pa_nil))))), ?_⟩
    refine ⟨_, rfl, _, rfl, _, _, rfl, rfl, .inl ⟨by decide, by decide⟩, _, _, rfl, rfl, (by show 0 < 2 * s'; omega), ?_⟩
    exact ⟨_, rfl, _, rfl, _, _, rfl, rfl, .inl ⟨by decide, by decide⟩, _, rfl, _, _, rfl, rfl, _, _, rfl, hQ⟩
theorem sc_phase : FnScope ["size", "place", "step"] ["size", "place", "step"] (defScope s_phase_of) := ⟨rfl, rfl, rfl, by decide +kernel, rfl, by decide +kernel, by decide +kernel⟩
theorem ok_phase (F : FnP K "phase_of" "phase_of" s_phase_of f fd) : FnOk P w K mg base CX0 1 f fd ["size", "place", "step"] spPhase := by
  refine okB F sc_phase (fun vs H Q E h => ?_) (fun cdv A outer s H vs Q E hr h => ?_)
  · obtain ⟨s', x, d, rfl, _⟩ := h; rfl
  · obtain ⟨s', x, d, rfl, hs, hQ⟩ := h
    refine ⟨_, pss_one (ps_ret (pe_ifExp (pt_cmpR op_eq (pv 2) pe_int (nomark _)) (pv 1) (pe_op op_mod (pe_un un_neg (pv 1)) (pe_op op_mul pe_int (pv 0))))), ?_⟩
    refine ⟨_, rfl, rfl, _, rfl, ?_⟩
    unfold phaseZ at hQ
    by_cases hd : d = 1
    · subst hd
      rw [if_pos rfl] at hQ
      exact iteT ⟨_, rfl, hQ⟩
    · rw [if_neg hd] at hQ
      rw [decide_eq_false (fun q => hd (by injection q))]
      refine iteF ⟨_, rfl, _, rfl, _, rfl, _, _, rfl, rfl, .inl ⟨by decide, by decide⟩, _, _, rfl, rfl, (by show 0 < 2 * s'; omega), hQ⟩
theorem sc_part : FnScope ["size", "place", "step", "passed"] ["size", "place", "step", "passed"] (defScope s_part_at) := ⟨rfl, rfl, rfl, by decide +kernel, rfl, by decide +kernel, by decide +kernel⟩
theorem ok_part {fF fP : Addr} {fdF fdP : FuncData} (F : FnP K "part_at" "part_at" s_part_at f fd) (CF : Cal P w K mg base "fold" ["size", "phase"] 1 spFold fF fdF) (CP : Cal P w K mg base "phase_of" ["size", "place", "step"] 1 spPhase fP fdP) :
    FnOk P w K mg base CX0 2 f fd ["size", "place", "step", "passed"] spPart := by
  refine okB F sc_part (fun vs H Q E h => ?_) (fun cdv A outer s H vs Q E hr h => ?_)
  · obtain ⟨s', x, d, t, rfl, _⟩ := h; rfl
  · obtain ⟨s', x, d, t, rfl, hs, hQ⟩ := h
    refine ⟨_, pss_cons (ps_if (pt_cmpR op_eq (pv 2) pe_int (nomark _)) (pss_one (ps_ret (pv 1))) pss_nil)
      (pss_one (ps_ret (pe_cal CF hr (pa_cons (pv 0) (pa_cons (pe_op op_add (pe_cal CP hr (pa_cons (pv 0) (pa_cons (pv 1) (pa_cons (pv 2) pa_nil)))) (pv 3)) pa_nil))))), ?_⟩
    unfold partZ at hQ
    refine ⟨_, rfl, rfl, _, rfl, ?_⟩
    by_cases hd : d = 0
    · subst hd
      rw [if_pos rfl] at hQ
      exact iteT ⟨_, rfl, hQ⟩
    · rw [if_neg hd] at hQ
      rw [decide_eq_false (fun q => hd (by injection q))]
      exact iteF ⟨_, rfl, _, rfl, _, rfl, _, rfl, s', x, d, rfl, hs, _, rfl, _, _, rfl, rfl, s', _, rfl, hs, hQ⟩
theorem sc_apart : FnScope ["one", "other", "divisor"] ["one", "other"] (defScope s_are_apart) := ⟨rfl, rfl, rfl, by decide +kernel, rfl, by decide +kernel, by decide +kernel⟩
theorem ok_apart (F : FnP K "are_apart" "are_apart" s_are_apart f fd) (T : Top K mg) : FnOk P w K mg base CX0 1 f fd ["one", "other"] (spApart K) := by
  refine okB F sc_apart (fun vs H Q E h => ?_) (fun cdv A outer s H vs Q E hr h => ?_)
  · obtain ⟨v, u, c, d, rfl, _⟩ := h; rfl
  · obtain ⟨v, u, c, d, rfl, ⟨a, rfl, hA⟩, ⟨b, rfl, hB⟩, ⟨hp, hn⟩, hQ⟩ := h
    refine ⟨_, pss_cons (ps_set (i := 2) sc_apart.nd rfl (Or.inl rfl) (pe_callBfun cr_gcd rfl T.gcd (pa_cons (pe_ix ix_tup (pv 0) pe_int (fun _ _ => rfl)) (pa_cons (pe_ix ix_tup (pv 1) pe_int (fun _ _ => rfl)) pa_nil))))
      (pss_one (ps_ret (pe_cmpR op_ne (pe_op op_mod (pe_ix ix_tup (pv 0) pe_int (fun _ _ => rfl)) (pv 2)) (pe_op op_mod (pe_ix ix_tup (pv 1) pe_int (fun _ _ => rfl)) (pv 2)) (nomark _)))), ?_⟩
    have g0 : (0 : Int) < (Int.gcd c.2 d.2 : Int) := by
      have := Int.gcd_pos_of_ne_zero_left d.2 (show c.2 ≠ 0 by omega)
      omega
    refine ⟨_, rfl, a, _, _, _, rfl, rfl, hA, rfl, _, rfl, b, _, _, _, rfl, rfl, hB, rfl, c.2, d.2, rfl, ?_⟩
    refine ⟨_, rfl, a, _, _, _, rfl, rfl, hA, rfl, _, rfl, _, _, rfl, rfl, g0, _, rfl, b, _, _, _, rfl, rfl, hB, rfl, _, rfl, _, _, rfl, rfl, g0, rfl, ?_⟩
    rw [decide_eq_false (fun q => hn (by injection q))]
    exact hQ
theorem sc_within : FnScope ["self", "minute"] ["self", "minute"] (defScope s_is_within) := ⟨rfl, rfl, rfl, by decide +kernel, rfl, by decide +kernel, by decide +kernel⟩
theorem ok_within {C : Addr} (F : FnP K "is_within" "Times.is_within" s_is_within f fd) (T : TimC K C) : FnOk P w K mg base CX0 1 f fd ["self", "minute"] (spWithin C) := by
  refine okB F sc_within (fun vs H Q E h => ?_) (fun cdv A outer s H vs Q E hr h => ?_)
  · obtain ⟨t, M, l, m, rfl, _⟩ := h; rfl
  · obtain ⟨t, M, l, m, rfl, ⟨dx, hT⟩, hm, hQ⟩ := h
    refine ⟨_, pss_one (ps_ret (pe_and (pe_cmpR op_ge (pv 1) (pe_fld (pv 0) rfl) (nomark _)) (pe_one (pe_or (pe_cmpR op_isN (pe_fld (pv 0) rfl) pe_non (nomark _)) (pe_one (pe_cmpR op_le (pv 1) (pe_fld (pv 0) rfl) (nomark _))))))), ?_⟩
    refine ⟨_, rfl, _, rfl, t, C, dx, _, _, rfl, hT, T.cl, T.ns, timF_s _ _, _, _, rfl, rfl, _, rfl, ?_⟩
    rw [decide_eq_true hm]
    exact iteT ⟨_, rfl, t, C, dx, _, _, rfl, hT, T.cl, T.ne, timF_e _ _, rfl, _, rfl, iteT hQ⟩
end
end K34
end
section
set_option Elab.async false
set_option linter.all false
set_option maxRecDepth 100000
set_option maxHeartbeats 5000000
namespace K34
open PySem PySem.Spec PyProof.Rows L2
/-- of at most 190 bits -/
def Big (n : Int) : Prop := n.natAbs < 2 ^ 190
theorem Big.le {x y : Int} (h : Big y) (e : x.natAbs ≤ y.natAbs) : Big x := Nat.lt_of_le_of_lt e h
theorem Big.nn {x y : Int} (h : Big y) (h0 : 0 ≤ x) (e : x ≤ y) : Big x := h.le (by omega)
theorem Big.mul {x y : Int} (h : Big x) (k : Big y) : CMulW x y := wide_mul h k (by decide) (by decide) (by decide)
theorem Big.div {x y : Int} (h0 : 0 < y) (k : Big y) : CDivW x y := wide_div h0 k (by decide) (by decide)
theorem div_abs {a g : Int} (hg : 0 < g) : (a / g).natAbs ≤ a.natAbs := by
  have e : g * (a / g) + a % g = a := Int.mul_ediv_add_emod a g
  have r0 : 0 ≤ a % g := Int.emod_nonneg a (by omega)
  have r1 : a % g < g := Int.emod_lt_of_pos a hg
  by_cases h : 0 ≤ a
  · have h1 := Int.ediv_nonneg h (show 0 ≤ g by omega)
    have h2 := Int.ediv_le_self g h
    omega
  · have h1 : a / g < 0 := Int.ediv_neg_of_neg_of_pos (by omega) hg
    have h2 : g * (a / g) ≤ 1 * (a / g) := Int.mul_le_mul_of_nonpos_right (by omega) (by omega)
    have h3 : a ≤ a / g := by
      by_cases q : a ≤ a / g
      · exact q
      · exfalso
        have q1 : a / g + 1 ≤ a := by omega
        have : a < g * (a / g + 1) := by rw [Int.mul_add]; omega
        have : g * (a / g + 1) ≤ 1 * (a / g + 1) := Int.mul_le_mul_of_nonpos_right (by omega) (by omega)
        omega
    omega
theorem Big.quo {a g : Int} (hg : 0 < g) (h : Big a) : Big (a / g) := h.le (div_abs hg)
theorem Big.diff {c d : Int × Int} (hc : Ok1 c) (hd : Ok1 d) (b1 : Big c.2) (b2 : Big d.2) : Big (d.1 - c.1) := by
  have := hc.lo; have := hc.hi; have := hd.lo; have := hd.hi
  by_cases h : c.2 ≤ d.2
  · exact b2.le (by omega)
  · exact b1.le (by omega)
/-- the class of two -/
def spChin (K : PySem.W.Frag) : Sp := fun vs H Q _ => ∃ v u c d, vs = [v, u] ∧ T2 K H v c ∧ T2 K H u d ∧ (Ok1 c ∧ Ok1 d ∧ Big c.2 ∧ Big d.2) ∧ ∀ H' r, Same H H' → O2 K H' r (chin c d) → Q r H'
/-- the inverse -/
def spInv : Sp := fun vs H Q _ => ∃ a m, vs = [.int a, .int m] ∧ (0 < a ∧ 0 < m ∧ Big a ∧ Big m ∧ Int.gcd a m = 1) ∧ ∀ r H', Same H H' → 0 ≤ r → r < m → m ∣ r * a - 1 → Q (.int r) H'
section
variable {P : Program} {w : World} {K : PySem.W.Frag} {mg : Str → Option Value} {base : Heap} {f : Addr} {fd : FuncData}
theorem sc_inv : FnScope ["number", "modulus", "left", "right", "factor", "following", "quotient"] ["number", "modulus"] (defScope s_inverse) := ⟨rfl, rfl, rfl, by decide +kernel, rfl, by decide +kernel, by decide +kernel⟩
theorem ok_inv (F : FnP K "inverse" "inverse" s_inverse f fd) : FnOk P w K mg base CX0 1 f fd ["number", "modulus"] spInv := by
  refine okB F sc_inv (fun vs H Q E h => ?_) (fun cdv A outer s H vs Q E hr h => ?_)
  · obtain ⟨a, m, rfl, _⟩ := h; rfl
  · obtain ⟨a, m, rfl, ⟨ha, hm, ba, bm, hg⟩, hQ⟩ := h
    refine ⟨_, pss_cons (ps_par (i := 2) (j := 3) (by rfl) sc_inv.nd rfl rfl (by decide) rfl rfl (pa_cons (pv 0) (pa_cons (pv 1) pa_nil)) (by rfl))
      (pss_cons (ps_asg (pe_tup (pa_cons pe_int (pa_cons pe_int pa_nil))) (pg_tup (by rfl) (pgs_cons (pg_name (i := 4) sc_inv.nd rfl (Or.inl rfl)) (pgs_cons (pg_name (i := 5) sc_inv.nd rfl (Or.inl rfl)) pgs_nil))))
      (pss_cons (ps_while PassesOwn.never (pt_cmpR op_gt (pv 3) pe_int (nomark _))
        (pss_cons (ps_set (i := 6) sc_inv.nd rfl (Or.inl rfl) (pe_op op_fdivW (pv 2) (pv 3)))
        (pss_cons (ps_par (i := 2) (j := 3) (by rfl) sc_inv.nd rfl rfl (by decide) rfl rfl (pa_cons (pv 3) (pa_cons (pe_op op_sub (pv 2) (pe_op op_mulW (pv 6) (pv 3))) pa_nil)) (by rfl))
        (pss_one (ps_par (i := 4) (j := 5) (by rfl) sc_inv.nd rfl rfl (by decide) rfl rfl (pa_cons (pv 5) (pa_cons (pe_op op_sub (pv 4) (pe_op op_mulW (pv 6) (pv 5))) pa_nil)) (by rfl))))))
      (pss_one (ps_ret (pe_op op_mod (pv 4) (pv 1)))))), ?_⟩
    refine ⟨_, rfl, _, rfl, _, _, rfl, (by show 2 ≤ sizeLine; decide), fun p hp => ⟨p, _, rfl, .of upd_same, rfl, _, _, rfl, _, _, rfl, rfl, ?_⟩⟩
    refine ⟨fun n σ H' => H' = upd H p (.tup [.int 1, .int 0]) ∧ ∃ (u v s t : Int) (q : Option V), σ = [some (.int a), some (.int m), some (.int u), some (.int v), some (.int s), some (.int t), q] ∧ n = v.toNat ∧ Euc a m u s v t ∧ SameDiv u v a m ∧ Big u ∧ Big v,
      ⟨_, rfl, a, m, 1, 0, none, rfl, rfl, Euc.start ha hm, SameDiv.refl a m, ba, bm⟩, ?_⟩
    rintro n σ H' ⟨rfl, u, v, s, t, q, rfl, rfl, hE, hS, bu, bv⟩
    refine ⟨_, rfl, _, _, rfl, rfl, _, rfl, ?_⟩
    refine ite2 (fun hc => ?_) (fun hc => ?_)
    · have hv : 0 < v := of_decide_eq_true hc
      have h0 : 0 ≤ u / v := Int.ediv_nonneg (by have := hE.pos; omega) (by omega)
      have h1 : u / v ≤ u := Int.ediv_le_self _ (by have := hE.pos; omega)
      have bq : Big (u / v) := bu.nn h0 h1
      have bt : Big t := bm.le (by have := hE.tm; omega)
      have hE' := hE.turn hv
      have hl : u % v < v := Int.emod_lt_of_pos u hv
      have hn : 0 ≤ u % v := Int.emod_nonneg u (by omega)
      have em := Euc.eq_mod u v
      refine ⟨fun σ' H'' => ∃ m', m' < v.toNat ∧ _, fun _ _ h => h, ?_⟩
      refine ⟨_, rfl, _, rfl, _, _, rfl, rfl, Big.div hv bv, ?_⟩
      refine ⟨_, rfl, _, rfl, _, rfl, _, rfl, _, _, rfl, rfl, bq.mul bv, _, _, rfl, rfl, _, _, rfl, ?_⟩
      refine ⟨_, rfl, _, rfl, _, rfl, _, rfl, _, _, rfl, rfl, bq.mul bt, _, _, rfl, rfl, _, _, rfl, ?_⟩
      refine ⟨(u - u / v * v).toNat, by omega, rfl, v, u - u / v * v, t, s - u / v * t, _, rfl, rfl, hE', ?_, bv, bv.nn (by omega) (by omega)⟩
      rw [em]
      exact hS.turn
    · have hv : ¬ 0 < v := fun z => hc (decide_eq_true z)
      have hv0 : v = 0 := by have := hE.nn; omega
      subst hv0
      have hu := hS.fin hE.pos
      rw [hg] at hu
      subst hu
      refine ⟨_, rfl, _, rfl, _, _, rfl, rfl, hm, ?_⟩
      exact hQ (s % m) _ (same_new hp) (Int.emod_nonneg _ (by omega)) (Int.emod_lt_of_pos _ hm) hE.fin
theorem sc_chin : FnScope ["one", "other", "first", "size", "second", "width", "divisor", "step", "modulus"] ["one", "other"] (defScope s_chinese) := ⟨rfl, rfl, rfl, by decide +kernel, rfl, by decide +kernel, by decide +kernel⟩
theorem ok_chin {fI : Addr} {fdI : FuncData} (F : FnP K "chinese" "chinese" s_chinese f fd) (T : Top K mg) (CI : Cal P w K mg base "inverse" ["number", "modulus"] 1 spInv fI fdI) : FnOk P w K mg base CX0 2 f fd ["one", "other"] (spChin K) := by
  refine okB F sc_chin (fun vs H Q E h => ?_) (fun cdv A outer s H vs Q E hr h => ?_)
  · obtain ⟨v, u, c, d, rfl, _⟩ := h; rfl
  · obtain ⟨v, u, c, d, rfl, ⟨a, rfl, hA⟩, ⟨b, rfl, hB⟩, ⟨oc, od, bc, bd⟩, hQ⟩ := h
    refine ⟨_, pss_cons (ps_asg (pv 0) (pg_tup (by rfl) (pgs_cons (pg_name (i := 2) sc_chin.nd rfl (Or.inl rfl)) (pgs_cons (pg_name (i := 3) sc_chin.nd rfl (Or.inl rfl)) pgs_nil))))
      (pss_cons (ps_asg (pv 1) (pg_tup (by rfl) (pgs_cons (pg_name (i := 4) sc_chin.nd rfl (Or.inl rfl)) (pgs_cons (pg_name (i := 5) sc_chin.nd rfl (Or.inl rfl)) pgs_nil))))
      (pss_cons (ps_set (i := 6) sc_chin.nd rfl (Or.inl rfl) (pe_callBfun cr_gcd rfl T.gcd (pa_cons (pv 3) (pa_cons (pv 5) pa_nil))))
      (pss_cons (ps_if (pt_cmpR op_ne (pe_op op_mod (pe_op op_sub (pv 4) (pv 2)) (pv 6)) pe_int (nomark _)) (pss_one (ps_ret pe_non)) pss_nil)
      (pss_cons (ps_set (i := 7) sc_chin.nd rfl (Or.inl rfl) (pe_op op_mulW (pe_op op_fdivW (pe_op op_sub (pv 4) (pv 2)) (pv 6)) (pe_cal CI hr (pa_cons (pe_op op_fdivW (pv 3) (pv 6)) (pa_cons (pe_op op_fdivW (pv 5) (pv 6)) pa_nil)))))
      (pss_cons (ps_set (i := 8) sc_chin.nd rfl (Or.inl rfl) (pe_op op_mulW (pe_op op_fdivW (pv 3) (pv 6)) (pv 5)))
      (pss_one (ps_ret (pe_tup (pa_cons (pe_op op_mod (pe_op op_add (pv 2) (pe_op op_mulW (pv 3) (pe_op op_mod (pv 7) (pe_op op_fdivW (pv 5) (pv 6))))) (pv 8)) (pa_cons (pv 8) pa_nil)))))))))), ?_⟩
    obtain ⟨g0, e1, e2, p0, b0, hone⟩ := cop oc.pos od.pos
    generalize hg : (Int.gcd c.2 d.2 : Int) = g at *
    have gle : g ≤ c.2 := Int.le_of_dvd oc.pos ⟨_, e1⟩
    have bg : Big g := bc.nn (by omega) gle
    have bdf := Big.diff oc od bc bd
    refine ⟨_, rfl, a, _, rfl, hA, rfl, _, _, rfl, _, _, rfl, rfl, ?_⟩
    refine ⟨_, rfl, b, _, rfl, hB, rfl, _, _, rfl, _, _, rfl, rfl, ?_⟩
    refine ⟨_, rfl, _, rfl, c.2, d.2, rfl, ?_⟩
    have hg' : ((Nat.gcd c.2.natAbs d.2.natAbs : Nat) : Int) = g := hg
    rw [hg']
    refine ⟨_, rfl, _, rfl, _, _, rfl, rfl, _, rfl, _, _, rfl, rfl, g0, rfl, _, rfl, ?_⟩
    by_cases hz : (d.1 - c.1) % g = 0
    · refine ifF (neI_f hz) ?_
      refine ⟨_, rfl, _, rfl, _, _, rfl, rfl, _, rfl, _, _, rfl, rfl, Big.div g0 bg, ?_⟩
      refine ⟨_, rfl, _, rfl, _, _, rfl, rfl, Big.div g0 bg, _, rfl, _, rfl, _, _, rfl, rfl, Big.div g0 bg, ?_⟩
      refine ⟨_, _, rfl, ⟨p0, b0, bc.quo g0, bd.quo g0, hone⟩, fun inv H1 s1 i0 i1 iv => ?_⟩
      have binv : Big inv := (bd.quo g0).nn i0 (by omega)
      obtain ⟨hch, _⟩ := chin_is oc od hg.symm rfl rfl rfl hz iv
      refine ⟨_, _, rfl, rfl, (bdf.quo g0).mul binv, ?_⟩
      refine ⟨_, rfl, _, rfl, _, _, rfl, rfl, Big.div g0 bg, _, rfl, _, _, rfl, rfl, (bc.quo g0).mul bd, ?_⟩
      have ew : c.2 / g * d.2 = c.2 * (d.2 / g) := by
        have q1 : c.2 / g * d.2 = c.2 / g * (g * (d.2 / g)) := congrArg (fun z => c.2 / g * z) e2
        have q2 : c.2 * (d.2 / g) = g * (c.2 / g) * (d.2 / g) := congrArg (fun z => z * (d.2 / g)) e1
        rw [q1, q2]
        simp only [Int.mul_assoc, Int.mul_comm, Int.mul_left_comm]
      have hw0 : 0 < c.2 / g * d.2 := Int.mul_pos p0 od.pos
      have m0 : 0 ≤ (d.1 - c.1) / g * inv % (d.2 / g) := Int.emod_nonneg _ (by omega)
      have m1 : (d.1 - c.1) / g * inv % (d.2 / g) < d.2 / g := Int.emod_lt_of_pos _ b0
      refine ⟨_, rfl, _, rfl, _, rfl, _, rfl, _, rfl, _, _, rfl, rfl, Big.div g0 bg, _, _, rfl, rfl, b0, _, _, rfl, rfl, bc.mul ((bd.quo g0).nn m0 (by omega)), _, _, rfl, rfl, _, rfl, _, _, rfl, rfl, hw0, ?_⟩
      refine ⟨_, rfl, (by show 2 ≤ sizeLine; decide), fun p hp => ?_⟩
      refine hQ _ _ (same_add s1 hp) ?_
      rw [hch, ← ew]
      exact T2.new
    · refine ifT (neI_t hz) ?_
      refine hQ H _ (Same.refl H) ?_
      rw [chin_none (by rw [hg]; exact fun q => hz (Int.emod_eq_zero_of_dvd q))]
      rfl
end
end K34
end
section
set_option Elab.async false
set_option linter.all false
set_option maxRecDepth 100000
set_option maxHeartbeats 5000000
namespace K34
open PySem PySem.Spec PyProof.Rows L2
theorem Big.lt {x : Int} (h : Big x) : x < 2 ^ 190 := by unfold Big at h; omega
def spGcd : Sp := fun vs H Q _ => ∃ a b, vs = [.int a, .int b] ∧ (0 < a ∧ 0 < b ∧ Big a ∧ Big b) ∧ ∀ g, g = (Int.gcd a b : Int) → Q (.int g) H
section
variable {P : Program} {w : World} {K : PySem.W.Frag} {mg : Str → Option Value} {base : Heap} {f : Addr} {fd : FuncData}
theorem sc_gcd : FnScope ["_law_one", "_law_other", "_law_turn"] ["_law_one", "_law_other"] (defScope s_gcd) := ⟨rfl, rfl, rfl, by decide +kernel, rfl, by decide +kernel, by decide +kernel⟩
theorem ok_gcd (F : FnP K "_law_gcd" "_law_gcd" s_gcd f fd) (T : Top K mg) : FnOk P w K mg base CX0 1 f fd ["_law_one", "_law_other"] spGcd := by
  refine okB F sc_gcd (fun vs H Q E h => ?_) (fun cdv A outer s H vs Q E hr h => ?_)
  · obtain ⟨a, b, rfl, _⟩ := h; rfl
  · obtain ⟨a, b, rfl, ⟨ha, hb, ba, bb⟩, hQ⟩ := h
    refine ⟨_, pss_cons (ps_for PassesOwn.never rfl (pi_range1 rfl T.range (pa_cons pe_int pa_nil)) (pg_name (i := 2) sc_gcd.nd rfl (Or.inl rfl))
        (pss_one (ps_if (pt_cmpR op_gt (pv 1) pe_int (nomark _)) (pss_one (ps_par (i := 0) (j := 1) (by rfl) sc_gcd.nd rfl rfl (by decide) rfl rfl (pa_cons (pv 1) (pa_cons (pe_op op_mod (pe_callTy call_int1 (by rfl) T.int hb_int (pa_cons (pv 0) pa_nil)) (pv 1)) pa_nil)) (by rfl))) pss_nil)))
      (pss_one (ps_ret (pv 0))), ?_⟩
    refine ⟨400, rfl, by decide, by decide, for_range (lo := 0) (n := 400) (fun i σ H' => H' = H ∧ ∃ (u v : Int) (q : Option V), σ = [some (.int u), some (.int v), q] ∧ SameDiv u v a b ∧ Pot a b i u v)
      ⟨rfl, a, b, none, rfl, SameDiv.refl a b, Pot.start ha (by omega)⟩ ?_ ?_⟩
    · rintro i σ H' hi ⟨rfl, u, v, q, rfl, hS, hP⟩
      refine ⟨_, rfl, _, _, rfl, rfl, _, rfl, ?_⟩
      refine ite2 (fun hc => ?_) (fun hc => ?_)
      · have hv : 0 < v := of_decide_eq_true hc
        refine ⟨_, rfl, _, rfl, .inl ⟨_, rfl, _, rfl, _, _, rfl, rfl, hv, _, _, rfl, ?_⟩⟩
        exact ⟨rfl, v, u % v, _, rfl, hS.turn, hP.turn hv⟩
      · have hv : ¬ 0 < v := fun z => hc (decide_eq_true z)
        exact ⟨rfl, u, v, _, rfl, hS, hP.stay hv⟩
    · rintro σ H' ⟨rfl, u, v, q, rfl, hS, hP⟩
      have hv := hP.fin ha (by omega) ba.lt bb.lt
      subst hv
      exact ⟨_, rfl, hQ u (hS.fin hP.pos)⟩
theorem sc_linv : FnScope ["_law_one", "_law_modulus", "_law_before", "_law_now", "_law_turn", "_law_times"] ["_law_one", "_law_modulus"] (defScope s_linverse) := ⟨rfl, rfl, rfl, by decide +kernel, rfl, by decide +kernel, by decide +kernel⟩
theorem ok_linv (F : FnP K "_law_inverse" "_law_inverse" s_linverse f fd) (T : Top K mg) : FnOk P w K mg base CX0 1 f fd ["_law_one", "_law_modulus"] spInv := by
  refine okB F sc_linv (fun vs H Q E h => ?_) (fun cdv A outer s H vs Q E hr h => ?_)
  · obtain ⟨a, m, rfl, _⟩ := h; rfl
  · obtain ⟨a, m, rfl, ⟨ha, hm, ba, bm, hg⟩, hQ⟩ := h
    refine ⟨_, pss_cons (ps_set (i := 2) sc_linv.nd rfl (Or.inl rfl) (pe_tup (pa_cons (pv 0) (pa_cons pe_int pa_nil))))
      (pss_cons (ps_set (i := 3) sc_linv.nd rfl (Or.inl rfl) (pe_tup (pa_cons (pv 1) (pa_cons pe_int pa_nil))))
      (pss_cons (ps_for PassesOwn.never rfl (pi_range1 rfl T.range (pa_cons pe_int pa_nil)) (pg_name (i := 4) sc_linv.nd rfl (Or.inl rfl))
        (pss_one (ps_if (pt_cmpR op_gt (pe_ix ix_tup (pv 3) pe_int (fun _ _ => rfl)) pe_int (nomark _))
          (pss_cons (ps_set (i := 5) sc_linv.nd rfl (Or.inl rfl) (pe_op op_fdivW (pe_ix ix_tup (pv 2) pe_int (fun _ _ => rfl)) (pe_ix ix_tup (pv 3) pe_int (fun _ _ => rfl))))
          (pss_one (ps_par (i := 2) (j := 3) (by rfl) sc_linv.nd rfl rfl (by decide) rfl rfl (pa_cons (pv 3) (pa_cons (pe_tup (pa_cons
            (pe_op op_sub (pe_ix ix_tup (pv 2) pe_int (fun _ _ => rfl)) (pe_op op_mulW (pv 5) (pe_ix ix_tup (pv 3) pe_int (fun _ _ => rfl)))) (pa_cons
            (pe_op op_sub (pe_ix ix_tup (pv 2) pe_int (fun _ _ => rfl)) (pe_op op_mulW (pv 5) (pe_ix ix_tup (pv 3) pe_int (fun _ _ => rfl)))) pa_nil))) pa_nil)) (by rfl)))) pss_nil)))
      (pss_one (ps_ret (pe_op op_mod (pe_callTy call_int1 (by rfl) T.int hb_int (pa_cons (pe_ix ix_tup (pv 2) pe_int (fun _ _ => rfl)) pa_nil)) (pv 1)))))), ?_⟩
    refine ⟨_, rfl, (by show 2 ≤ sizeLine; decide), fun p hp => ?_⟩
    refine ⟨_, rfl, (by show 2 ≤ sizeLine; decide), fun q hq => ?_⟩
    refine ⟨400, rfl, by decide, by decide, for_range (lo := 0) (n := 400) (fun i σ H' => Same H H' ∧ ∃ (u s v t : Int) (pa pb : Addr) (o1 o2 : Option V), σ = [some (.int a), some (.int m), some (.ref pa), some (.ref pb), o1, o2] ∧
        H' pa = some (.tup [.int u, .int s]) ∧ H' pb = some (.tup [.int v, .int t]) ∧ Euc a m u s v t ∧ SameDiv u v a m ∧ Pot a m i u v ∧ Big u ∧ Big v)
      ⟨same_add (same_new hp) hq, a, 1, m, 0, p, q, none, none, rfl, (upd_ne (ne_of_none upd_same hq)).trans upd_same, upd_same, Euc.start ha hm, SameDiv.refl a m, Pot.start ha (by omega), ba, bm⟩ ?_ ?_⟩
    · rintro i σ H' hi ⟨hs, u, s', v, t, pa, pb, o1, o2, rfl, h1, h2, hE, hS, hP, bu, bv⟩
      refine ⟨_, rfl, pb, _, _, _, rfl, rfl, .of h2, rfl, _, _, rfl, rfl, _, rfl, ?_⟩
      refine ite2 (fun hc => ?_) (fun hc => ?_)
      · have hv : 0 < v := of_decide_eq_true hc
        have h0 : 0 ≤ u / v := Int.ediv_nonneg (by have := hE.pos; omega) (by omega)
        have h1' : u / v ≤ u := Int.ediv_le_self _ (by have := hE.pos; omega)
        have bq : Big (u / v) := bu.nn h0 h1'
        have bt : Big t := bm.le (by have := hE.tm; omega)
        have hE' := hE.turn hv
        have hl : u % v < v := Int.emod_lt_of_pos u hv
        have hn : 0 ≤ u % v := Int.emod_nonneg u (by omega)
        have em := Euc.eq_mod u v
        refine ⟨_, rfl, pa, _, _, _, rfl, rfl, .of h1, rfl, _, rfl, pb, _, _, _, rfl, rfl, .of h2, rfl, _, _, rfl, rfl, Big.div hv bv, ?_⟩
        refine ⟨_, rfl, ?_⟩
        refine ⟨_, rfl, pa, _, _, _, rfl, rfl, .of h1, rfl, _, rfl, _, rfl, pb, _, _, _, rfl, rfl, .of h2, rfl, _, _, rfl, rfl, bq.mul bv, _, _, rfl, rfl, ?_⟩
        refine ⟨_, rfl, pa, _, _, _, rfl, rfl, .of h1, rfl, _, rfl, _, rfl, pb, _, _, _, rfl, rfl, .of h2, rfl, _, _, rfl, rfl, bq.mul bt, _, _, rfl, rfl, ?_⟩
        refine ⟨(by show 2 ≤ sizeLine; decide), fun r hr' => ?_⟩
        refine ⟨_, _, rfl, same_add hs hr', v, t, u - u / v * v, s' - u / v * t, pb, r, _, _, rfl, (upd_ne (ne_of_none h2 hr')).trans h2, upd_same, hE', ?_, ?_, bv, bv.nn (by omega) (by omega)⟩
        · rw [em]; exact hS.turn
        · rw [em]; exact hP.turn hv
      · have hv : ¬ 0 < v := fun z => hc (decide_eq_true z)
        exact ⟨hs, u, s', v, t, pa, pb, _, _, rfl, h1, h2, hE, hS, hP.stay hv, bu, bv⟩
    · rintro σ H' ⟨hs, u, s', v, t, pa, pb, o1, o2, rfl, h1, h2, hE, hS, hP, bu, bv⟩
      have hv := hP.fin ha (by omega) ba.lt bm.lt
      subst hv
      have hu := hS.fin hE.pos
      rw [hg] at hu
      subst hu
      refine ⟨_, rfl, pa, _, _, _, rfl, rfl, .of h1, rfl, .inl ⟨_, rfl, _, rfl, _, _, rfl, rfl, hm, ?_⟩⟩
      exact hQ (s' % m) _ hs (Int.emod_nonneg _ (by omega)) (Int.emod_lt_of_pos _ hm) hE.fin
theorem sc_agreed : FnScope ["_law_one", "_law_other", "_law_common", "_law_rest", "_law_times", "_law_whole"] ["_law_one", "_law_other"] (defScope s_agreed) := ⟨rfl, rfl, rfl, by decide +kernel, rfl, by decide +kernel, by decide +kernel⟩
theorem ok_agreed {fG fI : Addr} {fdG fdI : FuncData} (F : FnP K "_law_agreed" "_law_agreed" s_agreed f fd) (T : Top K mg) (CG : Cal P w K mg base "_law_gcd" ["_law_one", "_law_other"] 1 spGcd fG fdG)
    (CI : Cal P w K mg base "_law_inverse" ["_law_one", "_law_modulus"] 1 spInv fI fdI) : FnOk P w K mg base CX0 2 f fd ["_law_one", "_law_other"] (spChin K) := by
  refine okB F sc_agreed (fun vs H Q E h => ?_) (fun cdv A outer s H vs Q E hr h => ?_)
  · obtain ⟨v, u, c, d, rfl, _⟩ := h; rfl
  · obtain ⟨v, u, c, d, rfl, ⟨a, rfl, hA⟩, ⟨b, rfl, hB⟩, ⟨oc, od, bc, bd⟩, hQ⟩ := h
    refine ⟨_, pss_cons (ps_set (i := 2) sc_agreed.nd rfl (Or.inl rfl) (pe_cal CG hr (pa_cons (pe_ix ix_tup (pv 0) pe_int (fun _ _ => rfl)) (pa_cons (pe_ix ix_tup (pv 1) pe_int (fun _ _ => rfl)) pa_nil))))
      (pss_cons (ps_if (pt_cmpR op_ne (pe_op op_mod (pe_callTy call_int1 (by rfl) T.int hb_int (pa_cons (pe_op op_sub (pe_ix ix_tup (pv 0) pe_int (fun _ _ => rfl)) (pe_ix ix_tup (pv 1) pe_int (fun _ _ => rfl))) pa_nil)) (pv 2)) pe_int (nomark _)) (pss_one (ps_ret pe_non)) pss_nil)
      (pss_cons (ps_set (i := 3) sc_agreed.nd rfl (Or.inl rfl) (pe_op op_fdivW (pe_ix ix_tup (pv 1) pe_int (fun _ _ => rfl)) (pv 2)))
      (pss_cons (ps_set (i := 4) sc_agreed.nd rfl (Or.inl rfl) (pe_op op_mod (pe_callTy call_int1 (by rfl) T.int hb_int (pa_cons (pe_op op_mulW (pe_op op_fdivW (pe_op op_sub (pe_ix ix_tup (pv 1) pe_int (fun _ _ => rfl)) (pe_ix ix_tup (pv 0) pe_int (fun _ _ => rfl))) (pv 2))
          (pe_cal CI hr (pa_cons (pe_op op_fdivW (pe_ix ix_tup (pv 0) pe_int (fun _ _ => rfl)) (pv 2)) (pa_cons (pv 3) pa_nil)))) pa_nil)) (pv 3)))
      (pss_cons (ps_set (i := 5) sc_agreed.nd rfl (Or.inl rfl) (pe_op op_mulW (pe_ix ix_tup (pv 0) pe_int (fun _ _ => rfl)) (pv 3)))
      (pss_one (ps_ret (pe_tup (pa_cons (pe_op op_mod (pe_callTy call_int1 (by rfl) T.int hb_int (pa_cons (pe_op op_add (pe_ix ix_tup (pv 0) pe_int (fun _ _ => rfl)) (pe_op op_mulW (pe_ix ix_tup (pv 0) pe_int (fun _ _ => rfl)) (pv 4))) pa_nil)) (pv 5)) (pa_cons (pv 5) pa_nil))))))))), ?_⟩
    obtain ⟨g0, e1, e2, p0, b0, hone⟩ := cop oc.pos od.pos
    generalize hg : (Int.gcd c.2 d.2 : Int) = g at *
    have gle : g ≤ c.2 := Int.le_of_dvd oc.pos ⟨_, e1⟩
    have bg : Big g := bc.nn (by omega) gle
    have bdf := Big.diff oc od bc bd
    refine ⟨_, rfl, a, _, _, _, rfl, rfl, hA, rfl, _, rfl, b, _, _, _, rfl, rfl, hB, rfl, c.2, d.2, rfl, ⟨oc.pos, od.pos, bc, bd⟩, fun g' hg' => ?_⟩
    obtain rfl : g = g' := hg.symm.trans hg'.symm
    refine ⟨_, rfl, a, _, _, _, rfl, rfl, hA, rfl, _, rfl, b, _, _, _, rfl, rfl, hB, rfl, _, _, rfl, rfl, .inl ⟨_, rfl, _, rfl, _, _, rfl, rfl, g0, rfl, _, rfl, ?_⟩⟩
    by_cases hz : (c.1 - d.1) % g = 0
    · have hz' : (d.1 - c.1) % g = 0 := by
        have := (Int.dvd_neg).mpr (Int.dvd_of_emod_eq_zero hz)
        rw [show -(c.1 - d.1) = d.1 - c.1 by omega] at this
        exact Int.emod_eq_zero_of_dvd this
      refine ifF (neI_f hz) ?_
      refine ⟨_, rfl, b, _, _, _, rfl, rfl, hB, rfl, _, rfl, _, _, rfl, rfl, Big.div g0 bg, ?_⟩
      refine ⟨_, rfl, b, _, _, _, rfl, rfl, hB, rfl, _, rfl, a, _, _, _, rfl, rfl, hA, rfl, _, _, rfl, rfl, _, rfl, _, _, rfl, rfl, Big.div g0 bg, ?_⟩
      refine ⟨_, rfl, a, _, _, _, rfl, rfl, hA, rfl, _, rfl, _, _, rfl, rfl, Big.div g0 bg, _, rfl, ?_⟩
      refine ⟨_, _, rfl, ⟨p0, b0, bc.quo g0, bd.quo g0, hone⟩, fun inv H1 s1 i0 i1 iv => ?_⟩
      have binv : Big inv := (bd.quo g0).nn i0 (by omega)
      obtain ⟨hch, _⟩ := chin_is oc od hg.symm rfl rfl rfl hz' iv
      have hA1 := same_tup s1 hA
      have m0 : 0 ≤ (d.1 - c.1) / g * inv % (d.2 / g) := Int.emod_nonneg _ (by omega)
      have m1 : (d.1 - c.1) / g * inv % (d.2 / g) < d.2 / g := Int.emod_lt_of_pos _ b0
      have hw0 : 0 < c.2 * (d.2 / g) := Int.mul_pos oc.pos b0
      refine ⟨_, _, rfl, rfl, (bdf.quo g0).mul binv, .inl ⟨_, rfl, _, rfl, _, _, rfl, rfl, b0, ?_⟩⟩
      refine ⟨_, rfl, a, _, _, _, rfl, rfl, hA1, rfl, _, rfl, _, _, rfl, rfl, bc.mul (bd.quo g0), ?_⟩
      refine ⟨_, rfl, a, _, _, _, rfl, rfl, hA1, rfl, _, rfl, a, _, _, _, rfl, rfl, hA1, rfl, _, rfl, _, _, rfl, rfl, bc.mul ((bd.quo g0).nn m0 (by omega)), _, _, rfl, rfl, .inl ⟨_, rfl, _, rfl, _, _, rfl, rfl, hw0, ?_⟩⟩
      refine ⟨_, rfl, (by show 2 ≤ sizeLine; decide), fun p hp => ?_⟩
      refine hQ _ _ (same_add s1 hp) ?_
      rw [hch]
      exact T2.new
    · refine ifT (neI_t hz) ?_
      refine hQ H _ (Same.refl H) ?_
      rw [chin_none (by
        rw [hg]
        intro q
        have := (Int.dvd_neg).mpr q
        rw [show -(d.1 - c.1) = c.1 - d.1 by omega] at this
        exact hz (Int.emod_eq_zero_of_dvd this))]
      rfl
end
end K34
end
section
set_option Elab.async false
set_option linter.all false
set_option maxRecDepth 100000
set_option maxHeartbeats 5000000
namespace K34
open PySem PySem.Spec PyProof.Rows L2
theorem hu65 {A : Around} {k : Nat} (hr : Room k A) : A.units + 65 < cLine := by have := hr.un; omega
theorem LC.nil {K : PySem.W.Frag} {H : Hp} {l : Addr} : LC K (upd H l (.lst [])) (.ref l) [] := ⟨l, [], rfl, upd_same, .nil⟩
theorem LC.one {K : PySem.W.Frag} {H : Hp} {l : Addr} {v : V} {c : Int × Int} (h : T2 K H v c) (n : H l = none) : LC K (upd H l (.lst [v])) (.ref l) [c] := ⟨l, _, rfl, upd_same, .cons (h.mono (Tps.new n)) .nil⟩
/-- a new list of pairs -/
def LCn (K : PySem.W.Frag) (H H' : Hp) (v : V) (cs : List (Int × Int)) : Prop := ∃ a vs, v = .ref a ∧ H a = none ∧ H' a = some (.lst vs) ∧ Cs K H' vs cs
theorem LCn.lc {K : PySem.W.Frag} {H H' : Hp} {v : V} {cs : List (Int × Int)} (h : LCn K H H' v cs) : LC K H' v cs := let ⟨a, vs, e, _, q, c⟩ := h; ⟨a, vs, e, q, c⟩
theorem LCn.back {K : PySem.W.Frag} {H0 H H' : Hp} {v : V} {cs : List (Int × Int)} (s : Same H0 H) (h : LCn K H H' v cs) : LCn K H0 H' v cs := let ⟨a, vs, e, n, q, c⟩ := h; ⟨a, vs, e, s.free n, q, c⟩
theorem LCn.one {K : PySem.W.Frag} {H : Hp} {l : Addr} {v : V} {c : Int × Int} (h : T2 K H v c) (n : H l = none) : LCn K H (upd H l (.lst [v])) (.ref l) [c] := ⟨l, _, rfl, n, upd_same, .cons (h.mono (Tps.new n)) .nil⟩
def spSolved (K : PySem.W.Frag) : Sp := fun vs H Q _ => ∃ d r m, vs = [.int d, .int r, .int m] ∧ (Dir d ∧ 0 < m) ∧ ∀ H' v, Same H H' → LC K H' v (solvedL d r m) → Q v H'
def spUnited (K : PySem.W.Frag) : Sp := fun vs H Q _ => ∃ v u xs ys, vs = [v, u] ∧ LC K H v xs ∧ LC K H u ys ∧ (xs.length ≤ 2 ∧ ys.length ≤ 2) ∧ ∀ H' r zs, Same H H' → Uni xs ys zs → LCn K H H' r zs → Q r H'
def spPointClasses (K : PySem.W.Frag) : Sp := fun vs H Q _ => ∃ s a d p, vs = [.int s, .int a, .int d, .int p] ∧ (Dir d ∧ 0 < s) ∧ ∀ H' r zs, Same H H' → Uni (solvedL d (p - a) (2 * s)) (solvedL d (-p - a) (2 * s)) zs → LCn K H H' r zs → Q r H'
def spCrossed (K : PySem.W.Frag) : Sp := fun vs H Q _ => ∃ v u xs ys m n, vs = [v, u] ∧ LC K H v xs ∧ LC K H u ys ∧ (xs.length ≤ 2 ∧ ys.length ≤ 2 ∧ OkC xs m ∧ OkC ys n ∧ Big m ∧ Big n) ∧ ∀ H' r zs, Same H H' → zs.Perm (crossL xs ys) → LC K H' r zs → Q r H'
/-- a new pair, turned -/
def TT (H : Hp) (v : V) (c : Int × Int) : Prop := ∃ t, v = .ref t ∧ H t = some (.tup [.int c.2, .int c.1])
theorem TT.mono {H H' : Hp} {v : V} {c : Int × Int} (e : Tps H H') (h : TT H v c) : TT H' v c := let ⟨t, q, s⟩ := h; ⟨t, q, (e t).1 _ s⟩
abbrev Ts (H : Hp) (vs : List V) (cs : List (Int × Int)) : Prop := All2 (TT H) vs cs
theorem Ts.mono {H H' : Hp} {vs : List V} {cs : List (Int × Int)} (e : Tps H H') (h : Ts H vs cs) : Ts H' vs cs := All2.imp h fun _ _ q => q.mono e
theorem Ts.pairs {H : Hp} {vs : List V} {cs : List (Int × Int)} (h : Ts H vs cs) : ∀ x ∈ vs, ∃ t i j, x = V.ref t ∧ H t = some (.tup [.int i, .int j]) := fun x hx => by
  obtain ⟨c, _, t, e, s⟩ := h.mem hx
  exact ⟨t, _, _, e, s⟩
/-- [(b, a) for a, b in l]: slots p (a), q (b) -/
theorem swap_tail {K : PySem.W.Frag} {a : Addr} {vs : List V} {cs : List (Int × Int)} {σ : L2.St} {H1 : Hp} {D : Addr} {Qd : Hp → Prop} {ix : List Nat} {p q : Nat} (hl : H1 a = some (.lst vs)) (hvs : Ts H1 vs cs) (hD : H1 D = none) (hz : vs.length ≤ 1000)
    (w1 : ∀ x y, wipe (((wipe σ ix).set p (some x)).set q (some y)) ix = wipe σ ix) (w2 : ∀ x y, (((wipe σ ix).set p (some x)).set q (some y))[p]? = some (some x)) (w3 : ∀ x y, (((wipe σ ix).set p (some x)).set q (some y))[q]? = some (some y))
    (hq : ∀ H' ws, Same H1 H' → H' D = some (.lst ws) → Cs K H' ws cs → Qd H') : ∃ W : Nat → Nat → Hp → Prop, (∃ m, W 0 m (upd H1 D (.lst []))) ∧ ∀ i m H, W i m H →
      ((Itl K a).stop i H ∧ Qd H) ∨ ((Itl K a).go i H ∧ ∃ Nx : Hp → Prop, (∀ H', Nx H' → ∃ m', m' < m ∧ W (i + 1) m' H') ∧ ∀ x H', (Itl K a).yld i H x H' → gTup K 2 (gCons (gName p) (gCons (gName q) gNil)) x (wipe σ ix) H' fun σ2 H2 => wipe σ2 ix = wipe σ ix ∧ tYes σ2 H2 fun b H3 =>
        if b = true then tTup (tCons (tVar q) (tCons (tVar p) tNil)) σ2 H3 fun y H4 => ∃ acc, H4 D = some (.lst acc) ∧ acc.length < sizeLine ∧ Nx (upd H4 D (.lst (acc ++ [y]))) else Nx H3) := by
  refine lc_list (K := K) (a := a) (xs := vs) (fun i H' => ∃ ws, Same H1 H' ∧ H' D = some (.lst ws) ∧ Cs K H' ws (cs.take i)) ⟨[], same_new hD, upd_same, .nil⟩ ?_ ?_ ?_
  · rintro i H' _ ⟨ws, s, _, _⟩
    exact s.seq (.of hl)
  · rintro i x H' hi ⟨ws, s, hd, hc⟩
    obtain ⟨c, hcs, t, rfl, ht⟩ := hvs.get hi
    have hi' := (List.getElem?_eq_some_iff.mp hi).1
    have ht' := s _ _ ht
    have hwl : ws.length ≤ 1000 := by
      have := hc.length
      have := List.length_take_le i cs
      have := hvs.length
      omega
    refine ⟨t, _, rfl, .of ht', rfl, _, _, rfl, _, _, rfl, rfl, ?_⟩
    refine ⟨w1 _ _, _, w3 _ _, _, w2 _ _, (by show 2 ≤ sizeLine; decide), fun r hr => ?_⟩
    have hd' : upd H' r (.tup [.int c.1, .int c.2]) D = some (.lst ws) := (upd_ne (ne_of_none hd hr)).trans hd
    refine ⟨ws, hd', small1000 hwl, ws ++ [.ref r], same_set (same_add s hr) hD, upd_same, ?_⟩
    have et : cs.take (i + 1) = cs.take i ++ [c] := by
      rw [List.take_add_one, hcs]; rfl
    rw [et]
    refine All2.snoc (Cs.mono ((Tps.new hr).trans (Tps.setl hd')) hc) ?_
    exact T2.mono (Tps.setl hd') (T2.new (i := c.1) (j := c.2))
  · rintro H' ⟨ws, s, hd, hc⟩
    refine hq H' ws s hd ?_
    rwa [hvs.length, List.take_length] at hc
section
variable {P : Program} {w : World} {K : PySem.W.Frag} {mg : Str → Option Value} {base : Heap} {f : Addr} {fd : FuncData}
theorem sc_solved : FnScope ["factor", "right", "modulus"] ["factor", "right", "modulus"] (defScope s_solved) := ⟨rfl, rfl, rfl, by decide +kernel, rfl, by decide +kernel, by decide +kernel⟩
theorem ok_solved (F : FnP K "solved" "solved" s_solved f fd) (T : Top K mg) : FnOk P w K mg base CX0 1 f fd ["factor", "right", "modulus"] (spSolved K) := by
  refine okB F sc_solved (fun vs H Q E h => ?_) (fun cdv A outer s H vs Q E hr h => ?_)
  · obtain ⟨d, r, m, rfl, _⟩ := h; rfl
  · obtain ⟨d, r, m, rfl, ⟨hd, hm⟩, hQ⟩ := h
    obtain ⟨wa, wb, gW, hW⟩ := T.whole
    refine ⟨_, pss_cons (ps_if (pt_cmpR op_lt (pv 0) pe_int (nomark _)) (pss_cons (ps_set (i := 0) sc_solved.nd rfl (Or.inl rfl) (pe_un un_neg (pv 0))) (pss_one (ps_set (i := 1) sc_solved.nd rfl (Or.inl rfl) (pe_un un_neg (pv 1))))) pss_nil)
      (pss_cons (ps_if (pt_cmpR op_eq (pv 0) pe_int (nomark _)) (pss_one (ps_ret (pe_ifExp (pt_cmpR op_eq (pe_op op_mod (pv 1) (pv 2)) pe_int (nomark _))
          (pe_callTy call_list_of (by rfl) T.list hb_list (pa_cons (pe_glob (v := .ref wa) rfl gW rfl) pa_nil)) (pe_lst pa_nil)))) pss_nil)
      (pss_cons (ps_if (pt_cmpR op_eq (pv 0) pe_int (nomark _)) (pss_one (ps_ret (pe_lst (pa_cons (pe_tup (pa_cons (pe_op op_mod (pv 1) (pv 2)) (pa_cons (pv 2) pa_nil))) pa_nil)))) pss_nil)
      (pss_cons ps_never (pss_cons ps_never (pss_one ps_never))))), ?_⟩
    have fin : ∀ r', ∀ p, H p = none → ∀ l, upd H p (.tup [.int (r' % m), .int m]) l = none → r' % m = (d * r) % m → d ≠ 0 → Q (.ref l) (upd (upd H p (.tup [.int (r' % m), .int m])) l (.lst [.ref p])) := fun r' p hp l hl e hd0 => by
      refine hQ _ _ (same_add (same_new hp) hl) ?_
      unfold solvedL
      rw [if_neg hd0, ← e]
      exact LC.one T2.new hl
    rcases hd with rfl | rfl | rfl
    · refine ⟨_, rfl, _, _, rfl, rfl, _, rfl, ifT (by decide) ?_⟩
      refine ⟨_, rfl, _, rfl, _, rfl, _, rfl, ?_⟩
      refine ⟨_, rfl, rfl, _, rfl, ifF (by decide) ?_⟩
      refine ⟨_, rfl, rfl, _, rfl, ifT (by decide) ?_⟩
      refine ⟨_, rfl, _, rfl, _, _, rfl, rfl, hm, _, rfl, (by show 2 ≤ sizeLine; decide), fun p hp => ⟨(by show 1 ≤ sizeLine; decide), fun l hl => fin (-r) p hp l hl (by rw [show (-1 : Int) * r = -r by omega]) (by decide)⟩⟩
    · refine ⟨_, rfl, _, _, rfl, rfl, _, rfl, ifF (by decide) ?_⟩
      refine ⟨_, rfl, rfl, _, rfl, ifT (by decide) ?_⟩
      refine ⟨_, rfl, _, rfl, _, _, rfl, rfl, hm, rfl, _, rfl, ?_⟩
      by_cases hz : r % m = 0
      · refine ifT (eqI_t hz) ⟨wa, _, rfl, .inl (hW _).1, fun l hl => ?_⟩
        refine hQ _ _ (same_new hl) ?_
        unfold solvedL
        rw [if_pos rfl, if_pos hz]
        exact LC.one (c := (0, 1)) ⟨wb, rfl, (hW _).2⟩ hl
      · refine ifF (eqI_f hz) ⟨(by show 0 ≤ sizeLine; decide), fun l hl => ?_⟩
        refine hQ _ _ (same_new hl) ?_
        unfold solvedL
        rw [if_pos rfl, if_neg hz]
        exact LC.nil
    · refine ⟨_, rfl, _, _, rfl, rfl, _, rfl, ifF (by decide) ?_⟩
      refine ⟨_, rfl, rfl, _, rfl, ifF (by decide) ?_⟩
      refine ⟨_, rfl, rfl, _, rfl, ifT (by decide) ?_⟩
      refine ⟨_, rfl, _, rfl, _, _, rfl, rfl, hm, _, rfl, (by show 2 ≤ sizeLine; decide), fun p hp => ⟨(by show 1 ≤ sizeLine; decide), fun l hl => fin r p hp l hl (by rw [Int.one_mul]) (by decide)⟩⟩
/-- a class as a key -/
def dk (c : Int × Int) : List Key × V := ([.inl c.2, .inl c.1], .bl true)
theorem dk_inj {c d : Int × Int} (h : (dk c).1 = (dk d).1) : c = d := by
  simp only [dk, List.cons.injEq, Sum.inl.injEq, and_true] at h
  exact Prod.ext h.2 h.1
theorem dk_any (ks : List (Int × Int)) (c : Int × Int) : ((ks.map dk).any fun kv => decide (kv.1 = (dk c).1)) = decide (c ∈ ks) := by
  induction ks with
  | nil => simp
  | cons k ks ih =>
    rw [List.map_cons, List.any_cons, ih]
    by_cases h : k = c
    · subst h; simp
    · have : ¬ (dk k).1 = (dk c).1 := fun q => h (dk_inj q)
      rw [decide_eq_false this, Bool.false_or]
      congr 1
      simp only [List.mem_cons, eq_iff_iff]
      constructor
      · exact fun q => .inr q
      · rintro (q | q)
        · exact absurd q.symm h
        · exact q
def addC (ks : List (Int × Int)) (c : Int × Int) : List (Int × Int) := if c ∈ ks then ks else ks ++ [c]
theorem put_dk (ks : List (Int × Int)) (c : Int × Int) : putK (ks.map dk) (dk c).1 (.bl true) = (addC ks c).map dk := by
  unfold putK addC
  rw [dk_any]
  by_cases h : c ∈ ks
  · rw [if_pos (decide_eq_true h), if_pos h, List.map_map]
    refine List.map_congr_left ?_
    intro k _
    show (if (dk k).1 = (dk c).1 then ((dk k).1, V.bl true) else dk k) = dk k
    split <;> rfl
  · rw [decide_eq_false h, if_neg Bool.false_ne_true, if_neg h, List.map_append]
    rfl
theorem addC_nodup {ks : List (Int × Int)} {c : Int × Int} (h : ks.Nodup) : (addC ks c).Nodup := by
  unfold addC
  split
  · exact h
  · rename_i q
    refine List.nodup_append.mpr ⟨h, by simp, fun a ha b hb e => ?_⟩
    rw [List.mem_singleton.mp hb] at e
    exact q (e ▸ ha)
theorem mem_addC {ks : List (Int × Int)} {c d : Int × Int} : d ∈ addC ks c ↔ (d ∈ ks ∨ d = c) := by
  unfold addC
  split
  · rename_i q
    exact ⟨.inl, fun h => h.elim id fun e => e ▸ q⟩
  · simp
theorem addC_len (ks : List (Int × Int)) (c : Int × Int) : (addC ks c).length ≤ ks.length + 1 := by
  unfold addC
  split <;> simp
theorem keys_TT {H : Hp} : ∀ {ks : List (Int × Int)} {bs : List Addr}, IsKeys H (ks.map dk) bs → Ts H (bs.map V.ref) ks
  | [], _, h => by
    cases h
    exact .nil
  | c :: ks, _, h => by
    cases h with
    | cons r t => exact .cons ⟨_, rfl, r⟩ (keys_TT t)
theorem sc_united : FnScope ["one", "other", "found", "remainder", "modulus"] ["one", "other"] (defScope s_united) := ⟨rfl, rfl, rfl, by decide +kernel, rfl, by decide +kernel, by decide +kernel⟩
theorem ok_united (F : FnP K "united" "united" s_united f fd) (T : Top K mg) : FnOk P w K mg base CX0 1 f fd ["one", "other"] (spUnited K) := by
  refine okB F sc_united (fun vs H Q E h => ?_) (fun cdv A outer s H vs Q E hr h => ?_)
  · obtain ⟨v, u, xs, ys, rfl, _⟩ := h; rfl
  · obtain ⟨v, u, xs, ys, rfl, hX, hY, ⟨lx, ly⟩, hQ⟩ := h
    obtain ⟨wa, wb, gW, hW⟩ := T.whole
    have nd := sc_united.nd
    refine ⟨_, pss_cons (ps_if (PW.pt (pw_or (pt_cmpR (op_inD (hu65 hr)) (pe_ix ix_list (pe_glob (v := .ref wa) rfl gW rfl) pe_int (fun _ _ => rfl)) (pv 0) (by rfl))
          (pw_or1 (pt_cmpR (op_inD (hu65 hr)) (pe_ix ix_list (pe_glob (v := .ref wa) rfl gW rfl) pe_int (fun _ _ => rfl)) (pv 1) (by rfl)))))
        (pss_one (ps_ret (pe_callTy call_list_of (by rfl) T.list hb_list (pa_cons (pe_glob (v := .ref wa) rfl gW rfl) pa_nil)))) pss_nil)
      (pss_cons (ps_set (i := 2) nd rfl (Or.inl rfl) pe_dnewT)
      (pss_cons (ps_for PassesOwn.never rfl (pi_list (pe_op op_cat (pv 0) (pv 1))) (pg_tup (by rfl) (pgs_cons (pg_name (i := 3) nd rfl (Or.inl rfl)) (pgs_cons (pg_name (i := 4) nd rfl (Or.inl rfl)) pgs_nil)))
        (pss_one (ps_dput (hu_of hr) (pv 2) (pe_tup (pa_cons (pv 4) (pa_cons (pv 3) pa_nil))) pe_bl rfl)))
      (pss_one (ps_ret (pe_lc (own := [("remainder", 3), ("modulus", 4)]) (g := gTup K 2 (gCons (gName 4) (gCons (gName 3) gNil))) (tt := tYes) rfl nd
        (pi_list (pe_callB cr_sortedP (by rfl) T.sorted hb_sorted (pa_cons (pe_callTy (call_list_dT rfl) (by rfl) T.list hb_list (pa_cons (pv 2) pa_nil)) pa_nil)))
        (blkOk_by (N := ["one", "other", "found", "remainder", "modulus"]) (sc := defScope s_united) (by decide +kernel))
        (fun _ _ _ _ _ => pg_tup (by rfl) (pgs_cons (pg_name (i := 4) nd rfl (Or.inl rfl)) (pgs_cons (pg_name (i := 3) nd rfl (Or.inl rfl)) pgs_nil)))
        (fun _ _ _ _ _ => pts_nil) (fun _ _ _ _ _ => pe_tup (pa_cons (pv 3) (pa_cons (pv 4) pa_nil)))))))), ?_⟩
    have hw : T2 K H (.ref wb) (0, 1) := ⟨wb, rfl, (hW H).2⟩
    have tail : ∀ {R : Hp → Prop}, ((0, 1) ∈ xs ∨ (0, 1) ∈ ys) → (∀ l, H l = none → Q (.ref l) (upd H l (.lst [.ref wb]))) := fun hm l hl => by
      refine hQ _ _ _ (same_new hl) ?_ (LCn.one (c := (0, 1)) hw hl)
      unfold Uni
      rw [if_pos hm]
    refine ⟨wa, _, _, _, rfl, rfl, (hW H).1, rfl, _, rfl, _, _, hw.dp, hX.dp, pD_shaped _, pDs_shaped _, _, rfl, ?_⟩
    by_cases hx : (0, 1) ∈ xs
    · refine ifT ((pD_any xs (0, 1)).trans (decide_eq_true hx)) ?_
      refine iteT ?_
      exact ⟨wa, _, rfl, .inl (hW H).1, fun l hl => tail (R := fun _ => True) (.inl hx) l hl⟩
    · refine ifF ((pD_any xs (0, 1)).trans (decide_eq_false hx)) ?_
      refine ⟨wa, _, _, _, rfl, rfl, (hW H).1, rfl, _, rfl, _, _, hw.dp, hY.dp, pD_shaped _, pDs_shaped _, _, rfl, ?_⟩
      by_cases hy : (0, 1) ∈ ys
      · refine ifT ((pD_any ys (0, 1)).trans (decide_eq_true hy)) ?_
        exact ⟨wa, _, rfl, .inl (hW H).1, fun l hl => tail (R := fun _ => True) (.inr hy) l hl⟩
      · refine ifF ((pD_any ys (0, 1)).trans (decide_eq_false hy)) ?_
        obtain ⟨a, vs, rfl, hA, cA⟩ := hX
        obtain ⟨b, us, rfl, hB, cB⟩ := hY
        have l1 := cA.length
        have l2 := cB.length
        intro d hd
        have s1 : Same H (upd H d (.dT [])) := same_new hd
        refine ⟨_, rfl, _, rfl, a, b, vs, us, rfl, rfl, s1 _ _ hA, s1 _ _ hB, (by have := sizeLine_eq; omega), fun p hp => ?_⟩
        have s2 := same_add (o := .lst (vs ++ us)) s1 hp
        refine ⟨p, rfl, ⟨_, .of upd_same⟩, for_list (K := K) (a := p) (xs := vs ++ us) (fun i σ H' => ∃ (ks : List (Int × Int)) (o1 o2 : Option V), σ = [some (.ref a), some (.ref b), some (.ref d), o1, o2] ∧ Same H H' ∧ H' p = some (.lst (vs ++ us)) ∧
            H' d = some (.dT (ks.map dk)) ∧ ks.Nodup ∧ (∀ c, c ∈ ks ↔ c ∈ (xs ++ ys).take i) ∧ ks.length ≤ i)
          ⟨[], none, none, rfl, s2, upd_same, (upd_ne (ne_of_none upd_same hp)).trans upd_same, List.nodup_nil, fun c => by simp, Nat.le_refl _⟩ (fun i σ H' _ ⟨_, _, _, _, _, q, _⟩ => .of q) ?_ ?_⟩
        · rintro i x σ H' hi ⟨ks, o1, o2, rfl, s, hp', hd', hn, hm, hl⟩
          obtain ⟨c, hc, t, rfl, ht⟩ := (All2.append cA cB).get hi
          have hi' := (List.getElem?_eq_some_iff.mp hi).1
          have hlen : ks.length ≤ 4 := by
            rw [List.length_append] at hi'
            omega
          refine ⟨t, _, rfl, same_tup s ht, rfl, _, _, rfl, _, _, rfl, rfl, ?_⟩
          refine ⟨_, rfl, _, rfl, _, rfl, (by show 2 ≤ sizeLine; decide), fun r hr' => ?_⟩
          have hdr : upd H' r (.tup [.int c.2, .int c.1]) d = some (.dT (ks.map dk)) := (upd_ne (ne_of_none hd' hr')).trans hd'
          refine ⟨d, _, rfl, DPut.t (k := (dk c).1) hdr upd_same (by rw [List.length_map]; exact small1000 (by omega)), ?_⟩
          rw [put_dk]
          have npd : p ≠ d := fun q => by rw [q, hd'] at hp'; cases hp'
          refine ⟨addC ks c, _, _, rfl, same_set (same_add s hr') hd, ?_, upd_same, addC_nodup hn, fun e => ?_, ?_⟩
          · rw [upd_ne npd, upd_ne (ne_of_none hp' hr')]; exact hp'
          · rw [mem_addC, hm e, List.take_add_one, hc]
            simp
          · have := addC_len ks c
            omega
        · rintro σ H' ⟨ks, o1, o2, rfl, s, hp', hd', hn, hm, hl⟩
          have hks : ks.length ≤ 4 := by
            rw [List.length_append] at hl
            omega
          refine ⟨_, rfl, d, _, rfl, .of hd', fun q bs hq hk => ?_⟩
          have hts := keys_TT hk
          refine ⟨q, _, rfl, .of upd_same, (Ts.mono (Tps.new hq) hts).pairs, fun zs r hpm hr' => ?_⟩
          obtain ⟨ks', hpk, hts'⟩ := All2.perm hpm hts
          refine ⟨r, rfl, ⟨_, .of upd_same⟩, fun D hD => ?_⟩
          have hl' : zs.length ≤ 1000 := by
            have := hts'.length
            have := hpk.length_eq
            omega
          refine swap_tail (cs := ks') upd_same (Ts.mono (Tps.trans (Tps.new hq) (Tps.new hr')) hts') hD hl' (fun _ _ => rfl) (fun _ _ => rfl) (fun _ _ => rfl) fun H2 ws s2' hws hcs => ?_
          refine hQ H2 _ ks' ((same_add (same_add s hq) hr').trans s2') ?_ ⟨D, ws, rfl, (same_add (same_add s hq) hr').free hD, hws, hcs⟩
          unfold Uni
          rw [if_neg (by rintro (z | z); exact hx z; exact hy z)]
          refine ⟨hpk.nodup_iff.mpr hn, fun c => ?_⟩
          rw [hpk.mem_iff, hm c, List.length_append, l1, l2, ← List.length_append, List.take_length, List.mem_append]
end
end K34
end
section
set_option Elab.async false
set_option linter.all false
set_option maxRecDepth 100000
set_option maxHeartbeats 5000000
namespace K34
open PySem PySem.Spec PyProof.Rows L2
theorem crossL_take {xs ys : List (Int × Int)} {i : Nat} {c : Int × Int} (h : xs[i]? = some c) : crossL (xs.take (i + 1)) ys = crossL (xs.take i) ys ++ crossRow c ys := by
  unfold crossL
  rw [List.take_add_one, h, List.flatMap_append]
  simp
theorem crossRow_take {c : Int × Int} {ys : List (Int × Int)} {j : Nat} {d : Int × Int} (h : ys[j]? = some d) : crossRow c (ys.take (j + 1)) = crossRow c (ys.take j) ++ (chin c d).toList := by
  unfold crossRow
  rw [List.take_add_one, h, List.filterMap_append]
  congr 1
theorem crossRow_len (c : Int × Int) (ys : List (Int × Int)) : (crossRow c ys).length ≤ ys.length := List.length_filterMap_le _ _
section
variable {P : Program} {w : World} {K : PySem.W.Frag} {mg : Str → Option Value} {base : Heap} {f : Addr} {fd : FuncData}
theorem sc_pcl : FnScope ["size", "at", "step", "goal"] ["size", "at", "step", "goal"] (defScope s_point_classes) := ⟨rfl, rfl, rfl, by decide +kernel, rfl, by decide +kernel, by decide +kernel⟩
theorem solvedL_len (d r m : Int) : (solvedL d r m).length ≤ 2 := by
  unfold solvedL
  split
  · split <;> simp
  · simp
theorem ok_pcl {fS fU : Addr} {fdS fdU : FuncData} (F : FnP K "point_classes" "point_classes" s_point_classes f fd) (CS : Cal P w K mg base "solved" ["factor", "right", "modulus"] 1 (spSolved K) fS fdS) (CU : Cal P w K mg base "united" ["one", "other"] 1 (spUnited K) fU fdU) :
    FnOk P w K mg base CX0 2 f fd ["size", "at", "step", "goal"] (spPointClasses K) := by
  refine okB F sc_pcl (fun vs H Q E h => ?_) (fun cdv A outer s H vs Q E hr h => ?_)
  · obtain ⟨s', a, d, p, rfl, _⟩ := h; rfl
  · obtain ⟨s', a, d, p, rfl, ⟨hd, hs⟩, hQ⟩ := h
    refine ⟨_, pss_one (ps_ret (pe_cal CU hr (pa_cons (pe_cal CS hr (pa_cons (pv 2) (pa_cons (pe_op op_sub (pv 3) (pv 1)) (pa_cons (pe_op op_mul pe_int (pv 0)) pa_nil))))
      (pa_cons (pe_cal CS hr (pa_cons (pv 2) (pa_cons (pe_op op_sub (pe_un un_neg (pv 3)) (pv 1)) (pa_cons (pe_op op_mul pe_int (pv 0)) pa_nil)))) pa_nil)))), ?_⟩
    refine ⟨_, rfl, _, rfl, _, rfl, _, _, rfl, rfl, _, rfl, _, _, rfl, rfl, .inl ⟨by decide, by decide⟩, ?_⟩
    refine ⟨_, _, _, rfl, ⟨hd, by omega⟩, fun H1 v s1 hv => ?_⟩
    refine ⟨_, rfl, _, rfl, _, rfl, _, rfl, _, _, rfl, rfl, _, rfl, _, _, rfl, rfl, .inl ⟨by decide, by decide⟩, ?_⟩
    refine ⟨_, _, _, rfl, ⟨hd, by omega⟩, fun H2 u s2 hu => ?_⟩
    exact ⟨v, u, _, _, rfl, hv.same s2, hu, ⟨solvedL_len _ _ _, solvedL_len _ _ _⟩, fun H3 r zs s3 hz hl => hQ H3 r zs ((s1.trans s2).trans s3) hz (hl.back (s1.trans s2))⟩
theorem sc_crossed : FnScope ["one", "other", "found", "first", "second", "common", "remainder", "modulus"] ["one", "other"] (defScope s_crossed) := ⟨rfl, rfl, rfl, by decide +kernel, rfl, by decide +kernel, by decide +kernel⟩
theorem ok_crossed {fC : Addr} {fdC : FuncData} (F : FnP K "crossed" "crossed" s_crossed f fd) (T : Top K mg) (CC : Cal P w K mg base "chinese" ["one", "other"] 2 (spChin K) fC fdC) : FnOk P w K mg base CX0 3 f fd ["one", "other"] (spCrossed K) := by
  refine okB F sc_crossed (fun vs H Q E h => ?_) (fun cdv A outer s H vs Q E hr h => ?_)
  · obtain ⟨v, u, xs, ys, m, n, rfl, _⟩ := h; rfl
  · obtain ⟨v, u, xs, ys, m, n, rfl, ⟨a, vs, rfl, hA, cA⟩, ⟨b, us, rfl, hB, cB⟩, ⟨lx, ly, ox, oy, bm, bn⟩, hQ⟩ := h
    have nd := sc_crossed.nd
    refine ⟨_, pss_cons (ps_set (i := 2) nd rfl (Or.inl rfl) (pe_lst pa_nil))
      (pss_cons (ps_for PassesOwn.never rfl (pi_list (pv 0)) (pg_name (i := 3) nd rfl (Or.inl rfl))
        (pss_one (ps_for PassesOwn.never rfl (pi_list (pv 1)) (pg_name (i := 4) nd rfl (Or.inl rfl))
          (pss_cons (ps_set (i := 5) nd rfl (Or.inl rfl) (pe_cal CC hr (pa_cons (pv 3) (pa_cons (pv 4) pa_nil))))
          (pss_one (ps_if (pt_cmpR op_notN (pv 5) pe_non (nomark _)) (pss_one (ps_expr (pe_bm PySem.F.plainAttrs_list PySem.F.slot_list_append PySem.F.type_list_append mt_append (pv 2)
            (pa_cons (pe_tup (pa_cons (pe_ix ix_tup (pv 5) pe_int (fun _ _ => rfl)) (pa_cons (pe_ix ix_tup (pv 5) pe_int (fun _ _ => rfl)) pa_nil))) pa_nil)))) pss_nil))))))
      (pss_one (ps_ret (pe_lc (own := [("remainder", 6), ("modulus", 7)]) (g := gTup K 2 (gCons (gName 7) (gCons (gName 6) gNil))) (tt := tYes) rfl nd
        (pi_list (pe_callB cr_sortedP (by rfl) T.sorted hb_sorted (pa_cons (pv 2) pa_nil)))
        (blkOk_by (N := ["one", "other", "found", "first", "second", "common", "remainder", "modulus"]) (sc := defScope s_crossed) (by decide +kernel))
        (fun _ _ _ _ _ => pg_tup (by rfl) (pgs_cons (pg_name (i := 7) nd rfl (Or.inl rfl)) (pgs_cons (pg_name (i := 6) nd rfl (Or.inl rfl)) pgs_nil)))
        (fun _ _ _ _ _ => pts_nil) (fun _ _ _ _ _ => pe_tup (pa_cons (pv 6) (pa_cons (pv 7) pa_nil))))))), ?_⟩
    refine ⟨(by show 0 ≤ sizeLine; decide), fun l hl => ?_⟩
    have l1 := cA.length
    have l2 := cB.length
    have bound : ∀ i c j, (crossL (xs.take i) ys ++ crossRow c (ys.take j)).length ≤ 6 := fun i c j => by
      have h1 := crossL_len (xs.take i) ys
      have h2 := crossRow_len c (ys.take j)
      have h3 := List.length_take_le i xs
      have h3' : (xs.take i).length ≤ xs.length := by rw [List.length_take]; omega
      have h4 : (ys.take j).length ≤ ys.length := by rw [List.length_take]; omega
      have h5 : (xs.take i).length * ys.length ≤ 2 * 2 := Nat.mul_le_mul (by omega) ly
      rw [List.length_append]
      omega
    refine ⟨_, rfl, a, rfl, ⟨_, .of (same_new hl _ _ hA)⟩, for_list (K := K) (a := a) (xs := vs) (fun i σ H' => ∃ (fs : List V) (o1 o2 o3 : Option V), σ = [some (.ref a), some (.ref b), some (.ref l), o1, o2, o3, none, none] ∧ Same H H' ∧ H' l = some (.lst fs) ∧ Ts H' fs (crossL (xs.take i) ys))
      ⟨[], none, none, none, rfl, same_new hl, upd_same, .nil⟩ (fun i σ H' _ ⟨_, _, _, _, _, s, _⟩ => .of (s _ _ hA)) ?_ ?_⟩
    · rintro i x σ H' hi ⟨fs, o1, o2, o3, rfl, s, hf, ht⟩
      obtain ⟨c, hc, tc⟩ := cA.get hi
      refine ⟨_, rfl, b, rfl, ⟨_, .of (s _ _ hB)⟩, for_list (K := K) (a := b) (xs := us) (fun j σ H' => ∃ (fs : List V) (o2 o3 : Option V), σ = [some (.ref a), some (.ref b), some (.ref l), some x, o2, o3, none, none] ∧ Same H H' ∧ H' l = some (.lst fs) ∧ Ts H' fs (crossL (xs.take i) ys ++ crossRow c (ys.take j)))
        ⟨fs, o2, o3, rfl, s, hf, by simpa [crossRow] using ht⟩ (fun j σ H' _ ⟨_, _, _, _, s, _⟩ => .of (s _ _ hB)) ?_ ?_⟩
      · rintro j y σ H1 hj ⟨gs, o2, o3, rfl, s1, hg, hgt⟩
        obtain ⟨d, hd, td⟩ := cB.get hj
        have oc := ox.one (List.mem_of_getElem? hc)
        have od := oy.one (List.mem_of_getElem? hd)
        have bc : Big c.2 := by rw [(ox.all c (List.mem_of_getElem? hc)).1]; exact bm
        have bd : Big d.2 := by rw [(oy.all d (List.mem_of_getElem? hd)).1]; exact bn
        refine ⟨_, rfl, _, rfl, x, y, c, d, rfl, tc.mono (Tps.same s1), td.mono (Tps.same s1), ⟨oc, od, bc, bd⟩, fun H2 r s2 hr' => ?_⟩
        have hg2 := s2 _ _ hg
        have hgt2 := Ts.mono (Tps.same s2) hgt
        have et : crossL (xs.take i) ys ++ crossRow c (ys.take (j + 1)) = crossL (xs.take i) ys ++ crossRow c (ys.take j) ++ (chin c d).toList := by rw [crossRow_take hd, List.append_assoc]
        cases hch : chin c d with
        | none =>
          rw [hch] at hr' et
          obtain rfl : r = .non := hr'
          refine ⟨_, rfl, rfl, _, rfl, ifF (by decide) ?_⟩
          refine ⟨gs, _, _, rfl, s1.trans s2, hg2, ?_⟩
          rw [et]
          simpa using hgt2
        | some e =>
          rw [hch] at hr' et
          obtain ⟨p, rfl, hp⟩ := hr'
          refine ⟨_, rfl, rfl, _, rfl, ifT (by simp) ?_⟩
          refine ⟨_, rfl, .inl ⟨rfl, _, .of hg2⟩, ?_⟩
          refine ⟨_, rfl, p, _, _, _, rfl, rfl, hp, rfl, _, rfl, p, _, _, _, rfl, rfl, hp, rfl, (by show 2 ≤ sizeLine; decide), fun q hq => ?_⟩
          have hg3 : upd H2 q (.tup [.int e.2, .int e.1]) l = some (.lst gs) := (upd_ne (ne_of_none hg2 hq)).trans hg2
          have hgl : gs.length ≤ 1000 := by
            have := hgt2.length
            have := bound i c j
            omega
          refine ⟨l, _, _, rfl, rfl, hg3, small1000 hgl, ?_⟩
          refine ⟨_, _, _, rfl, same_set (same_add (s1.trans s2) hq) hl, upd_same, ?_⟩
          rw [et]
          refine All2.snoc (Ts.mono ((Tps.new hq).trans (Tps.setl hg3)) hgt2) ?_
          exact TT.mono (Tps.setl hg3) ⟨q, rfl, upd_same⟩
      · rintro σ H1 ⟨gs, o2, o3, rfl, s1, hg, hgt⟩
        refine ⟨gs, _, _, _, rfl, s1, hg, ?_⟩
        rw [crossL_take hc]
        rwa [l2, List.take_length] at hgt
    · rintro σ H' ⟨fs, o1, o2, o3, rfl, s, hf, ht⟩
      rw [l1, List.take_length] at ht
      refine ⟨_, rfl, l, _, rfl, .of hf, ht.pairs, fun zs r hpm hr' => ?_⟩
      obtain ⟨ks', hpk, hts'⟩ := All2.perm hpm ht
      refine ⟨r, rfl, ⟨_, .of upd_same⟩, fun D hD => ?_⟩
      have hl' : zs.length ≤ 1000 := by
        have h1 := hts'.length
        have h2 := hpk.length_eq
        have h3 := crossL_len xs ys
        have h5 : xs.length * ys.length ≤ 2 * 2 := Nat.mul_le_mul lx ly
        omega
      refine swap_tail (cs := ks') upd_same (Ts.mono (Tps.new hr') hts') hD hl' (fun _ _ => rfl) (fun _ _ => rfl) (fun _ _ => rfl) fun H2 ws s2' hws hcs => ?_
      exact hQ H2 _ ks' ((same_add s hr').trans s2') hpk ⟨D, ws, rfl, hws, hcs⟩
end
end K34
end
section
set_option Elab.async false
set_option linter.all false
set_option maxRecDepth 100000
set_option maxHeartbeats 5000000
namespace K34
open PySem PySem.Spec PyProof.Rows L2
theorem tyT {K : PySem.W.Frag} {H : Hp} {a : Addr} {xs : List V} (h : SqT K H a xs) : TyX K H (.ref a) (.type "tuple") := by
  rcases h with (h | ⟨o, h⟩) | ⟨o, its, n, hk, hc, _⟩
  · exact .base (.tup h)
  · exact .fTuple h
  · exact .kTuple hk hc
def spIsClass (K : PySem.W.Frag) : Sp := fun vs H Q _ => ∃ v c, vs = [v] ∧ T2 K H v c ∧ Ok1 c ∧ ∀ H', Same H H' → Q (.bl true) H'
section
variable {P : Program} {w : World} {K : PySem.W.Frag} {mg : Str → Option Value} {base : Heap} {f : Addr} {fd : FuncData}
theorem sc_is_class : FnScope ["one", "part"] ["one"] (defScope s_is_class) := ⟨rfl, rfl, rfl, by decide +kernel, rfl, by decide +kernel, by decide +kernel⟩
theorem ok_is_class (F : FnP K "is_class" "is_class" s_is_class f fd) (T : Top K mg) : FnOk P w K mg base CX0 1 f fd ["one"] (spIsClass K) := by
  refine okB F sc_is_class (fun vs H Q E h => ?_) (fun cdv A outer s H vs Q E hr h => ?_)
  · obtain ⟨v, c, rfl, _⟩ := h; rfl
  · obtain ⟨v, c, rfl, ⟨a, rfl, hA⟩, oc, hQ⟩ := h
    have nd := sc_is_class.nd
    refine ⟨_, pss_cons (ps_if (PW.pt (pw_or (pt_not (pt_val (pe_callB call_isiT (by rfl) T.isinstance hb_isinstance (pa_cons (pv 0) (pa_cons (pe_tup (pa_cons (pe_bltn (v := .ty "tuple") (by rfl) T.tuple hb_tuple rfl) (pa_cons (pe_bltn (v := .ty "list") (by rfl) T.list hb_list rfl) pa_nil))) pa_nil)))))
          (pw_or (pt_cmpR op_ne (pe_callB call_len_seq (by rfl) T.len hb_len (pa_cons (pv 0) pa_nil)) pe_int (nomark _))
          (pw_or1 (pt_not (pt_val (pe_callB (cr_all rfl) (by rfl) T.all hb_all (pa_cons (pe_lc (own := [("part", 1)]) (g := gName 1) (tt := tYes) (te := tCB (rIsi K) (tCons (tVar 1) (tCons (tC (.ty "int")) tNil))) rfl nd (pi_tup (pv 0))
            (blkOk_by (N := ["one", "part"]) (sc := defScope s_is_class) (by decide +kernel)) (fun _ _ _ _ _ => pg_name (i := 1) nd rfl (Or.inl rfl)) (fun _ _ _ _ _ => pts_nil)
            (fun _ _ _ _ _ => pe_callB call_isi (by rfl) T.isinstance hb_isinstance (pa_cons (pv 1) (pa_cons (pe_bltn (v := .ty "int") (by rfl) T.int hb_int rfl) pa_nil)))) pa_nil))))))))
        (pss_one (ps_ret pe_bl)) pss_nil)
      (pss_one (ps_ret (pe_chain op_le op_lt pe_int (pe_ix ix_tup (pv 0) pe_int (fun _ _ => rfl)) (pe_ix ix_tup (pv 0) pe_int (fun _ _ => rfl))))), ?_⟩
    refine ⟨_, rfl, (by show 2 ≤ sizeLine; decide), fun p hp => ?_⟩
    have s1 : Same H (upd H p (.tup [.ty "tuple", .ty "list"])) := same_new hp
    have hA1 := same_tup s1 hA
    refine ⟨_, p, _, _, _, true, rfl, upd_same, .cons (.ty _) (.cons (.ty _) .nil), tyT hA1, kitAny_cons (kit_ty (r := true) (by decide +kernel)) (fun q => nomatch q) (fun _ => rfl), _, rfl, ?_⟩
    refine iteF ?_
    refine ⟨_, rfl, a, _, rfl, .inr hA1, rfl, _, rfl, ?_⟩
    refine ifF (neI_f rfl) ?_
    refine ⟨_, rfl, a, rfl, ⟨_, hA1⟩, fun D hD => lc_tup (K := K) (a := a) (xs := [.int c.1, .int c.2]) (fun i H' => Same (upd H p (.tup [.ty "tuple", .ty "list"])) H' ∧ H' D = some (.lst (List.replicate i (.bl true)))) ⟨same_new hD, upd_same⟩
      (fun i H' _ ⟨s, _⟩ => same_tup s hA1) ?_ ?_⟩
    · rintro i x H' hi ⟨s, hd⟩
      obtain ⟨n, rfl⟩ : ∃ n, x = V.int n := by
        match i, hi with
        | 0, hi => exact ⟨_, (Option.some.inj hi).symm⟩
        | 1, hi => exact ⟨_, (Option.some.inj hi).symm⟩
        | i + 2, hi => simp at hi
      have hi' := (List.getElem?_eq_some_iff.mp hi).1
      refine ⟨rfl, _, rfl, _, _, _, _, true, rfl, .ty _, .base (.int n), kit_ty (r := true) (by decide +kernel), _, hd, ?_, same_set s hD, ?_⟩
      · rw [List.length_replicate]
        exact small1000 (by have : i < 2 := hi'; omega)
      · rw [upd_same, List.replicate_succ']
    · rintro H' ⟨s, hd⟩
      refine ⟨D, [true, true], rfl, .of hd, _, rfl, iteF ?_⟩
      have hA2 := same_tup (s1.trans s) hA
      refine ⟨_, rfl, a, _, _, _, rfl, rfl, hA2, rfl, _, _, rfl, rfl, _, rfl, ?_⟩
      refine ifT (decide_eq_true oc.lo) ?_
      refine ⟨_, rfl, a, _, _, _, rfl, rfl, hA2, rfl, _, _, rfl, rfl, ?_⟩
      exact qB (Q := Q) (decide_eq_true oc.hi) (hQ _ (s1.trans s))
end
end K34
end
section
set_option Elab.async false
set_option linter.all false
set_option maxRecDepth 100000
set_option maxHeartbeats 5000000
namespace K34
open PySem PySem.Spec PyProof.Rows L2
theorem cut_from (xs : List V) (k : Nat) : cutV xs (some (k : Int)) none = xs.drop k := by
  unfold cutV
  rw [HT.sIx_nat, HT.sIx_none]
  by_cases h : k ≤ xs.length
  · rw [Nat.min_eq_left h, List.take_of_length_le (by rw [List.length_drop]; exact Nat.le_refl _)]
  · rw [Nat.min_eq_right (by omega), List.drop_length, List.drop_eq_nil_of_le (by omega)]
    simp
theorem cut_to (xs : List V) (k : Nat) : cutV xs none (some (k : Int)) = xs.take k := by
  unfold cutV
  rw [HT.sIx_nat, HT.sIx_none, List.drop_zero, Nat.sub_zero]
  by_cases h : k ≤ xs.length
  · rw [Nat.min_eq_left h]
  · rw [Nat.min_eq_right (by omega), List.take_length, List.take_of_length_le (by omega)]
/-- all but x stands -/
def SameX (x : Addr) (H H' : Hp) : Prop := ∀ b o, b ≠ x → H b = some o → H' b = some o
theorem SameX.of {x : Addr} {H H' : Hp} (s : Same H H') : SameX x H H' := fun b o _ e => s b o e
theorem SameX.trans {x : Addr} {H H1 H2 : Hp} (a : SameX x H H1) (b : SameX x H1 H2) : SameX x H H2 := fun c o n e => b c o n (a c o n e)
theorem SameX.setx {x : Addr} {H : Hp} {o : HO} : SameX x H (upd H x o) := fun b u n e => by rw [upd_ne n]; exact e
theorem SameX.setn {x l : Addr} {H H' : Hp} {o : HO} (s : SameX x H H') (h : H l = none) : SameX x H (upd H' l o) := fun b u n e => by
  rw [upd_ne (ne_of_none e h)]; exact s b u n e
theorem SameX.add {x p : Addr} {H H' : Hp} {o : HO} (s : SameX x H H') (h : H' p = none) : SameX x H (upd H' p o) := s.trans (.of (same_new h))
def spTimesInit (K : PySem.W.Frag) (C : Addr) : Sp := fun vs H Q _ => ∃ x dx M v cs m, vs = [.ref x, .int M, .non, v] ∧ H x = some (.ins C dx []) ∧ LC K H v cs ∧ (0 ≤ M ∧ cs.length ≤ 64 ∧ OkC cs m ∧ cs.Nodup) ∧
  ∀ H' l zs, SameX x H H' → H' x = some (.ins C dx (timF M l)) → LC K H' (.ref l) zs → zs.Perm cs → Q .non H'
section
variable {P : Program} {w : World} {K : PySem.W.Frag} {mg : Str → Option Value} {base : Heap} {f : Addr} {fd : FuncData}
theorem sc_tinit : FnScope ["self", "start", "end", "classes", "rows", "one", "at", "other", "remainder", "modulus"] ["self", "start", "end", "classes"] (defScope s_Times_init) := ⟨rfl, rfl, rfl, by decide +kernel, rfl, by decide +kernel, by decide +kernel⟩
theorem ok_tinit {C fI fA : Addr} {fdI fdA : FuncData} (F : FnP K "__init__" "Times.__init__" s_Times_init f fd) (T : Top K mg) (TC : TimC K C) (CI : Cal P w K mg base "is_class" ["one"] 1 (spIsClass K) fI fdI) (CA : Cal P w K mg base "are_apart" ["one", "other"] 1 (spApart K) fA fdA) :
    FnOk P w K mg base CX0 2 f fd ["self", "start", "end", "classes"] (spTimesInit K C) := by
  refine okB F sc_tinit (fun vs H Q E h => ?_) (fun cdv A outer s H vs Q E hr h => ?_)
  · obtain ⟨x, dx, M, v, cs, m, rfl, _⟩ := h; rfl
  · obtain ⟨x, dx, M, v, cs, m, rfl, hx, ⟨a, vs, rfl, hA, cA⟩, ⟨hM, hlen, hok, hnd⟩, hQ⟩ := h
    have nd := sc_tinit.nd
    obtain ⟨tm, gm⟩ := T.mcl
    refine ⟨_, pss_cons (ps_if (PW.pt (pw_or (pt_cmpR op_lt (pv 1) pe_int (nomark _)) (pw_or (PW.pt (pw_and (pt_cmpR op_notN (pv 2) pe_non (nomark _)) (pw_and1 (pt_cmpR op_lt (pv 2) pe_int (nomark _)))))
          (pw_or1 (pt_cmpR op_gt (pe_callB call_len_seq (by rfl) T.len hb_len (pa_cons (pv 3) pa_nil)) (pe_glob (v := .int 64) rfl gm ⟨_, rfl⟩) (nomark _)))))) (pss_one ps_never) pss_nil)
      (pss_cons (ps_set (i := 4) nd rfl (Or.inl rfl) (pe_lst pa_nil))
      (pss_cons (ps_for PassesOwn.never rfl (pi_list (pv 3)) (pg_name (i := 5) nd rfl (Or.inr rfl))
        (pss_cons (ps_if (pt_not (pt_val (pe_cal CI hr (pa_cons (pv 5) pa_nil)))) (pss_one ps_never) pss_nil)
        (pss_one (ps_expr (pe_bm PySem.F.plainAttrs_list PySem.F.slot_list_append PySem.F.type_list_append mt_append (pv 4)
          (pa_cons (pe_tup (pa_cons (pe_ix ix_tup (pv 5) pe_int (fun _ _ => rfl)) (pa_cons (pe_ix ix_tup (pv 5) pe_int (fun _ _ => rfl)) pa_nil))) pa_nil))))))
      (pss_cons (ps_fld (pv 0) (pv 1) rfl) (pss_cons (ps_fld (pv 0) (pv 2) rfl)
      (pss_cons (ps_fld (pv 0) (pe_lc (own := [("remainder", 8), ("modulus", 9)]) (g := gTup K 2 (gCons (gName 9) (gCons (gName 8) gNil))) (tt := tYes) rfl nd
        (pi_list (pe_callB cr_sortedP (by rfl) T.sorted hb_sorted (pa_cons (pv 4) pa_nil)))
        (blkOk_by (N := ["self", "start", "end", "classes", "rows", "one", "at", "other", "remainder", "modulus"]) (sc := defScope s_Times_init) (by decide +kernel))
        (fun _ _ _ _ _ => pg_tup (by rfl) (pgs_cons (pg_name (i := 9) nd rfl (Or.inl rfl)) (pgs_cons (pg_name (i := 8) nd rfl (Or.inl rfl)) pgs_nil)))
        (fun _ _ _ _ _ => pts_nil) (fun _ _ _ _ _ => pe_tup (pa_cons (pv 8) (pa_cons (pv 9) pa_nil)))) rfl)
      (pss_one (ps_for PassesOwn.never rfl (pi_enum (by rfl) T.enumerate (pa_cons (pe_fld (pv 0) rfl) pa_nil)) (pg_tup (by rfl) (pgs_cons (pg_name (i := 6) nd rfl (Or.inl rfl)) (pgs_cons (pg_name (i := 5) nd rfl (Or.inr rfl)) pgs_nil)))
        (pss_one (ps_if (pt_not (pt_val (pe_callB (cr_all rfl) (by rfl) T.all hb_all (pa_cons (pe_lc (own := [("other", 7)]) (g := gName 7) (tt := tYes) (te := tCall (spApart K) [] E0 (tCons (tVar 5) (tCons (tVar 7) tNil))) rfl nd
          (pi_list (pe_slice sl_list (pe_fld (pv 0) rfl) (po_some (pe_op op_add (pv 6) pe_int)) po_none))
          (blkOk_by (N := ["self", "start", "end", "classes", "rows", "one", "at", "other", "remainder", "modulus"]) (sc := defScope s_Times_init) (by decide +kernel))
          (fun _ _ _ _ _ => pg_name (i := 7) nd rfl (Or.inl rfl)) (fun _ _ _ _ _ => pts_nil) (fun _ _ _ _ _ => pe_cal CA hr (pa_cons (pv 5) (pa_cons (pv 7) pa_nil)))) pa_nil)))) (pss_one ps_never) pss_nil))))))))), ?_⟩
    have l1 := cA.length
    refine ⟨_, rfl, _, _, rfl, rfl, _, rfl, ifF (decide_eq_false (by omega)) ?_⟩
    refine ⟨_, rfl, rfl, _, rfl, ifF (by decide) (iteF ?_)⟩
    refine ⟨_, rfl, a, _, rfl, .inl (.of hA), _, _, rfl, rfl, _, rfl, ifF (decide_eq_false (by omega)) ?_⟩
    refine ⟨(by show 0 ≤ sizeLine; decide), fun l hl => ?_⟩
    have nax : a ≠ x := ne_of hA hx (fun q => nomatch q)
    have s0 : Same H (upd H l (.lst [])) := same_new hl
    refine ⟨_, rfl, a, rfl, ⟨_, .of (s0 _ _ hA)⟩, for_list (K := K) (a := a) (xs := vs) (fun i σ H' => ∃ (rs : List V) (o : Option V), σ = [some (.ref x), some (.int M), some .non, some (.ref a), some (.ref l), o, none, none, none, none] ∧ Same H H' ∧ H' l = some (.lst rs) ∧ Ts H' rs (cs.take i))
      ⟨[], none, rfl, s0, upd_same, .nil⟩ (fun i σ H' _ ⟨_, _, _, s, _⟩ => .of (s _ _ hA)) ?_ ?_⟩
    · rintro i y σ H' hi ⟨rs, o, rfl, s, hrs, hts⟩
      obtain ⟨c, hc, tc⟩ := cA.get hi
      have oc := hok.one (List.mem_of_getElem? hc)
      refine ⟨_, rfl, y, c, rfl, tc.mono (Tps.same s), oc, fun H1 s1 => ⟨_, rfl, iteF ?_⟩⟩
      have hrs1 := s1 _ _ hrs
      obtain ⟨p, rfl, hp⟩ := tc.mono (Tps.same (s.trans s1))
      refine ⟨_, rfl, .inl ⟨rfl, _, .of hrs1⟩, ?_⟩
      refine ⟨_, rfl, p, _, _, _, rfl, rfl, hp, rfl, _, rfl, p, _, _, _, rfl, rfl, hp, rfl, (by show 2 ≤ sizeLine; decide), fun q hq => ?_⟩
      have hg3 : upd H1 q (.tup [.int c.2, .int c.1]) l = some (.lst rs) := (upd_ne (ne_of_none hrs1 hq)).trans hrs1
      have hrl : rs.length ≤ 1000 := by
        have h1 := hts.length
        have h2 := List.length_take_le i cs
        have h3 : (cs.take i).length ≤ cs.length := by rw [List.length_take]; omega
        omega
      refine ⟨l, _, _, rfl, rfl, hg3, small1000 hrl, ?_⟩
      refine ⟨_, _, rfl, same_set (same_add (s.trans s1) hq) hl, upd_same, ?_⟩
      have et : cs.take (i + 1) = cs.take i ++ [c] := by rw [List.take_add_one, hc]; rfl
      rw [et]
      refine All2.snoc (Ts.mono ((Tps.same s1).trans ((Tps.new hq).trans (Tps.setl hg3))) hts) ?_
      exact TT.mono (Tps.setl hg3) ⟨q, rfl, upd_same⟩
    · rintro σ H1 ⟨rs, o, rfl, s, hrs, hts⟩
      rw [l1, List.take_length] at hts
      have hx1 := s _ _ hx
      refine ⟨_, rfl, _, rfl, x, C, dx, _, rfl, hx1, TC.cl, TC.ns, (by show 0 < 1000; decide), ?_⟩
      refine ⟨_, rfl, _, rfl, x, C, dx, _, rfl, upd_same, TC.cl, TC.ne, (by show 1 < 1000; decide), ?_⟩
      rw [upd_upd]
      have nlx : l ≠ x := ne_of hrs hx1 (fun q => nomatch q)
      generalize hH2 : upd H1 x (.ins C dx (putF "end" .non (putF "start" (.int M) []))) = H2
      have hx2 : H2 x = some (.ins C dx (putF "end" .non (putF "start" (.int M) []))) := by rw [← hH2]; exact upd_same
      have sx : SameX x H H2 := by rw [← hH2]; exact (SameX.of s).trans SameX.setx
      have hrs2 : H2 l = some (.lst rs) := by rw [← hH2]; exact (upd_ne nlx).trans hrs
      have hts2 : Ts H2 rs cs := Ts.mono (by rw [← hH2]; exact Tps.seti hx1) hts
      refine ⟨_, rfl, l, _, rfl, .of hrs2, hts2.pairs, fun zs r hpm hr' => ?_⟩
      obtain ⟨ks', hpk, hts'⟩ := All2.perm hpm hts2
      refine ⟨r, rfl, ⟨_, .of upd_same⟩, fun D hD => ?_⟩
      have hl' : zs.length ≤ 1000 := by
        have h1 := hts'.length
        have h2 := hpk.length_eq
        omega
      refine swap_tail (cs := ks') upd_same (Ts.mono (Tps.new hr') hts') hD hl' (fun _ _ => rfl) (fun _ _ => rfl) (fun _ _ => rfl) fun H3 ws s3 hws hcs => ?_
      have hx3 : H3 x = some (.ins C dx (putF "end" .non (putF "start" (.int M) []))) := s3 _ _ ((upd_ne (ne_of_none hx2 hr')).trans hx2)
      have sx3 : SameX x H H3 := (sx.add hr').trans (.of s3)
      refine ⟨_, rfl, x, C, dx, _, rfl, hx3, TC.cl, TC.nc, (by show 2 < 1000; decide), ?_⟩
      have nDx : D ≠ x := ne_of hws hx3 (fun q => nomatch q)
      generalize hH4 : upd H3 x (.ins C dx (putF "classes" (.ref D) (putF "end" .non (putF "start" (.int M) [])))) = H4
      have hx4 : H4 x = some (.ins C dx (timF M D)) := by rw [← hH4]; exact upd_same
      have sx4 : SameX x H H4 := by rw [← hH4]; exact sx3.trans SameX.setx
      have hws4 : H4 D = some (.lst ws) := by rw [← hH4]; exact (upd_ne nDx).trans hws
      have hcs4 : Cs K H4 ws ks' := Cs.mono (by rw [← hH4]; exact Tps.seti hx3) hcs
      have hok' : OkC ks' m := ⟨hok.pos, fun c hc => hok.all c (hpk.mem_iff.mp hc)⟩
      have hnd' : ks'.Nodup := hpk.nodup_iff.mpr hnd
      refine ⟨_, rfl, x, C, dx, _, _, rfl, hx4, TC.cl, TC.nc, timF_c _ _, D, _, rfl, .of hws4, for_it walk_enum (fun i σ H' => ∃ (o1 o2 : Option V), σ = [some (.ref x), some (.int M), some .non, some (.ref a), some (.ref l), o1, o2, none, none, none] ∧ Same H4 H')
        ⟨o, none, rfl, Same.refl _⟩ (fun i σ H' _ ⟨_, _, _, s⟩ => .of (s _ _ hws4)) ?_ ?_⟩
      · rintro i y σ H5 H6 hi ⟨o1, o2, rfl, s5⟩ ⟨t, u, z, rfl, ht, rfl, eu, ez⟩
        cases eu
        have s6 : Same H4 (upd H5 t (.tup [.int (i : Nat), z])) := same_add s5 ht
        obtain ⟨c, hc, tc⟩ := hcs4.get ez
        refine ⟨t, _, rfl, .of upd_same, rfl, _, _, rfl, _, _, rfl, rfl, ?_⟩
        refine ⟨_, rfl, x, C, dx, _, _, rfl, s6 _ _ hx4, TC.cl, TC.nc, timF_c _ _, _, rfl, _, _, rfl, rfl, _, rfl, D, _, rfl, .of (s6 _ _ hws4), fun p hp => ?_⟩
        have ep : cutV ws (some ((i : Int) + 1)) none = ws.drop (i + 1) := cut_from ws (i + 1)
        have s7 := same_add (o := .lst (cutV ws (some ((i : Int) + 1)) none)) s6 hp
        have hp7 : upd (upd H5 t (.tup [.int (i : Nat), z])) p (.lst (cutV ws (some ((i : Int) + 1)) none)) p = some (.lst (ws.drop (i + 1))) := by rw [upd_same, ep]
        generalize upd (upd H5 t (.tup [.int (i : Nat), z])) p (.lst (cutV ws (some ((i : Int) + 1)) none)) = H7 at s7 hp7
        refine ⟨p, rfl, ⟨_, .of hp7⟩, fun D2 hD2 => lc_list (K := K) (a := p) (xs := ws.drop (i + 1)) (fun j H' => Same H7 H' ∧ H' D2 = some (.lst (List.replicate j (.bl true)))) ⟨same_new hD2, upd_same⟩ (fun j H' _ ⟨s, _⟩ => .of (s _ _ hp7)) ?_ ?_⟩
        · rintro j y H8 hj ⟨s8, hd8⟩
          rw [List.getElem?_drop] at hj
          obtain ⟨d, hd, td⟩ := hcs4.get hj
          have h1 := (List.getElem?_eq_some_iff.mp hj).1
          have h2 := hcs4.length
          have ne : c ≠ d := fun e => by
            subst e
            obtain ⟨q1, e1⟩ := List.getElem?_eq_some_iff.mp hc
            obtain ⟨q2, e2⟩ := List.getElem?_eq_some_iff.mp hd
            have := (List.getElem_inj hnd').mp (e1.trans e2.symm)
            omega
          have mc := List.mem_of_getElem? hc
          have md := List.mem_of_getElem? hd
          refine ⟨rfl, _, rfl, _, rfl, z, y, c, d, rfl, tc.mono (Tps.same (s7.trans s8)), td.mono (Tps.same (s7.trans s8)), ⟨(hok'.one mc).pos, apart hok' mc md ne⟩, ?_⟩
          refine ⟨_, hd8, ?_, same_set s8 hD2, ?_⟩
          · rw [List.length_replicate]
            have h3 := hpk.length_eq
            exact small1000 (by omega)
          · rw [upd_same, List.replicate_succ']
        · rintro H8 ⟨s8, hd8⟩
          refine ⟨D2, List.replicate (ws.drop (i + 1)).length true, rfl, .of (by rw [List.map_replicate]; exact hd8), _, rfl, ifF (by simp) ?_⟩
          exact ⟨_, _, rfl, s7.trans s8⟩
      · rintro σ H5 ⟨o1, o2, rfl, s5⟩
        exact hQ H5 D ks' (sx4.trans (.of s5)) (s5 _ _ hx4) ⟨D, ws, rfl, s5 _ _ hws4, hcs4.mono (Tps.same s5)⟩ hpk
end
end K34
end
section
set_option Elab.async false
set_option linter.all false
set_option maxRecDepth 100000
set_option maxHeartbeats 5000000
namespace K34
open PySem PySem.Spec PyProof.Rows L2
/-- a minute, from M on, or None -/
def oV (M : Int) : Option Int → V
  | none => .non
  | some t => .int (M + t)
def spNext (K : PySem.W.Frag) (C : Addr) : Sp := fun vs H Q _ => ∃ t M l cs, vs = [.ref t, .int M] ∧ Tim H C t M l ∧ LC K H (.ref l) cs ∧ (cs.length ≤ 64 ∧ ∀ c ∈ cs, Ok1 c) ∧
  ∀ H' o, Same H H' → Least (fun t => MemC cs (M + t)) o → Q (oV M o) H'
section
variable {P : Program} {w : World} {K : PySem.W.Frag} {mg : Str → Option Value} {base : Heap} {f : Addr} {fd : FuncData}
theorem sc_next : FnScope ["self", "minute", "first", "found", "remainder", "modulus"] ["self", "minute"] (defScope s_next_from) := ⟨rfl, rfl, rfl, by decide +kernel, rfl, by decide +kernel, by decide +kernel⟩
theorem ok_next {C fW : Addr} {fdW : FuncData} (F : FnP K "next_from" "Times.next_from" s_next_from f fd) (T : Top K mg) (TC : TimC K C) (MW : CalM P w K mg base C "is_within" ["self", "minute"] 1 (spWithin C) fW fdW) :
    FnOk P w K mg base CX0 2 f fd ["self", "minute"] (spNext K C) := by
  refine okB F sc_next (fun vs H Q E h => ?_) (fun cdv A outer s H vs Q E hr h => ?_)
  · obtain ⟨t, M, l, cs, rfl, _⟩ := h; rfl
  · obtain ⟨t, M, l, cs, rfl, ⟨dx, hT⟩, ⟨l', vs, el, hL, cL⟩, ⟨hlen, hok⟩, hQ⟩ := h
    cases el
    have nd := sc_next.nd
    refine ⟨_, pss_cons (ps_set (i := 2) nd rfl (Or.inr rfl) (pe_callB (call_max2 rfl) (by rfl) T.max hb_max (pa_cons (pv 1) (pa_cons (pe_fld (pv 0) rfl) pa_nil))))
      (pss_cons (ps_setLc (i := 3) (own := [("remainder", 4), ("modulus", 5)]) (g := gTup K 2 (gCons (gName 4) (gCons (gName 5) gNil))) (tt := tYes) rfl nd rfl rfl (sw_true rfl rfl rfl (by decide +kernel))
        (pi_list (pe_fld (pv 0) rfl))
        (blkOk_by (N := ["self", "minute", "first", "found", "remainder", "modulus"]) (sc := defScope s_next_from) (by decide +kernel))
        (fun _ _ _ _ _ => pg_tup (by rfl) (pgs_cons (pg_name (i := 4) nd rfl (Or.inl rfl)) (pgs_cons (pg_name (i := 5) nd rfl (Or.inl rfl)) pgs_nil)))
        (fun _ _ _ _ _ => pts_nil) (fun _ _ _ _ _ => pe_op op_add (pv 2) (pe_op op_mod (pe_op op_sub (pv 4) (pv 2)) (pv 5))))
      (pss_cons (ps_if (PW.pt (pw_or (pt_not (pt_truth (pv 3) (by intro _; rfl))) (pw_or1 (pt_not (pt_val (pe_meth (pv 0) TC.cl MW.me MW.ok hr MW.b .nil pass0 (pa_cons (pe_callB (cr_min rfl) (by rfl) T.min hb_min (pa_cons (pv 3) pa_nil)) pa_nil)))))))
        (pss_one (ps_ret pe_non)) pss_nil)
      (pss_one (ps_ret (pe_callB (cr_min rfl) (by rfl) T.min hb_min (pa_cons (pv 3) pa_nil)))))), ?_⟩
    refine ⟨_, rfl, _, rfl, t, C, dx, _, _, rfl, hT, TC.cl, TC.ns, timF_s _ _, _, _, rfl, ?_⟩
    have em : (if M > M then M else M) = M := by split <;> rfl
    rw [em]
    refine ⟨_, rfl, t, C, dx, _, _, rfl, hT, TC.cl, TC.nc, timF_c _ _, l, rfl, ⟨_, .of hL⟩, fun D hD => lc_list (K := K) (a := l) (xs := vs) (fun i H' => Same H H' ∧ H' D = some (.lst ((((cs.take i).map (firstFrom M)).map V.int)))) ⟨same_new hD, upd_same⟩
      (fun i H' _ ⟨s, _⟩ => .of (s _ _ hL)) ?_ ?_⟩
    · rintro i x H' hi ⟨s, hd⟩
      obtain ⟨c, hc, p, rfl, hp⟩ := cL.get hi
      have oc := hok c (List.mem_of_getElem? hc)
      refine ⟨p, _, rfl, same_tup s hp, rfl, _, _, rfl, _, _, rfl, rfl, rfl, ?_⟩
      refine ⟨_, rfl, _, rfl, _, rfl, _, _, rfl, rfl, _, rfl, _, _, rfl, rfl, oc.pos, _, _, rfl, rfl, _, hd, ?_, same_set s hD, ?_⟩
      · rw [List.length_map, List.length_map, List.length_take]
        exact small1000 (by omega)
      · rw [upd_same, List.take_add_one, hc]
        simp [firstFrom]
    · rintro H' ⟨s, hd⟩
      have l1 := cL.length
      rw [l1, List.take_length] at hd
      have hT' := s _ _ hT
      refine ⟨_, rfl, !(cs.map (firstFrom M)).isEmpty, .inl ⟨_, .of hd, by simp⟩, ?_⟩
      cases cs with
      | nil =>
        refine iteT ?_
        refine iteT ?_
        exact hQ H' none s least_none
      | cons c cs =>
        refine iteF ?_
        have hp : 0 < ((c :: cs).map (firstFrom M)).length := by simp
        refine ⟨_, rfl, t, dx, _, rfl, hT', timF_no _ _ (by decide +kernel) (by decide +kernel) (by decide +kernel), _, rfl, D, _, rfl, .of hd, hp, fun m hm hle => ?_⟩
        have hM : M ≤ m := by
          obtain ⟨e, he, rfl⟩ := List.mem_map.mp hm
          have := Int.emod_nonneg (e.1 - M) (show e.2 ≠ 0 by have := (hok e he).pos; omega)
          unfold firstFrom
          omega
        refine ⟨t, M, l, m, rfl, ⟨dx, hT'⟩, hM, _, rfl, iteF ?_⟩
        refine ⟨_, rfl, D, _, rfl, .of hd, hp, fun m' hm' hle' => ?_⟩
        have z : Q (.int (M + (m' - M))) H' := hQ H' (some (m' - M)) s (firstFrom_least hok hm' hle')
        have e : M + (m' - M) = m' := by omega
        rw [e] at z
        exact z
end
end K34
end
section
set_option Elab.async false
set_option linter.all false
set_option maxRecDepth 100000
set_option maxHeartbeats 5000000
/-! enumerate(tuple); x not in a tuple of data; repr of data: rules over the layer -/
namespace K34
open PySem PySem.Spec PyProof.Rows L2
/-- what the tuple's iterator and the enumerate are made of -/
abbrev tupIt (t : Addr) : Obj := { cls := .type "tuple_iterator", data := .fields #[.ref t, .int 0 0] }
abbrev enumOf (i : Addr) : Obj := { cls := .type "enumerate", data := .fields #[.none, .bool false, .ref i, rawInt 0, .none, .none] }
theorem meets_enum1 {v : Value} {o : Obj} {G : Heap → Prop} (B : Begins v o G) :
    Meets (Builtin.«enumerate.__new__» ⟨[.type "enumerate", v], []⟩) (fun _ R s => G s.heap ∧
      R (.ok (.ret (.ref (s.heap.push o).objs.size))) { s with heap := (s.heap.push o).push (enumOf s.heap.objs.size) }) := by
  refine .of_wp fun prog w A R s hG => ?_
  obtain ⟨g0, g1⟩ := hG
  cases s with
  | mk hp gn dr tk os =>
    have sub := sub_enumerate
    have start : ∀ {A' : Around} {Er : Value → Shared → Prop} {Qr : Value → Shared → Prop}, Qr (.ref hp.objs.size) ⟨hp.push o, gn, dr, tk, os⟩ → wpAny (model prog w) A' (pyIter v) Qr Er ⟨hp, gn, dr, tk, os⟩ :=
      fun z => B.iter prog w _ _ _ _ g0 z
    wp_walk using start
    refine wpAny_stack_any fun _ => wpAny_pure ?_
    split
    · rename_i cc _ _ _ _ _
      cases (cc == Value.type "enumerate") <;> (wp_walk using start; exact ⟨_, rfl, g1⟩)
    · wp_walk using start
      exact ⟨_, rfl, g1⟩
section
variable {prog : Program} {w : World} {A : Around} {E : Value → Shared → Prop} {s : Shared} {t : Addr} {vals : Array Value} {Q : Value → Shared → Prop}
/-- enumerate(t): its two new cells -/
theorem call_enumT (isT : s.heap.IsTuple t vals)
    (cont : ∀ h1, IsEnum h1 (s.heap.objs.size + 1) s.heap.objs.size 0 .none → h1.IsTupleIter s.heap.objs.size t 0 → (∀ b o, s.heap.get? b = some o → h1.get? b = some o) → Q (.ref (s.heap.objs.size + 1)) { s with heap := h1 }) :
    wpAny (model prog w) A (call (.type "enumerate") [.ref t]) Q E s := by
  have size1 : ∀ o : Obj, (s.heap.push o).objs.size = s.heap.objs.size + 1 := fun o => Heap.size_push ..
  have isE : IsEnum ((s.heap.push (tupIt t)).push (enumOf s.heap.objs.size)) (s.heap.objs.size + 1) s.heap.objs.size 0 .none := by
    have z := Heap.get?_push_size (s.heap.push (tupIt t)) (o := enumOf s.heap.objs.size) rfl
    rw [size1] at z
    exact z
  have new := meets_enum1 (begins_tuple t vals)
  refine callType_new F.called_enumerate (by decide) (F.typeCall_enumerate_1 _) (F.newCall_enumerate_1 _)
    (fun ob => F.args_object_init_2 ob _) F.entry_enumerate_new new ⟨isT, ?_⟩
  show _ ∧ _
  rw [size1]
  have isI : ((s.heap.push (tupIt t)).push (enumOf s.heap.objs.size)).IsTupleIter s.heap.objs.size t 0 := ⟨tupIt t, Heap.get?_push_of_some _ (Heap.get?_push_size _ rfl), rfl, rfl⟩
  exact ⟨⟨_, isE, rfl⟩, cont _ isE isI fun b o z => Heap.get?_push_of_some _ (Heap.get?_push_of_some _ z)⟩
end
/-- an enumerate is no tuple; a tuple's iterator is none -/
theorem enum_ne {h : Heap} {en ti t : Addr} {k : Int} {was : Value} {vals : Array Value} (isE : IsEnum h en ti k was) (isT : IsTup h t vals) : en ≠ t := fun q => by
  obtain ⟨o, z1, z2, _⟩ := isT
  rw [← q, isE] at z1
  cases z1
  injection z2 with z3
  exact absurd z3 (by decide)
theorem iter_ne {h : Heap} {ti t u : Addr} {k : Nat} {vals : Array Value} (isI : h.IsTupleIter ti u k) (isT : IsTup h t vals) : ti ≠ t := fun q => by
  obtain ⟨o, z1, z2, _⟩ := isT
  obtain ⟨o', y1, y2, _⟩ := isI
  rw [← q, y1] at z1
  cases z1
  rw [y2] at z2
  injection z2 with z3
  exact absurd z3 (by decide)
theorem of_two {b x y : Addr} (h : b ∈ [x, y]) : b = x ∨ b = y := by simpa using h
/-- the tuple at a, each item in a new pair -/
def Iet (K : PySem.W.Frag) (a : Addr) : It where
  go := fun i H => ∃ (xs : List V) (x : V), SqT K H a xs ∧ xs[i]? = some x
  yld := fun i H v H' => ∃ p x, v = .ref p ∧ H p = none ∧ H' = upd H p (.tup [.int (i : Nat), x]) ∧ ∀ xs, SqT K H a xs → xs[i]? = some x
  stop := fun i H => ∃ xs : List V, SqT K H a xs ∧ xs.length = i
/-- the state of such a walk: the enumerate's and the iterator's cells -/
def EnAt (a en ti : Addr) (i : Nat) (h : Heap) : Prop := (∃ was, IsEnum h en ti ((i : Nat) : Int) was) ∧ h.IsTupleIter ti a i ∧ en ≠ ti
theorem turn_enumT {P : Program} {w : World} {K : PySem.W.Frag} {elts : List Expr} {kk : Nat} {tpos : Pos} (a en ti : Addr) : Turn P w K (.Tuple elts kk tpos) (Iet K a) [en, ti] en (EnAt a en ti) where
  mem := List.mem_cons_self
  obj := fun i h st b hb => by
    obtain ⟨⟨was, isE⟩, ⟨o, ho, oc, od⟩, _⟩ := st
    rcases of_two hb with rfl | rfl
    · exact ⟨_, isE, fun _ z => nomatch z⟩
    · exact ⟨o, ho, fun _ z => by rw [od] at z; cases z⟩
  keep := fun i h h1 st k => by
    obtain ⟨⟨was, isE⟩, ⟨o, ho, more⟩, dif⟩ := st
    exact ⟨⟨was, k en (by simp) _ isE⟩, ⟨o, k ti (by simp) _ ho, more⟩, dif⟩
  item := by
    intro X eP eW eK calm i pins s σ H Er I fresh st goes
    subst eP eW eK
    obtain ⟨⟨was, isE⟩, isI, dif⟩ := st
    obtain ⟨xs, x, sq, ex⟩ := goes
    obtain ⟨vals, rel, isT, _⟩ := I.tuple sq
    obtain ⟨u, eu, ru⟩ := Vals.get rel ex
    have lt1 : en < s.heap.objs.size := Heap.lt_size isE
    have lt2 : ti < s.heap.objs.size := Heap.lt_size isI.choose_spec.1
    have n1 := enum_ne isE isT
    have n2 := iter_ne isI isT
    have draws := Draws.tuple (prog := X.prog) (w := X.w) (A := X.A.in1) (I.ok.hd calm) ti a (Ne.symm n2) vals.toArray
    have here : i < vals.toArray.size := by
      have z := (List.getElem?_eq_some_iff.mp eu).1
      simpa using z
    refine wpAny_pyNext_enum_itemC draws isE ⟨isI, isT⟩ here dif (by simp [dif, n1]) fun x' h1 tk ex' out isI' pair size1 kept => ?_
    obtain rfl : x' = u := by
      have z : vals[i]? = some x' := by simpa using ex'
      exact Option.some.inj (z.symm.trans eu)
    refine ⟨_, rfl, wpAny_letOwnedTupleGo_enum (s := { s with heap := h1, toks := tk + 1 }) out fun h2 isE2 but => ?_⟩
    have pair2 : h2.get? s.heap.objs.size = some { cls := .type "tuple", data := .seq #[.int i tk, x'] } := (but.2 _ (Nat.ne_of_gt lt1)).trans pair
    have fits : ObjOk X.prog X.w (upd H s.heap.objs.size (.tup [.int (i : Nat), x])) h2 s.heap.objs.size (HO.tup [.int (i : Nat), x]) :=
      ⟨by show 2 ≤ sizeLine; decide, _, .cons ⟨_, rfl⟩ (.cons ru .nil), ⟨_, pair2, rfl, _, rfl⟩⟩
    have kept2 : ∀ b ob, b ∉ [en, ti] → s.heap.get? b = some ob → h2.get? b = some ob := fun b ob nb z => by
      have b1 : b ≠ en := fun q => nb (by simp [q])
      have b2 : b ≠ ti := fun q => nb (by simp [q])
      exact (but.2 b b1).trans (kept b ob b1 b2 z)
    have J := I.turnedNew (t' := tk + 1) kept2 fresh (Nat.le_refl _) fits
    have isI2 : h2.IsTupleIter ti a (i + 1) := by
      obtain ⟨o, z1, z2⟩ := isI'.1
      exact ⟨o, (but.2 ti (Ne.symm dif)).trans z1, z2⟩
    have isE3 : IsEnum h2 en ti ((i + 1 : Nat) : Int) x' := by
      rw [Int.natCast_add]
      exact isE2
    refine ⟨.ref s.heap.objs.size, _, J, rfl, ⟨_, x, rfl, I.hok.fresh (Nat.le_refl _), rfl, fun ys hy => ?_⟩, ⟨⟨x', isE3⟩, isI2, dif⟩, fun b hb => ?_⟩
    · rw [I.tuple_inj hy sq]
      exact ex
    · have nb : b ≠ s.heap.objs.size := by
        rcases of_two hb with rfl | rfl
        · exact Nat.ne_of_lt lt1
        · exact Nat.ne_of_lt lt2
      exact (upd_ne nb).trans (fresh b hb).1
  done := by
    intro X eP eW eK calm i pins s σ H Er I fresh st ends
    subst eP eW eK
    obtain ⟨⟨was, isE⟩, isI, dif⟩ := st
    obtain ⟨xs, sq, el⟩ := ends
    obtain ⟨vals, rel, isT, _⟩ := I.tuple sq
    obtain ⟨z0, z1, _, z3, z4, z5⟩ := fresh ti (by simp)
    have draws := Draws.tuple (prog := X.prog) (w := X.w) (A := X.A.in1) (I.ok.hd calm) ti a (Ne.symm (iter_ne isI isT)) vals.toArray
    have size0 : vals.toArray.size = i := by
      have z := Vals.length rel
      simp
      omega
    refine wpAny_pyNext_enum_endD draws isE (by rw [size0]; exact ⟨isI, isT⟩) fun h1 but => ⟨rfl, ?_⟩
    exact I.turned (t' := s.toks) (fun b o nb z => but b o nb z) z0 z1 z3 z4 z5
  self := fun _ _ _ _ _ st z => wpAny_pyIter_enum st.1.choose_spec z
def iEnumT (K : PySem.W.Frag) (ta : TA) : TI := fun σ H R => ta σ H fun vs H1 => ∃ a xs, vs = [.ref a] ∧ SqT K H1 a xs ∧ R (Iet K a) H1
theorem pi_enumT {X : Cx} {e : Expr} {ta : TA} {p pos tpos : Pos} {elts : List Expr} {kk : Nat} (isG : Gl X "enumerate") (noM : X.mg "enumerate" = none) (ha : PA X [e] ta) (star : starEach [e] X.env = [(false, eval e X.env)] := by rfl) :
    PI X (.Tuple elts kk tpos) (.Call (.Name "enumerate" p) [e] [] pos) (iEnumT X.K ta) where
  run := fun pins s σ H R I hR => by
    have args := ha.run pos pins s σ H _ I hR
    refine Call_ (ld_blt I isG noM boot_enumerate (PyProof.Rows.callWith_type1 (thn args fun us s1 got => ?_) star rfl))
    obtain ⟨vs, H1, J, rel, a, xs, rfl, sq, hq⟩ := got
    obtain ⟨u, rfl, ru⟩ := Vals.one rel
    cases ru
    obtain ⟨vals, _, isT, _⟩ := J.tuple sq
    refine call_enumT isT fun h1 isE isI kept => wpAny_pyIter_enum isE ?_
    have J1 := Inv.kept (t' := s1.toks) J kept
    refine ⟨_, [s1.heap.objs.size + 1, s1.heap.objs.size], _, _, H1, rfl, J1, turn_enumT a (s1.heap.objs.size + 1) s1.heap.objs.size, ⟨⟨.none, isE⟩, isI, Nat.succ_ne_self _⟩, fun b hb => ?_, hq⟩
    have new : s1.heap.objs.size ≤ b := by rcases of_two hb with rfl | rfl <;> omega
    exact Inv.fpOk J new (J.hok.fresh new)
theorem walk_enumT {K : PySem.W.Frag} {a : Addr} {xs : List V} : Walk (Iet K a) xs.length (fun H => SqT K H a xs) (YPair (fun i => some (.int (i : Nat))) (fun i => xs[i]?)) where
  goes := fun i _ hi sq => ⟨xs, xs[i], sq, by simp [hi]⟩
  stops := fun _ sq => ⟨xs, sq, rfl⟩
  yields := fun i H v H' _ sq y => by
    obtain ⟨p, x, e1, e2, e3, e4⟩ := y
    exact ⟨p, .int (i : Nat), x, e1, e2, e3, rfl, e4 xs sq⟩
/-- x not in t, t a tuple of data -/
def rNotInT (K : PySem.W.Frag) : R2 := fun x y H Q => ∃ d ds, Dp K H x d ∧ Dp K H y (.tuple ds) ∧ SeqAt.shaped d = true ∧ SeqAt.shaped (.tuple ds) = true ∧ Q (.bl (!ds.any fun z => PyData.eqv z d)) H
theorem op_notInT {X : Cx} (hu : X.A.units + 65 < cLine) : OpR X (compareOp .NotIn) (rNotInT X.K) := by
  intro pins s σ H x y v u Q I rx ry want
  obtain ⟨d, ds, dx, dy, shd, shs, hq⟩ := want
  obtain ⟨_, readx⟩ := Dp.reads I d x v dx rx
  obtain ⟨_, ready⟩ := Dp.reads I (.tuple ds) y u dy ry
  have room := room_in_shaped (xs := ds) shd hu
  exact SeqAt.notIn_tuple_reads ready readx (SeqAt.canLay_of_shaped shs) (SeqAt.canLay_of_shaped shd) room ⟨.bl _, H, I, rfl, hq⟩
/-- repr(x), x None or a tuple of data -/
def rRepr (K : PySem.W.Frag) : List V → Hp → VK → Prop := fun vs H Q => (vs = [.non] ∧ Q (.str "None") H) ∨ (∃ v d, vs = [v] ∧ (isDisplay d = true ∧ Dp K H v d ∧ d.showable = true ∧ d.hasDict = false ∧ d.depth ≤ 60 ∧ d.shown.length ≤ sizeLine) ∧ Q (.str d.shown) H)
theorem call_reprT {X : Cx} (hg : X.A.guards = some []) (hu : X.A.units + 65 < cLine) : CallR X (.builtin "repr") (rRepr X.K) := by
  intro pins s σ H args us Q I r want
  rcases want with ⟨rfl, q⟩ | ⟨v, d, rfl, ⟨hD, hd, hs, hnd, hdep, hsz⟩, q⟩
  · cases r with
    | cons rv rt =>
      cases rt
      cases rv
      exact PySem.P.repr_of_none ⟨.str _, H, I.tok _, ⟨_, rfl⟩, q⟩
  · cases r with
    | cons rv rt =>
      rename_i u ut
      cases rt
      obtain ⟨as, r1⟩ := Dp.reads I d v u hd rv
      obtain ⟨a, rfl⟩ := isRef_of_reads r1 hD
      exact repr_of_reads' r1 hs (PyData.noDict_hsm hnd) hg (by omega) (fun _ _ e => e) (fun h' u tk hk => ⟨.str d.shown, H, I.kept hk, ⟨_, rfl⟩, q⟩) hsz
end K34
end
section
set_option Elab.async false
set_option linter.all false
set_option maxRecDepth 100000
set_option maxHeartbeats 5000000
namespace K34
open PySem PySem.Spec PyProof.Rows L2
/-- the table's sides and the ball's numbers, within their bounds -/
structure Sane (w h x y dx dy M : Int) : Prop where
  w0 : 0 < w
  w1 : w ≤ 1000000000000000000000000000000
  h0 : 0 < h
  h1 : h ≤ 1000000000000000000000000000000
  x0 : 0 ≤ x
  x1 : x ≤ w
  y0 : 0 ≤ y
  y1 : y ≤ h
  ddx : Dir dx
  ddy : Dir dy
  ne : ¬ (dx = 0 ∧ dy = 0)
  m0 : 0 ≤ M
  m1 : M ≤ 1000000000000000000000000000000
/-- a ball's tuple -/
def ballV (x y dx dy M : Int) : List V := [.str "red", .int x, .int y, .int dx, .int dy, .int M]
theorem hu65' {A : Around} {k : Nat} (hr : Room k A) : A.units + 65 < cLine := by have := hr.un; omega
def spIsName : Sp := fun vs H Q _ => vs = [.str "red"] ∧ ∀ H', Same H H' → Q (.bl true) H'
/-- a table and a ball on it -/
def On (K : PySem.W.Frag) (C : Addr) (H : Hp) (t b : Addr) (w h x y dx dy M : Int) : Prop := (∃ pk, Tab H C t w h pk) ∧ SqT K H b (ballV x y dx dy M)
theorem On.same {K : PySem.W.Frag} {C : Addr} {H H' : Hp} {t b : Addr} {w h x y dx dy M : Int} (e : Same H H') (q : On K C H t b w h x y dx dy M) : On K C H' t b w h x y dx dy M := let ⟨⟨pk, p⟩, s⟩ := q; ⟨⟨pk, p.same e⟩, same_tup e s⟩
def spIsBall (K : PySem.W.Frag) (C : Addr) : Sp := fun vs H Q _ => ∃ t b w h x y dx dy M, vs = [.ref t, .ref b] ∧ On K C H t b w h x y dx dy M ∧ Sane w h x y dx dy M ∧ ∀ H', Same H H' → Q (.bl true) H'
def spCheckBall (K : PySem.W.Frag) (C : Addr) : Sp := fun vs H Q _ => ∃ t b w h x y dx dy M, vs = [.ref t, .ref b] ∧ On K C H t b w h x y dx dy M ∧ Sane w h x y dx dy M ∧ ∀ H', Same H H' → Q .non H'
section
variable {P : Program} {w : World} {K : PySem.W.Frag} {mg : Str → Option Value} {base : Heap} {f : Addr} {fd : FuncData}
theorem sc_is_name : FnScope ["text", "char"] ["text"] (defScope s_is_name) := ⟨rfl, rfl, rfl, by decide +kernel, rfl, by decide +kernel, by decide +kernel⟩
theorem red_in : ∀ c ∈ ("red" : Str).cps.toList, decide (c ∈ ("abcdefghijklmnopqrstuvwxyz0123456789" : Str).cps.toList) = true := by decide +kernel
theorem ok_is_name (F : FnP K "is_name" "is_name" s_is_name f fd) (T : Top K mg) : FnOk P w K mg base CX0 1 f fd ["text"] spIsName := by
  refine okB F sc_is_name (fun vs H Q E h => ?_) (fun cdv A outer s H vs Q E hr h => ?_)
  · obtain ⟨rfl, _⟩ := h; rfl
  · obtain ⟨rfl, hQ⟩ := h
    have nd := sc_is_name.nd
    obtain ⟨t1, g1⟩ := T.mnc
    obtain ⟨t2, g2⟩ := T.nch
    refine ⟨_, pss_cons (ps_if (PW.pt (pw_or (pt_not (pt_chain op_le op_le pe_int (pe_callB call_len_str (by rfl) T.len hb_len (pa_cons (pv 0) pa_nil)) (pe_glob (v := .int 12) rfl g1 ⟨_, rfl⟩)))
          (pw_or1 (pt_cmpR op_in_sign (pe_ix ix_str (pv 0) pe_int (fun _ _ => rfl)) pe_str (by rfl))))) (pss_one (ps_ret pe_bl)) pss_nil)
      (pss_one (ps_ret (pe_callB (cr_all rfl) (by rfl) T.all hb_all (pa_cons (pe_lc (own := [("char", 1)]) (g := gName 1) (tt := tYes) rfl nd (pi_str (pv 0))
        (blkOk_by (N := ["text", "char"]) (sc := defScope s_is_name) (by decide +kernel)) (fun _ _ _ _ _ => pg_name (i := 1) nd rfl (Or.inl rfl)) (fun _ _ _ _ _ => pts_nil)
        (fun _ _ _ _ _ => pe_cmpR op_in_sign (pv 1) (pe_glob (v := .str "abcdefghijklmnopqrstuvwxyz0123456789") rfl g2 ⟨_, rfl⟩) (by rfl))) pa_nil)))), ?_⟩
    refine ⟨_, rfl, _, rfl, (by decide +kernel), _, _, rfl, rfl, _, rfl, ifT (by decide +kernel) ?_⟩
    refine ⟨_, _, rfl, rfl, _, rfl, ifF (by decide +kernel) ?_⟩
    refine ⟨_, rfl, _, _, 114, rfl, rfl, (by decide +kernel), (by decide +kernel), ?_⟩
    refine ⟨_, _, rfl, rfl, _, rfl, ifF (by decide +kernel) ?_⟩
    refine ⟨_, rfl, _, rfl, fun D hD => lc_it walk_str (fun i H' => Same H H' ∧ H' D = some (.lst (List.replicate i (.bl true)))) ⟨same_new hD, upd_same⟩ (fun _ _ _ _ => trivial) ?_ ?_⟩
    · rintro i x H1 H2 hi ⟨s1, hd⟩ ⟨rfl, c, hc, rfl⟩
      have hm : c ∈ ("red" : Str).cps.toList := by
        rw [← Array.getElem?_toList] at hc
        exact List.mem_of_getElem? hc
      refine ⟨rfl, _, rfl, _, _, rfl, rfl, _, hd, ?_, same_set s1 hD, ?_⟩
      · rw [List.length_replicate]
        have : ("red" : Str).cps.size = 3 := by decide +kernel
        exact small1000 (by omega)
      · rw [upd_same, List.replicate_succ', red_in c hm]
    · rintro H1 ⟨s1, hd⟩
      refine ⟨D, List.replicate ("red" : Str).cps.size true, rfl, .of (by rw [List.map_replicate]; exact hd), ?_⟩
      exact qB (Q := Q) (by simp) (hQ _ s1)
theorem sc_is_ball : FnScope ["table", "ball", "_", "x", "y", "dx", "dy", "minute"] ["table", "ball"] (defScope s_is_ball) := ⟨rfl, rfl, rfl, by decide +kernel, rfl, by decide +kernel, by decide +kernel⟩
theorem dir_in {d : Int} (h : Dir d) : inV (.int d) [.int (-1), .int 0, .int 1] = true := by
  rcases h with rfl | rfl | rfl <;> decide
theorem ok_is_ball {C fN fP : Addr} {fdN fdP : FuncData} (F : FnP K "is_ball" "is_ball" s_is_ball f fd) (T : Top K mg) (TC : TabC K C) (CN : Cal P w K mg base "is_name" ["text"] 1 spIsName fN fdN) (MP : CalM P w K mg base C "is_point" ["self", "point"] 1 (spIsPoint K C) fP fdP) :
    FnOk P w K mg base CX0 2 f fd ["table", "ball"] (spIsBall K C) := by
  refine okB F sc_is_ball (fun vs H Q E h => ?_) (fun cdv A outer s H vs Q E hr h => ?_)
  · obtain ⟨t, b, w', h', x, y, dx, dy, M, rfl, _⟩ := h; rfl
  · obtain ⟨t, b, w', h', x, y, dx, dy, M, rfl, ⟨⟨pk, dd, hT⟩, hB⟩, S, hQ⟩ := h
    have nd := sc_is_ball.nd
    obtain ⟨t1, g1⟩ := T.most
    refine ⟨_, pss_cons (ps_if (PW.pt (pw_or (pt_cmpR op_ne (pe_callB call_len_seq (by rfl) T.len hb_len (pa_cons (pv 1) pa_nil)) pe_int (nomark _)) (pw_or1 (pt_not (pt_val (pe_cal CN hr (pa_cons (pe_ix ix_tup (pv 1) pe_int (fun _ _ => rfl)) pa_nil))))))) (pss_one (ps_ret pe_bl)) pss_nil)
      (pss_cons (ps_asg (pv 1) (pg_tup (by rfl) (pgs_cons (pg_name (i := 2) nd rfl (Or.inl rfl)) (pgs_cons (pg_name (i := 3) nd rfl (Or.inl rfl)) (pgs_cons (pg_name (i := 4) nd rfl (Or.inl rfl)) (pgs_cons (pg_name (i := 5) nd rfl (Or.inl rfl)) (pgs_cons (pg_name (i := 6) nd rfl (Or.inl rfl)) (pgs_cons (pg_name (i := 7) nd rfl (Or.inl rfl)) pgs_nil))))))))
      (pss_cons (ps_if (PW.pt (pw_or (pt_not (pt_val (pe_meth (pv 0) TC.cl MP.me MP.ok hr MP.b .nil pass0 (pa_cons (pe_tup (pa_cons (pv 3) (pa_cons (pv 4) pa_nil))) pa_nil)))) (pw_or1 (pt_not (pt_chain op_le op_le pe_int (pv 7) (pe_glob (v := .int 1000000000000000000000000000000) rfl g1 ⟨_, rfl⟩)))))) (pss_one (ps_ret pe_bl)) pss_nil)
      (pss_one (ps_ret (pe_and (pe_cmpR op_in_seq (pv 5) (pe_tup (pa_cons (pe_un un_neg pe_int) (pa_cons pe_int (pa_cons pe_int pa_nil)))) (by rfl)) (pe_and (pe_cmpR op_in_seq (pv 6) (pe_tup (pa_cons (pe_un un_neg pe_int) (pa_cons pe_int (pa_cons pe_int pa_nil)))) (by rfl))
        (pe_one (pe_cmpR (op_neD (Nat.lt_of_succ_lt (hu65' hr))) (pe_tup (pa_cons (pv 5) (pa_cons (pv 6) pa_nil))) (pe_tup (pa_cons pe_int (pa_cons pe_int pa_nil))) (nomark _))))))))), ?_⟩
    refine ⟨_, rfl, b, _, rfl, .inr hB, rfl, _, rfl, ifF (neI_f rfl) ?_⟩
    refine ⟨_, rfl, b, _, _, _, rfl, rfl, hB, rfl, rfl, fun H1 s1 => ⟨_, rfl, iteF ?_⟩⟩
    have hB1 := same_tup s1 hB
    refine ⟨_, rfl, b, _, rfl, hB1, rfl, _, _, rfl, _, _, rfl, _, _, rfl, _, _, rfl, _, _, rfl, _, _, rfl, rfl, ?_⟩
    refine ⟨_, rfl, t, dd, _, rfl, s1 _ _ hT, tabF_no _ _ _ (by decide +kernel) (by decide +kernel) (by decide +kernel), _, rfl, _, rfl, (by show 2 ≤ sizeLine; decide), fun p hp => ?_⟩
    have s2 := same_add (o := .tup [.int x, .int y]) s1 hp
    refine ⟨t, .ref p, w', h', pk, (x, y), rfl, ⟨dd, s2 _ _ hT⟩, T2.new, ⟨S.x0, S.x1, S.y0, S.y1⟩, _, rfl, iteF ?_⟩
    refine ⟨_, rfl, _, _, rfl, rfl, _, rfl, ifT (decide_eq_true S.m0) ?_⟩
    refine ⟨_, _, rfl, rfl, _, rfl, ifF ?_ ?_⟩
    · show (!decide (M ≤ 1000000000000000000000000000000)) = false
      rw [decide_eq_true S.m1]; rfl
    refine ⟨_, rfl, _, rfl, (by show 3 ≤ sizeLine; decide), fun p1 hp1 => ?_⟩
    have s3 := same_add (o := .tup [.int (-1), .int 0, .int 1]) s2 hp1
    refine ⟨p1, _, rfl, .inr (.of upd_same), rfl, rfl, _, rfl, ifT (dir_in S.ddx) ?_⟩
    refine ⟨_, rfl, _, rfl, (by show 3 ≤ sizeLine; decide), fun p2 hp2 => ?_⟩
    have s4 := same_add (o := .tup [.int (-1), .int 0, .int 1]) s3 hp2
    refine ⟨p2, _, rfl, .inr (.of upd_same), rfl, rfl, _, rfl, ifT (dir_in S.ddy) ?_⟩
    refine ⟨_, rfl, _, rfl, (by show 2 ≤ sizeLine; decide), fun p3 hp3 => ?_⟩
    have s5 := same_add (o := .tup [.int dx, .int dy]) s4 hp3
    refine ⟨(by show 2 ≤ sizeLine; decide), fun p4 hp4 => ?_⟩
    refine ⟨pD (dx, dy), pD (0, 0), (T2.mono (Tps.new hp4) (T2.new (i := dx) (j := dy))).dp, (T2.new (i := 0) (j := 0)).dp, pD_shaped _, pD_shaped _, ?_⟩
    refine qB (Q := Q) ?_ (hQ _ (same_add s5 hp4))
    rw [pD_eqv, decide_eq_false (fun q => S.ne ⟨congrArg Prod.fst q, congrArg Prod.snd q⟩)]
    rfl
theorem sc_check_ball : FnScope ["table", "ball"] ["table", "ball"] (defScope s_check_ball) := ⟨rfl, rfl, rfl, by decide +kernel, rfl, by decide +kernel, by decide +kernel⟩
theorem ok_check_ball {C fB : Addr} {fdB : FuncData} (F : FnP K "check_ball" "check_ball" s_check_ball f fd) (CB : Cal P w K mg base "is_ball" ["table", "ball"] 2 (spIsBall K C) fB fdB) : FnOk P w K mg base CX0 3 f fd ["table", "ball"] (spCheckBall K C) := by
  refine okB F sc_check_ball (fun vs H Q E h => ?_) (fun cdv A outer s H vs Q E hr h => ?_)
  · obtain ⟨t, b, w', h', x, y, dx, dy, M, rfl, _⟩ := h; rfl
  · obtain ⟨t, b, w', h', x, y, dx, dy, M, rfl, hO, S, hQ⟩ := h
    refine ⟨_, pss_one (ps_if (pt_not (pt_val (pe_cal CB hr (pa_cons (pv 0) (pa_cons (pv 1) pa_nil))))) (pss_one ps_never) pss_nil), ?_⟩
    exact ⟨_, rfl, _, rfl, t, b, w', h', x, y, dx, dy, M, rfl, hO, S, fun H1 s1 => ⟨_, rfl, iteF (hQ H1 s1)⟩⟩
end
end K34
end
section
set_option Elab.async false
set_option linter.all false
set_option maxRecDepth 100000
set_option maxHeartbeats 5000000
namespace K34
open PySem PySem.Spec PyProof.Rows L2
theorem same_made {H H' : Hp} {x dx C : Addr} (hx : H x = none) (hd : H dx = none) (s : SameX x (upd (upd H dx (.own x)) x (.ins C dx [])) H') : Same H H' := fun b o e => by
  have n1 : b ≠ x := ne_of_none e hx
  refine s b o n1 ?_
  rw [upd_ne n1, upd_ne (ne_of_none e hd)]
  exact e
theorem All2.take {α β : Type} {R : α → β → Prop} {as : List α} {bs : List β} (h : All2 R as bs) : ∀ n : Nat, All2 R (as.take n) (bs.take n) := by
  induction h with
  | nil => intro n; simp; exact .nil
  | cons r _ ih =>
    intro n
    cases n with
    | zero => exact .nil
    | succ n => exact .cons r (ih n)
theorem take_not {α : Type} {l : List α} {i : Nat} {c : α} (hn : l.Nodup) (hc : l[i]? = some c) (hm : c ∈ l.take i) : False := by
  obtain ⟨j, hj, e⟩ := List.mem_iff_getElem.mp hm
  rw [List.length_take] at hj
  rw [List.getElem_take] at e
  obtain ⟨hi, e2⟩ := List.getElem?_eq_some_iff.mp hc
  have := (List.getElem_inj hn).mp (e.trans e2.symm)
  omega
def spTableInit (K : PySem.W.Frag) (C : Addr) : Sp := fun vs H Q _ => ∃ x dx w h pk us ps, vs = [.ref x, .int w, .int h, .ref pk] ∧ H x = some (.ins C dx []) ∧ SqT K H pk us ∧ Cs K H us ps ∧
  (0 < w ∧ w ≤ 1000000000000000000000000000000 ∧ 0 < h ∧ h ≤ 1000000000000000000000000000000 ∧ ps.length ≤ 3 ∧ ps.Nodup ∧ ∀ p ∈ ps, 0 ≤ p.1 ∧ p.1 ≤ w ∧ 0 ≤ p.2 ∧ p.2 ≤ h) ∧
  ∀ H' pk', SameX x H H' → H' x = some (.ins C dx (tabF w h pk')) → SqT K H' pk' us → Q .non H'
section
variable {P : Program} {w : World} {K : PySem.W.Frag} {mg : Str → Option Value} {base : Heap} {f : Addr} {fd : FuncData}
theorem sc_tabinit : FnScope ["self", "width", "height", "pockets", "point", "number"] ["self", "width", "height", "pockets"] (defScope s_Table_init) := ⟨rfl, rfl, rfl, by decide +kernel, rfl, by decide +kernel, by decide +kernel⟩
theorem ok_tabinit {C fR fP : Addr} {fdR fdP : FuncData} {dvs : List V} (F : FunD K "__init__" "Table.__init__" (defArgs s_Table_init) (defBody s_Table_init) (defScope s_Table_init) dvs [] f fd) (T : Top K mg) (TC : TabC K C)
    (CR : Cal P w K mg base "require" ["holds"] 1 spRequire fR fdR) (MP : CalM P w K mg base C "is_point" ["self", "point"] 1 (spIsPoint K C) fP fdP) :
    FnOk P w K mg base CX0 2 f fd ["self", "width", "height", "pockets"] (spTableInit K C) := by
  refine okB F sc_tabinit (fun vs H Q E h => ?_) (fun cdv A outer s H vs Q E hr h => ?_)
  · obtain ⟨x, dx, w', h', pk, us, ps, rfl, _⟩ := h; rfl
  · obtain ⟨x, dx, w', h', pk, us, ps, rfl, hx, hS, hC, ⟨w0, w1, h0, h1, hl, hn, hin⟩, hQ⟩ := h
    have nd := sc_tabinit.nd
    obtain ⟨t1, g1⟩ := T.most
    obtain ⟨t2, g2⟩ := T.mpk
    refine ⟨_, pss_cons (ps_expr (pe_cal CR hr (pa_cons (pe_and (pe_chain op_le op_le pe_int (pv 1) (pe_glob (v := .int 1000000000000000000000000000000) rfl g1 ⟨_, rfl⟩)) (pe_one (pe_chain op_le op_le pe_int (pv 2) (pe_glob (v := .int 1000000000000000000000000000000) rfl g1 ⟨_, rfl⟩)))) pa_nil)))
      (pss_cons (ps_fld (pv 0) (pv 1) rfl) (pss_cons (ps_fld (pv 0) (pv 2) rfl)
      (pss_cons (ps_expr (pe_cal CR hr (pa_cons (pe_and (pe_cmpR op_le (pe_callB call_len_seq (by rfl) T.len hb_len (pa_cons (pv 3) pa_nil)) (pe_glob (v := .int 12) rfl g2 ⟨_, rfl⟩) (nomark _))
        (pe_one (pe_callB (cr_all rfl) (by rfl) T.all hb_all (pa_cons (pe_lc (own := [("point", 4)]) (g := gName 4) (tt := tYes)
          (te := tOp rEq (tCB (fun xs H Q => ∃ p ys, xs = [.ref p] ∧ (SqL K H p ys ∨ SqT K H p ys) ∧ Q (.int ys.length) H) (tCons (tVar 4) tNil)) (tC (.int 2))) rfl nd (pi_tup (pv 3))
          (blkOk_by (N := ["self", "width", "height", "pockets", "point", "number"]) (sc := defScope s_Table_init) (by decide +kernel)) (fun _ _ _ _ _ => pg_name (i := 4) nd rfl (Or.inl rfl)) (fun _ _ _ _ _ => pts_nil)
          (fun _ _ _ _ _ => pe_cmpR op_eq (pe_callB call_len_seq (by rfl) T.len hb_len (pa_cons (pv 4) pa_nil)) pe_int (nomark _))) pa_nil)))) pa_nil)))
      (pss_cons (ps_fld (pv 0) (pe_callTy call_tuple_of (by rfl) T.tuple hb_tuple (pa_cons (pe_lc (own := [("point", 4)]) (g := gName 4) (tt := tYes)
          (te := tCB (fun xs H Q => ∃ a ys, xs = [.ref a] ∧ SqT K H a ys ∧ Q (.ref a) H) (tCons (tVar 4) tNil)) rfl nd (pi_tup (pv 3))
          (blkOk_by (N := ["self", "width", "height", "pockets", "point", "number"]) (sc := defScope s_Table_init) (by decide +kernel)) (fun _ _ _ _ _ => pg_name (i := 4) nd rfl (Or.inl rfl)) (fun _ _ _ _ _ => pts_nil)
          (fun _ _ _ _ _ => pe_callTy call_tupleT (by rfl) T.tuple hb_tuple (pa_cons (pv 4) pa_nil))) pa_nil)) rfl)
      (pss_one (ps_for PassesOwn.never rfl (pi_enumT (by rfl) T.enumerate (pa_cons (pe_fld (pv 0) rfl) pa_nil)) (pg_tup (by rfl) (pgs_cons (pg_name (i := 5) nd rfl (Or.inl rfl)) (pgs_cons (pg_name (i := 4) nd rfl (Or.inl rfl)) pgs_nil)))
        (pss_one (ps_expr (pe_cal CR hr (pa_cons (pe_and (pe_meth (pv 0) TC.cl MP.me MP.ok hr MP.b .nil pass0 (pa_cons (pv 4) pa_nil)) (pe_one (pe_cmpR (op_notInT (hu65' hr)) (pv 4) (pe_slice sl_tup (pe_fld (pv 0) rfl) po_none (po_some (pv 5))) (by rfl)))) pa_nil)))))))))), ?_⟩
    have l1 := hC.length
    refine ⟨_, rfl, _, _, rfl, rfl, _, rfl, ifT (decide_eq_true (by omega)) ?_⟩
    refine ⟨_, _, rfl, rfl, ?_⟩
    refine ⟨true, congrArg V.bl (decide_eq_true w1), ?_⟩
    refine iteT ?_
    refine ⟨_, rfl, _, _, rfl, rfl, _, rfl, ifT (decide_eq_true (by omega)) ?_⟩
    refine ⟨_, _, rfl, rfl, ?_⟩
    refine ⟨congrArg (fun b => [V.bl b]) (decide_eq_true h1), ?_⟩
    refine ⟨_, rfl, _, rfl, x, C, dx, _, rfl, hx, TC.cl, TC.nw, (by show 0 < 1000; decide), ?_⟩
    refine ⟨_, rfl, _, rfl, x, C, dx, _, rfl, upd_same, TC.cl, TC.nh, (by show 1 < 1000; decide), ?_⟩
    rw [upd_upd]
    generalize hH2 : upd H x (.ins C dx (putF "height" (.int h') (putF "width" (.int w') []))) = H2
    have hx2 : H2 x = some (.ins C dx (putF "height" (.int h') (putF "width" (.int w') []))) := by rw [← hH2]; exact upd_same
    have tp2 : Tps H H2 := by rw [← hH2]; exact Tps.seti hx
    have sx2 : SameX x H H2 := by rw [← hH2]; exact SameX.setx
    have hS2 := tp2.tup hS
    refine ⟨_, rfl, pk, _, rfl, .inr hS2, _, _, rfl, rfl, ?_⟩
    refine ⟨true, congrArg V.bl (decide_eq_true (by omega)), ?_⟩
    refine iteT ?_
    refine ⟨_, rfl, pk, rfl, ⟨_, hS2⟩, fun D hD => lc_tup (K := K) (a := pk) (xs := us) (fun i H' => Same H2 H' ∧ H' D = some (.lst (List.replicate i (.bl true)))) ⟨same_new hD, upd_same⟩ (fun i H' _ ⟨s, _⟩ => same_tup s hS2) ?_ ?_⟩
    · rintro i v H3 hi ⟨s3, hd3⟩
      obtain ⟨c, hc, p, rfl, hp⟩ := hC.get hi
      have hi' := (List.getElem?_eq_some_iff.mp hi).1
      refine ⟨rfl, _, rfl, p, _, rfl, .inr ((tp2.trans (Tps.same s3)).tup hp), rfl, ?_⟩
      refine ⟨_, hd3, ?_, same_set s3 hD, ?_⟩
      · rw [List.length_replicate]; exact small1000 (by omega)
      · rw [upd_same, List.replicate_succ']
        rfl
    · rintro H3 ⟨s3, hd3⟩
      refine ⟨D, List.replicate us.length true, rfl, .of (by rw [List.map_replicate]; exact hd3), ?_⟩
      refine ⟨congrArg (fun b => [V.bl b]) (show (List.replicate us.length true).all id = true by simp), ?_⟩
      have tp3 := tp2.trans (Tps.same s3)
      have hS3 := tp3.tup hS
      have sx3 : SameX x H H3 := sx2.trans (.of s3)
      have hx3 := s3 _ _ hx2
      refine ⟨_, rfl, pk, rfl, ⟨_, hS3⟩, fun D2 hD2 => lc_tup (K := K) (a := pk) (xs := us) (fun i H' => Same H3 H' ∧ H' D2 = some (.lst (us.take i))) ⟨same_new hD2, upd_same⟩ (fun i H' _ ⟨s, _⟩ => same_tup s hS3) ?_ ?_⟩
      · rintro i v H4 hi ⟨s4, hd4⟩
        obtain ⟨c, hc, p, rfl, hp⟩ := hC.get hi
        refine ⟨rfl, _, rfl, p, _, rfl, (tp3.trans (Tps.same s4)).tup hp, ?_⟩
        refine ⟨_, hd4, ?_, same_set s4 hD2, ?_⟩
        · rw [List.length_take]; exact small1000 (by omega)
        · rw [upd_same, List.take_add_one, hi]
          rfl
      · rintro H4 ⟨s4, hd4⟩
        rw [List.take_length] at hd4
        refine ⟨D2, us, rfl, .inl ⟨.of hd4, fun pk' hpk' => ?_⟩⟩
        have tp4 := (tp3.trans (Tps.same s4)).trans (Tps.new (o := .tup us) hpk')
        have sx4 : SameX x H (upd H4 pk' (.tup us)) := (sx3.trans (.of s4)).add hpk'
        have hx4 : upd H4 pk' (.tup us) x = some (.ins C dx (putF "height" (.int h') (putF "width" (.int w') []))) := (upd_ne (ne_of_none (s4 _ _ hx3) hpk')).trans (s4 _ _ hx3)
        have hk4 : upd H4 pk' (.tup us) pk' = some (.tup us) := upd_same
        generalize upd H4 pk' (.tup us) = H5 at tp4 sx4 hx4 hk4
        refine ⟨_, rfl, x, C, dx, _, rfl, hx4, TC.cl, TC.np, (by show 2 < 1000; decide), ?_⟩
        generalize hH6 : upd H5 x (.ins C dx (putF "pockets" (.ref pk') (putF "height" (.int h') (putF "width" (.int w') [])))) = H6
        have hx6 : H6 x = some (.ins C dx (tabF w' h' pk')) := by rw [← hH6]; exact upd_same
        have tp6 : Tps H H6 := by rw [← hH6]; exact tp4.trans (Tps.seti hx4)
        have sx6 : SameX x H H6 := by rw [← hH6]; exact sx4.trans SameX.setx
        have hk6 : H6 pk' = some (.tup us) := by
          rw [← hH6]
          exact (upd_ne (ne_of hk4 hx4 (fun q => nomatch q))).trans hk4
        have hC6 := hC.mono tp6
        refine ⟨_, rfl, x, C, dx, _, _, rfl, hx6, TC.cl, TC.np, tabF_p _ _ _, pk', _, rfl, .of hk6, for_it walk_enumT (fun i σ H' => ∃ (o1 o2 : Option V), σ = [some (.ref x), some (.int w'), some (.int h'), some (.ref pk), o1, o2] ∧ Same H6 H')
          ⟨none, none, rfl, Same.refl _⟩ (fun i σ H' _ ⟨_, _, _, s⟩ => .of (s _ _ hk6)) ?_ ?_⟩
        · rintro i y σ H7 H8 hi ⟨o1, o2, rfl, s7⟩ ⟨t, u, z, rfl, ht, rfl, eu, ez⟩
          cases eu
          have s8 : Same H6 (upd H7 t (.tup [.int (i : Nat), z])) := same_add s7 ht
          obtain ⟨c, hc, tc⟩ := hC6.get ez
          have tc8 := tc.mono (Tps.same s8)
          have mc := hin c (List.mem_of_getElem? hc)
          refine ⟨t, _, rfl, .of upd_same, rfl, _, _, rfl, _, _, rfl, rfl, ?_⟩
          refine ⟨_, rfl, x, dx, _, rfl, s8 _ _ hx6, tabF_no _ _ _ (by decide +kernel) (by decide +kernel) (by decide +kernel), _, rfl, x, z, w', h', pk', c, rfl, ⟨dx, s8 _ _ hx6⟩, tc8, mc, ?_⟩
          refine ⟨true, rfl, iteT ?_⟩
          refine ⟨_, rfl, _, rfl, x, C, dx, _, _, rfl, s8 _ _ hx6, TC.cl, TC.np, tabF_p _ _ _, _, rfl, _, rfl, pk', us, rfl, .of (s8 _ _ hk6), ?_, fun p hp => ?_⟩
          · rintro ⟨_, q⟩
            rw [HT.sIx_nat] at q
            have : i < us.length := hi
            omega
          · have ep : cutV us none (some (i : Int)) = us.take i := cut_to us i
            have s9 := same_add (o := .tup (cutV us none (some (i : Int)))) s8 hp
            have hp9 : upd (upd H7 t (.tup [.int (i : Nat), z])) p (.tup (cutV us none (some (i : Int)))) p = some (.tup (us.take i)) := by rw [upd_same, ep]
            have hcs : Cs K (upd (upd H7 t (.tup [.int (i : Nat), z])) p (.tup (cutV us none (some (i : Int))))) (us.take i) (ps.take i) := All2.take (hC6.mono (Tps.same s9)) i
            refine ⟨pD c, (ps.take i).map pD, (tc.mono (Tps.same s9)).dp, .tup (.of hp9) hcs.dp, pD_shaped _, pDt_shaped _, ?_⟩
            rw [pD_any, decide_eq_false (fun q => take_not hn hc q)]
            exact ⟨rfl, _, _, rfl, s9⟩
        · rintro σ H7 ⟨o1, o2, rfl, s7⟩
          exact hQ H7 pk' (sx6.trans (.of s7)) (s7 _ _ hx6) (.of (s7 _ _ hk6))
end
end K34
end
section
set_option Elab.async false
set_option linter.all false
set_option maxRecDepth 100000
set_option maxHeartbeats 5000000
namespace K34
open PySem PySem.Spec PyProof.Rows L2
/-- the ball is at the point t minutes behind its own -/
def AtP (w h x y dx dy : Int) (p : Int × Int) (t : Int) : Prop := At w x dx p.1 t ∧ At h y dy p.2 t
def In (w h : Int) (p : Int × Int) : Prop := 0 ≤ p.1 ∧ p.1 ≤ w ∧ 0 ≤ p.2 ∧ p.2 ≤ h
def spAtPoint (K : PySem.W.Frag) (C D : Addr) : Sp := fun vs H Q _ => ∃ t b v w h x y dx dy M p, vs = [.ref t, .ref b, v] ∧ On K C H t b w h x y dx dy M ∧ Sane w h x y dx dy M ∧ T2 K H v p ∧ In w h p ∧
  ∀ H' r l cs m, Same H H' → Tim H' D r M l → LC K H' (.ref l) cs → (OkC cs m ∧ cs.length ≤ 4 ∧ ∀ T, MemC cs T ↔ AtP w h x y dx dy p (T - M)) → Q (.ref r) H'
/-- a row of classes of one part, in a list that is not l -/
def RowOk (K : PySem.W.Frag) (H : Hp) (l : Addr) (v : V) (q : Int × Int × Int × Int) : Prop := ∃ A vs zs, v = .ref A ∧ A ≠ l ∧ H A = some (.lst vs) ∧ Cs K H vs zs ∧ Uni (solvedL q.2.2.1 (q.2.2.2 - q.2.1) (2 * q.1)) (solvedL q.2.2.1 (-q.2.2.2 - q.2.1) (2 * q.1)) zs
theorem SameX.tps {l : Addr} {H H' : Hp} {xs : List V} (s : SameX l H H') (h : H l = some (.lst xs)) : Tps H H' := fun b =>
  ⟨fun ys e => s b _ (ne_of e h (fun q => nomatch q)) e, fun o u e => s b _ (ne_of e h (fun q => nomatch q)) e⟩
theorem RowOk.mono {K : PySem.W.Frag} {H H' : Hp} {l : Addr} {v : V} {q : Int × Int × Int × Int} {xs : List V} (s : SameX l H H') (h : H l = some (.lst xs)) (r : RowOk K H l v q) : RowOk K H' l v q := by
  obtain ⟨A, vs, zs, e, n, hA, hc, hu⟩ := r
  exact ⟨A, vs, zs, e, n, s A _ n hA, hc.mono (s.tps h), hu⟩
theorem RowOk.lc {K : PySem.W.Frag} {H : Hp} {l : Addr} {v : V} {q : Int × Int × Int × Int} (r : RowOk K H l v q) : ∃ zs, LC K H v zs ∧ Uni (solvedL q.2.2.1 (q.2.2.2 - q.2.1) (2 * q.1)) (solvedL q.2.2.1 (-q.2.2.2 - q.2.1) (2 * q.1)) zs :=
  let ⟨A, vs, zs, e, _, hA, hc, hu⟩ := r; ⟨zs, ⟨A, vs, e, hA, hc⟩, hu⟩
section
variable {P : Program} {w : World} {K : PySem.W.Frag} {mg : Str → Option Value} {base : Heap} {f : Addr} {fd : FuncData}
theorem sc_at_point : FnScope ["table", "ball", "point", "rows", "place", "size", "first"] ["table", "ball", "point"] (defScope s_at_point) := ⟨rfl, rfl, rfl, by decide +kernel, rfl, by decide +kernel, by decide +kernel⟩
theorem ok_at_point {C D fB fP fL fX fT : Addr} {fdB fdP fdL fdX fdT : FuncData} (F : FnP K "at_point" "at_point" s_at_point f fd) (T : Top K mg) (TC : TabC K C) (CB : Cal P w K mg base "check_ball" ["table", "ball"] 3 (spCheckBall K C) fB fdB)
    (MP : CalM P w K mg base C "check_point" ["self", "point"] 2 (spCheckPoint K C) fP fdP) (CL : Cal P w K mg base "point_classes" ["size", "at", "step", "goal"] 2 (spPointClasses K) fL fdL)
    (CX : Cal P w K mg base "crossed" ["one", "other"] 3 (spCrossed K) fX fdX) (gT : mg "Times" = some (.ref D)) (MK : Mk K D fT) (bT : Binds K fdT ["self", "start", "end", "classes"] []) (GT : FnOk P w K mg base CX0 2 fT fdT ["self", "start", "end", "classes"] (spTimesInit K D)) :
    FnOk P w K mg base CX0 4 f fd ["table", "ball", "point"] (spAtPoint K C D) := by
  refine okB F sc_at_point (fun vs H Q E h => ?_) (fun cdv A outer s H vs Q E hr h => ?_)
  · obtain ⟨t, b, v, w', h', x, y, dx, dy, M, p, rfl, _⟩ := h; rfl
  · obtain ⟨t, b, v, w', h', x, y, dx, dy, M, p, rfl, hO, S, hV, hI, hQ⟩ := h
    have nd := sc_at_point.nd
    have hr2 : Room 2 _ := hr.mono (by decide)
    refine ⟨_, pss_cons (ps_expr (pe_cal CB hr (pa_cons (pv 0) (pa_cons (pv 1) pa_nil))))
      (pss_cons (ps_expr (pe_meth (pv 0) TC.cl MP.me MP.ok hr2 MP.b .nil pass0 (pa_cons (pv 2) pa_nil)))
      (pss_cons (ps_set (i := 3) nd rfl (Or.inl rfl) (pe_lst pa_nil))
      (pss_cons (ps_for PassesOwn.never rfl (pi_tup (pe_tup (pa_cons (pe_tup (pa_cons pe_int (pa_cons (pe_fld (pv 0) rfl) pa_nil))) (pa_cons (pe_tup (pa_cons pe_int (pa_cons (pe_fld (pv 0) rfl) pa_nil))) pa_nil))))
          (pg_tup (by rfl) (pgs_cons (pg_name (i := 4) nd rfl (Or.inl rfl)) (pgs_cons (pg_name (i := 5) nd rfl (Or.inl rfl)) pgs_nil)))
        (pss_cons (ps_set (i := 6) nd rfl (Or.inl rfl) (pe_op op_sub (pe_ix ix_tup (pv 1) (pv 4) (fun _ _ => rfl)) (pe_op op_mul (pe_ix ix_tup (pv 1) (pe_op op_add (pv 4) pe_int) (fun _ _ => rfl)) (pe_ix ix_tup (pv 1) pe_int (fun _ _ => rfl)))))
        (pss_one (ps_expr (pe_bm PySem.F.plainAttrs_list PySem.F.slot_list_append PySem.F.type_list_append mt_append (pv 3) (pa_cons (pe_cal CL hr2 (pa_cons (pv 5) (pa_cons (pv 6) (pa_cons (pe_ix ix_tup (pv 1) (pe_op op_add (pv 4) pe_int) (fun _ _ => rfl)) (pa_cons (pe_ix ix_tup (pv 2) (pe_op op_sub (pv 4) pe_int) (fun _ _ => rfl)) pa_nil))))) pa_nil))))))
      (pss_one (ps_ret (pe_make MK GT hr (by rfl) gT bT .nil pass0 (pa_cons (pe_ix ix_tup (pv 1) pe_int (fun _ _ => rfl)) (pa_cons pe_non (pa_cons (pe_cal CX hr (pa_cons (pe_ix ix_list (pv 3) pe_int (fun _ _ => rfl)) (pa_cons (pe_ix ix_list (pv 3) pe_int (fun _ _ => rfl)) pa_nil))) pa_nil))))))))), ?_⟩
    refine ⟨_, rfl, _, rfl, t, b, w', h', x, y, dx, dy, M, rfl, hO, S, fun H1 s1 => ?_⟩
    obtain ⟨⟨pk, dd, hT1⟩, hB1⟩ := hO.same s1
    have hV1 := hV.mono (Tps.same s1)
    refine ⟨_, rfl, t, dd, _, rfl, hT1, tabF_no _ _ _ (by decide +kernel) (by decide +kernel) (by decide +kernel), _, rfl, t, v, w', h', pk, p, rfl, ⟨dd, hT1⟩, hV1, hI, ?_⟩
    refine ⟨(by show 0 ≤ sizeLine; decide), fun l hl => ?_⟩
    have s2 := same_add (o := .lst []) s1 hl
    have s12 : Same H1 (upd H1 l (.lst [])) := same_new hl
    refine ⟨_, rfl, t, C, dd, _, _, rfl, s12 _ _ hT1, TC.cl, TC.nw, tabF_w _ _ _, (by show 2 ≤ sizeLine; decide), fun q1 hq1 => ?_⟩
    have s13 := same_add (o := .tup [.int 1, .int w']) s12 hq1
    refine ⟨_, rfl, t, C, dd, _, _, rfl, s13 _ _ hT1, TC.cl, TC.nh, tabF_h _ _ _, (by show 2 ≤ sizeLine; decide), fun q2 hq2 => ⟨(by show 2 ≤ sizeLine; decide), fun q hq => ?_⟩⟩
    have s14 := same_add (o := .tup [.int 2, .int h']) s13 hq2
    have s15 := same_add (o := .tup [.ref q1, .ref q2]) s14 hq
    have k1 : upd (upd (upd (upd H1 l (.lst [])) q1 (.tup [.int 1, .int w'])) q2 (.tup [.int 2, .int h'])) q (.tup [.ref q1, .ref q2]) q1 = some (.tup [.int 1, .int w']) := same_new hq _ _ (same_new hq2 _ _ upd_same)
    have k2 : upd (upd (upd (upd H1 l (.lst [])) q1 (.tup [.int 1, .int w'])) q2 (.tup [.int 2, .int h'])) q (.tup [.ref q1, .ref q2]) q2 = some (.tup [.int 2, .int h']) := same_new hq _ _ upd_same
    have k3 : upd (upd (upd (upd H1 l (.lst [])) q1 (.tup [.int 1, .int w'])) q2 (.tup [.int 2, .int h'])) q (.tup [.ref q1, .ref q2]) q = some (.tup [.ref q1, .ref q2]) := upd_same
    have k4 : upd (upd (upd (upd H1 l (.lst [])) q1 (.tup [.int 1, .int w'])) q2 (.tup [.int 2, .int h'])) q (.tup [.ref q1, .ref q2]) l = some (.lst []) := same_new hq _ _ (same_new hq2 _ _ (same_new hq1 _ _ upd_same))
    have n1 : q1 ≠ l := ne_of k1 k4 (fun z => nomatch z)
    have n2 : q2 ≠ l := ne_of k2 k4 (fun z => nomatch z)
    have n3 : q ≠ l := ne_of k3 k4 (fun z => nomatch z)
    generalize upd (upd (upd (upd H1 l (.lst [])) q1 (.tup [.int 1, .int w'])) q2 (.tup [.int 2, .int h'])) q (.tup [.ref q1, .ref q2]) = H2 at s15 k1 k2 k3 k4
    have hB2 := same_tup s15 hB1
    have hV2 := hV1.mono (Tps.same s15)
    obtain ⟨pv', rfl, hP2⟩ := hV2
    refine ⟨q, rfl, ⟨_, .of k3⟩, for_tup (K := K) (a := q) (xs := [.ref q1, .ref q2]) (fun i σ H' => ∃ (rs : List V) (o1 o2 o3 : Option V), σ = [some (.ref t), some (.ref b), some (.ref pv'), some (.ref l), o1, o2, o3] ∧ SameX l H2 H' ∧ H' l = some (.lst rs) ∧
        All2 (RowOk K H' l) rs ([(w', x - dx * M, dx, p.1), (h', y - dy * M, dy, p.2)].take i))
      ⟨[], none, none, none, rfl, .of (Same.refl _), k4, .nil⟩ (fun i σ H' _ ⟨_, _, _, _, _, sx, _⟩ => .of (sx _ _ n3 k3)) ?_ ?_⟩
    · rintro i u σ H3 hi ⟨rs, o1, o2, o3, rfl, sx, hrs, hal⟩
      have tp3 := sx.tps k4
      have hB3 := tp3.tup hB2
      have hP3 := tp3.tup hP2
      have fin : ∀ (sz a d g : Int) (H4 : Hp) (r : V) (zs : List (Int × Int)) (z1 z2 z3 : Option V) (j : Nat), j = i + 1 → ([(w', x - dx * M, dx, p.1), (h', y - dy * M, dy, p.2)] : List (Int × Int × Int × Int))[i]? = some (sz, a, d, g) → Same H3 H4 → Uni (solvedL d (g - a) (2 * sz)) (solvedL d (-g - a) (2 * sz)) zs → LCn K H3 H4 r zs →
          ∃ (rs' : List V) (o1 o2 o3 : Option V), [some (.ref t), some (.ref b), some (.ref pv'), some (.ref l), z1, z2, z3] = [some (.ref t), some (.ref b), some (.ref pv'), some (.ref l), o1, o2, o3] ∧ SameX l H2 (upd H4 l (.lst (rs ++ [r]))) ∧ (upd H4 l (.lst (rs ++ [r]))) l = some (.lst rs') ∧
            All2 (RowOk K (upd H4 l (.lst (rs ++ [r]))) l) rs' ([(w', x - dx * M, dx, p.1), (h', y - dy * M, dy, p.2)].take j) := fun sz a d g H4 r zs z1 z2 z3 j hj hq s4 hu hn => by
        obtain ⟨A', vs', e1, e2, e3, e4⟩ := hn
        have nA : A' ≠ l := fun z => by rw [z, hrs] at e2; cases e2
        have hl4 := s4 _ _ hrs
        have sx4 : SameX l H3 (upd H4 l (.lst (rs ++ [r]))) := (SameX.of s4).trans SameX.setx
        refine ⟨_, _, _, _, rfl, sx.trans sx4, upd_same, ?_⟩
        subst hj
        rw [List.take_add_one, hq]
        refine All2.snoc (All2.imp hal fun _ _ z => z.mono sx4 hrs) ?_
        exact ⟨A', vs', zs, e1, nA, (upd_ne nA).trans e3, e4.mono (Tps.setl hl4), hu⟩
      match i, hi with
      | 0, hi =>
        cases hi
        have ers : rs = [] := by cases hal; rfl
        refine ⟨q1, _, rfl, .of (sx _ _ n1 k1), rfl, _, _, rfl, _, _, rfl, rfl, ?_⟩
        refine ⟨_, rfl, _, rfl, b, _, _, _, rfl, rfl, hB3, rfl, _, rfl, _, rfl, _, _, rfl, rfl, b, _, _, _, rfl, rfl, hB3, rfl, _, rfl, b, _, _, _, rfl, rfl, hB3, rfl, _, _, rfl, rfl, ?_, _, _, rfl, rfl, ?_⟩
        · have := S.ddx
          unfold Dir at this
          exact .inl ⟨by omega, by omega⟩
        refine ⟨_, rfl, .inl ⟨rfl, _, .of hrs⟩, ?_⟩
        refine ⟨_, rfl, _, rfl, _, rfl, _, rfl, _, _, rfl, rfl, b, _, _, _, rfl, rfl, hB3, rfl, _, rfl, _, rfl, _, _, rfl, rfl, pv', _, _, _, rfl, rfl, hP3, rfl, ?_⟩
        refine ⟨w', x - dx * M, dx, p.1, rfl, ⟨S.ddx, S.w0⟩, fun H4 r zs s4 hu hn => ?_⟩
        refine ⟨l, _, _, rfl, rfl, s4 _ _ hrs, by rw [ers]; decide, ?_⟩
        exact fin w' (x - dx * M) dx p.1 H4 r zs _ _ _ 1 rfl rfl s4 hu hn
      | 1, hi =>
        cases hi
        have lrs : rs.length = 1 := hal.length
        refine ⟨q2, _, rfl, .of (sx _ _ n2 k2), rfl, _, _, rfl, _, _, rfl, rfl, ?_⟩
        refine ⟨_, rfl, _, rfl, b, _, _, _, rfl, rfl, hB3, rfl, _, rfl, _, rfl, _, _, rfl, rfl, b, _, _, _, rfl, rfl, hB3, rfl, _, rfl, b, _, _, _, rfl, rfl, hB3, rfl, _, _, rfl, rfl, ?_, _, _, rfl, rfl, ?_⟩
        · have := S.ddy
          unfold Dir at this
          exact .inl ⟨by omega, by omega⟩
        refine ⟨_, rfl, .inl ⟨rfl, _, .of hrs⟩, ?_⟩
        refine ⟨_, rfl, _, rfl, _, rfl, _, rfl, _, _, rfl, rfl, b, _, _, _, rfl, rfl, hB3, rfl, _, rfl, _, rfl, _, _, rfl, rfl, pv', _, _, _, rfl, rfl, hP3, rfl, ?_⟩
        refine ⟨h', y - dy * M, dy, p.2, rfl, ⟨S.ddy, S.h0⟩, fun H4 r zs s4 hu hn => ?_⟩
        refine ⟨l, _, _, rfl, rfl, s4 _ _ hrs, by rw [lrs]; decide, ?_⟩
        exact fin h' (y - dy * M) dy p.2 H4 r zs _ _ _ 2 rfl rfl s4 hu hn
      | i + 2, hi => simp at hi
    · rintro σ H3 ⟨rs, o1, o2, o3, rfl, sx, hrs, hal⟩
      have tp3 := sx.tps k4
      have hB3 := tp3.tup hB2
      cases hal with
      | cons r0 hal =>
        cases hal with
        | cons r1 hal =>
          cases hal
          rename_i v0 v1
          obtain ⟨z0, l0, u0⟩ := r0.lc
          obtain ⟨z1, l1, u1⟩ := r1.lc
          obtain ⟨m0, b0, c0⟩ := prog_ok S.w0 S.x0 S.x1 hI.1 hI.2.1 S.ddx u0
          obtain ⟨m1, b1, c1⟩ := prog_ok S.h0 S.y0 S.y1 hI.2.2.1 hI.2.2.2 S.ddy u1
          have g0 : Big m0 := by
            have := c0.ok.pos; have := S.w1
            unfold Big; omega
          have g1 : Big m1 := by
            have := c1.ok.pos; have := S.h1
            unfold Big; omega
          refine ⟨_, rfl, b, _, _, _, rfl, rfl, hB3, rfl, ?_⟩
          refine ⟨_, rfl, l, _, _, _, rfl, rfl, .of hrs, rfl, _, rfl, l, _, _, _, rfl, rfl, .of hrs, rfl, ?_⟩
          refine ⟨v0, v1, z0, z1, m0, m1, rfl, l0, l1, ⟨c0.len, c1.len, c0.ok, c1.ok, g0, g1⟩, fun H4 r zs s4 hp hlc => ?_⟩
          intro xx dxx hxx hdx hne
          have hok : OkC zs (m0 * (m1 / (Int.gcd m0 m1 : Int))) := ⟨(crossL_ok c0.ok c1.ok).pos, fun c hc => (crossL_ok c0.ok c1.ok).all c (hp.mem_iff.mp hc)⟩
          have hlen : zs.length ≤ 4 := by
            have h1 := hp.length_eq
            have h2 := crossL_len z0 z1
            have h3 : z0.length * z1.length ≤ 2 * 2 := Nat.mul_le_mul c0.len c1.len
            omega
          have sm : Same H4 (upd (upd H4 dxx (.own xx)) xx (.ins D dxx [])) := fun b' o e => by
            rw [upd_ne (ne_of_none e hxx), upd_ne (ne_of_none e hdx)]; exact e
          refine ⟨xx, dxx, M, r, zs, _, rfl, upd_same, hlc.same sm, ⟨S.m0, by omega, hok, hp.nodup_iff.mpr (crossL_nodup c1.ok c1.nd c0.ok c0.nd)⟩, fun H5 l5 ys sx5 hx5 hl5 hp5 => ⟨rfl, ?_⟩⟩
          have sm5 : Same H4 H5 := same_made hxx hdx sx5
          have sall : Same H H5 := fun b' o e => by
            have e1 := s1 _ _ e
            have e2 := s15 _ _ e1
            have nb : b' ≠ l := fun z => by rw [z, hl] at e1; cases e1
            exact sm5 _ _ (s4 _ _ (sx _ _ nb e2))
          refine hQ H5 xx l5 ys _ sall ⟨dxx, hx5⟩ hl5 ⟨⟨hok.pos, fun c hc => hok.all c (hp5.mem_iff.mp hc)⟩, by rw [hp5.length_eq]; exact hlen, fun T => ?_⟩
          have e1 : MemC ys T ↔ MemC (crossL z0 z1) T := by
            unfold MemC
            constructor
            · rintro ⟨c, hc, e⟩; exact ⟨c, (hp5.trans hp).mem_iff.mp hc, e⟩
            · rintro ⟨c, hc, e⟩; exact ⟨c, (hp5.trans hp).mem_iff.mpr hc, e⟩
          rw [e1, crossL_mem c0.ok c1.ok, c0.mem, c1.mem]
          rfl
end
end K34
end
section
set_option Elab.async false
set_option linter.all false
set_option maxRecDepth 100000
set_option maxHeartbeats 5000000
namespace K34
open PySem PySem.Spec PyProof.Rows L2
/-! ### which pocket -/
noncomputable def firstT (w h x y dx dy : Int) (p : Int × Int) : Option Int := Classical.epsilon (Least (AtP w h x y dx dy p))
theorem firstT_eq {w h x y dx dy : Int} {p : Int × Int} {o : Option Int} (l : Least (AtP w h x y dx dy p) o) : firstT w h x y dx dy p = o := Least.uniq (Classical.epsilon_spec ⟨o, l⟩) l
theorem firstT_least {w h x y dx dy : Int} {p : Int × Int} {o : Option Int} (l : Least (AtP w h x y dx dy p) o) : Least (AtP w h x y dx dy p) (firstT w h x y dx dy p) := by rw [firstT_eq l]; exact l
def better (M : Int) (acc : Option (Int × Int × Int)) (p : Int × Int) : Option Int → Option (Int × Int × Int)
  | none => acc
  | some t => match acc with
    | none => some (M + t, p)
    | some z => if M + t < z.1 then some (M + t, p) else some z
def pick (F : Int × Int → Option Int) (M : Int) (ps : List (Int × Int)) : Option (Int × Int × Int) := ps.foldl (fun acc p => better M acc p (F p)) none
theorem pick_take {F : Int × Int → Option Int} {M : Int} {ps : List (Int × Int)} {i : Nat} {p : Int × Int} (h : ps[i]? = some p) : pick F M (ps.take (i + 1)) = better M (pick F M (ps.take i)) p (F p) := by
  unfold pick
  rw [List.take_add_one, h, List.foldl_append]
  rfl
/-- None, or a minute with a pocket -/
def OD (K : PySem.W.Frag) (H : Hp) (v : V) : Option (Int × Int × Int) → Prop
  | none => v = .non
  | some z => ∃ a u, v = .ref a ∧ SqT K H a [.int z.1, u] ∧ T2 K H u z.2
theorem OD.mono {K : PySem.W.Frag} {H H' : Hp} {v : V} {o : Option (Int × Int × Int)} (e : Tps H H') (h : OD K H v o) : OD K H' v o := by
  cases o with
  | none => exact h
  | some z =>
    obtain ⟨a, u, q, s, t⟩ := h
    exact ⟨a, u, q, e.tup s, t.mono e⟩
/-- the fall -/
noncomputable def fallOf (w h x y dx dy M : Int) (ps : List (Int × Int)) : Option (Int × Int × Int) := pick (firstT w h x y dx dy) M ps
def spFallOf (K : PySem.W.Frag) (C : Addr) : Sp := fun vs H Q _ => ∃ t b w h x y dx dy M pk us ps, vs = [.ref t, .ref b] ∧ Tab H C t w h pk ∧ SqT K H b (ballV x y dx dy M) ∧ Sane w h x y dx dy M ∧ SqT K H pk us ∧ Cs K H us ps ∧ (∀ p ∈ ps, In w h p) ∧
  ∀ H' r, Same H H' → OD K H' r (fallOf w h x y dx dy M ps) → Q r H'
section
variable {P : Program} {w : World} {K : PySem.W.Frag} {mg : Str → Option Value} {base : Heap} {f : Addr} {fd : FuncData}
theorem sc_fall : FnScope ["table", "ball", "found", "pocket", "minute"] ["table", "ball"] (defScope s_fall_of) := ⟨rfl, rfl, rfl, by decide +kernel, rfl, by decide +kernel, by decide +kernel⟩
theorem ok_fall {C D fB fA fN : Addr} {fdB fdA fdN : FuncData} (F : FnP K "fall_of" "fall_of" s_fall_of f fd) (TC : TabC K C) (CB : Cal P w K mg base "check_ball" ["table", "ball"] 3 (spCheckBall K C) fB fdB)
    (CA : Cal P w K mg base "at_point" ["table", "ball", "point"] 4 (spAtPoint K C D) fA fdA) (MN : CalM P w K mg base D "next_from" ["self", "minute"] 2 (spNext K D) fN fdN) :
    FnOk P w K mg base CX0 5 f fd ["table", "ball"] (spFallOf K C) := by
  refine okB F sc_fall (fun vs H Q E h => ?_) (fun cdv A outer s H vs Q E hr h => ?_)
  · obtain ⟨t, b, w', h', x, y, dx, dy, M, pk, us, ps, rfl, _⟩ := h; rfl
  · obtain ⟨t, b, w', h', x, y, dx, dy, M, pk, us, ps, rfl, ⟨dd, hT⟩, hB, S, hK, hC, hI, hQ⟩ := h
    have nd := sc_fall.nd
    have hr3 : Room 3 _ := hr.mono (by decide)
    have hr2 : Room 2 _ := hr.mono (by decide)
    refine ⟨_, pss_cons (ps_expr (pe_cal CB hr3 (pa_cons (pv 0) (pa_cons (pv 1) pa_nil))))
      (pss_cons (ps_set (i := 2) nd rfl (Or.inl rfl) pe_non)
      (pss_cons (ps_for PassesOwn.never rfl (pi_tup (pe_fld (pv 0) rfl)) (pg_name (i := 3) nd rfl (Or.inl rfl))
        (pss_cons (ps_set (i := 4) nd rfl (Or.inl rfl) (pe_meth (pe_cal CA hr (pa_cons (pv 0) (pa_cons (pv 1) (pa_cons (pv 3) pa_nil)))) MN.cl MN.me MN.ok hr2 MN.b .nil pass0 (pa_cons (pe_ix ix_tup (pv 1) pe_int (fun _ _ => rfl)) pa_nil)))
        (pss_one (ps_if (PW.pt (pw_and (pt_cmpR op_notN (pv 4) pe_non (nomark _)) (pw_and1 (PW.pt (pw_or (pt_cmpR op_isN (pv 2) pe_non (nomark _)) (pw_or1 (pt_cmpR op_lt (pv 4) (pe_ix ix_tup (pv 2) pe_int (fun _ _ => rfl)) (nomark _))))))))
          (pss_one (ps_set (i := 2) nd rfl (Or.inl rfl) (pe_tup (pa_cons (pv 4) (pa_cons (pv 3) pa_nil))))) pss_nil))))
      (pss_one (ps_ret (pv 2))))), ?_⟩
    refine ⟨_, rfl, _, rfl, t, b, w', h', x, y, dx, dy, M, rfl, ⟨⟨pk, dd, hT⟩, hB⟩, S, fun H1 s1 => ?_⟩
    refine ⟨_, rfl, t, C, dd, _, _, rfl, s1 _ _ hT, TC.cl, TC.np, tabF_p _ _ _, pk, rfl, ⟨_, same_tup s1 hK⟩, for_tup (K := K) (a := pk) (xs := us) (fun i σ H' => ∃ (r : V) (o1 o2 : Option V), σ = [some (.ref t), some (.ref b), some r, o1, o2] ∧ Same H H' ∧ OD K H' r (fallOf w' h' x y dx dy M (ps.take i)))
      ⟨.non, none, none, rfl, s1, rfl⟩ (fun i σ H' _ ⟨_, _, _, _, s, _⟩ => same_tup s hK) ?_ ?_⟩
    · rintro i u σ H2 hi ⟨r, o1, o2, rfl, s2, hod⟩
      obtain ⟨p, hp, tp⟩ := hC.get hi
      have tp2 := tp.mono (Tps.same s2)
      refine ⟨_, rfl, _, rfl, _, rfl, t, b, u, w', h', x, y, dx, dy, M, p, rfl, ⟨⟨pk, dd, s2 _ _ hT⟩, same_tup s2 hB⟩, S, tp2, hI p (List.mem_of_getElem? hp), fun H3 q l cs m s3 hTim hL ⟨hok, hlen, hmem⟩ => ?_⟩
      obtain ⟨dq, hTim'⟩ := hTim
      refine ⟨q, dq, _, rfl, hTim', timF_no _ _ (by decide +kernel) (by decide +kernel) (by decide +kernel), ?_⟩
      refine ⟨_, rfl, b, _, _, _, rfl, rfl, same_tup (s2.trans s3) hB, rfl, ?_⟩
      refine ⟨q, M, l, cs, rfl, ⟨dq, hTim'⟩, hL, ⟨by omega, fun c hc => hok.one hc⟩, fun H4 o s4 hle => ?_⟩
      have hle' : Least (AtP w' h' x y dx dy p) o := hle.congr fun t' _ => by
        rw [hmem, show M + t' - M = t' by omega]
      have ef := firstT_eq hle'
      have s24 := s3.trans s4
      have sall := s2.trans s24
      have hod4 := hod.mono (Tps.same s24)
      have tp4 := tp2.mono (Tps.same s24)
      have step : fallOf w' h' x y dx dy M (ps.take (i + 1)) = better M (fallOf w' h' x y dx dy M (ps.take i)) p o := by
        unfold fallOf
        rw [pick_take hp, ef]
      cases o with
      | none =>
        refine ⟨_, rfl, rfl, _, rfl, ifF (by simp [oV]) ?_⟩
        exact ⟨r, _, _, rfl, sall, by rw [step]; exact hod4⟩
      | some t' =>
        refine ⟨_, rfl, rfl, _, rfl, ifT (by simp [oV]) ?_⟩
        cases hf : fallOf w' h' x y dx dy M (ps.take i) with
        | none =>
          rw [hf] at hod4 step
          obtain rfl : r = .non := hod4
          refine ⟨_, rfl, rfl, _, rfl, ifT (by decide) ?_⟩
          refine ⟨_, rfl, _, rfl, (by show 2 ≤ sizeLine; decide), fun a ha => ?_⟩
          refine ⟨_, _, _, rfl, same_add sall ha, ?_⟩
          rw [step]
          exact ⟨a, u, rfl, .of upd_same, tp4.mono (Tps.new ha)⟩
        | some z =>
          rw [hf] at hod4 step
          obtain ⟨a, u', rfl, hz, tz⟩ := hod4
          refine ⟨_, rfl, rfl, _, rfl, ifF (by simp) ?_⟩
          refine ⟨_, rfl, _, rfl, a, _, _, _, rfl, rfl, hz, rfl, _, _, rfl, rfl, _, rfl, ?_⟩
          by_cases hlt : M + t' < z.1
          · refine ifT (decide_eq_true hlt) ?_
            refine ⟨_, rfl, _, rfl, (by show 2 ≤ sizeLine; decide), fun a' ha => ?_⟩
            refine ⟨_, _, _, rfl, same_add sall ha, ?_⟩
            rw [step]
            show OD K _ _ (if M + t' < z.1 then some (M + t', p) else some z)
            rw [if_pos hlt]
            exact ⟨a', u, rfl, .of upd_same, tp4.mono (Tps.new ha)⟩
          · refine ifF (decide_eq_false hlt) ?_
            refine ⟨_, _, _, rfl, sall, ?_⟩
            rw [step]
            show OD K _ _ (if M + t' < z.1 then some (M + t', p) else some z)
            rw [if_neg hlt]
            exact ⟨a, u', rfl, hz, tz⟩
    · rintro σ H2 ⟨r, o1, o2, rfl, s2, hod⟩
      rw [hC.length, List.take_length] at hod
      exact ⟨_, rfl, hQ H2 r s2 hod⟩
def spParts (K : PySem.W.Frag) (C : Addr) : Sp := fun vs H Q _ => ∃ t b w h x y dx dy M, vs = [.ref t, .ref b] ∧ On K C H t b w h x y dx dy M ∧
  ∀ H' q q1 q2, Same H H' → H' q = some (.tup [.ref q1, .ref q2]) → H' q1 = some (.tup [.int w, .int x, .int dx]) → H' q2 = some (.tup [.int h, .int y, .int dy]) → Q (.ref q) H'
theorem sc_parts : FnScope ["table", "ball"] ["table", "ball"] (defScope s_parts_of) := ⟨rfl, rfl, rfl, by decide +kernel, rfl, by decide +kernel, by decide +kernel⟩
theorem ok_parts {C : Addr} (F : FnP K "parts_of" "parts_of" s_parts_of f fd) (TC : TabC K C) : FnOk P w K mg base CX0 1 f fd ["table", "ball"] (spParts K C) := by
  refine okB F sc_parts (fun vs H Q E h => ?_) (fun cdv A outer s H vs Q E hr h => ?_)
  · obtain ⟨t, b, w', h', x, y, dx, dy, M, rfl, _⟩ := h; rfl
  · obtain ⟨t, b, w', h', x, y, dx, dy, M, rfl, ⟨⟨pk, dd, hT⟩, hB⟩, hQ⟩ := h
    refine ⟨_, pss_one (ps_ret (pe_tup (pa_cons (pe_tup (pa_cons (pe_fld (pv 0) rfl) (pa_cons (pe_ix ix_tup (pv 1) pe_int (fun _ _ => rfl)) (pa_cons (pe_ix ix_tup (pv 1) pe_int (fun _ _ => rfl)) pa_nil))))
      (pa_cons (pe_tup (pa_cons (pe_fld (pv 0) rfl) (pa_cons (pe_ix ix_tup (pv 1) pe_int (fun _ _ => rfl)) (pa_cons (pe_ix ix_tup (pv 1) pe_int (fun _ _ => rfl)) pa_nil)))) pa_nil)))), ?_⟩
    refine ⟨_, rfl, t, C, dd, _, _, rfl, hT, TC.cl, TC.nw, tabF_w _ _ _, _, rfl, b, _, _, _, rfl, rfl, hB, rfl, _, rfl, b, _, _, _, rfl, rfl, hB, rfl, (by show 3 ≤ sizeLine; decide), fun q1 h1 => ?_⟩
    have s1 : Same H (upd H q1 (.tup [.int w', .int x, .int dx])) := same_new h1
    have hB1 := same_tup s1 hB
    refine ⟨_, rfl, t, C, dd, _, _, rfl, s1 _ _ hT, TC.cl, TC.nh, tabF_h _ _ _, _, rfl, b, _, _, _, rfl, rfl, hB1, rfl, _, rfl, b, _, _, _, rfl, rfl, hB1, rfl, (by show 3 ≤ sizeLine; decide), fun q2 h2 => ?_⟩
    refine ⟨(by show 2 ≤ sizeLine; decide), fun q hq => ?_⟩
    exact hQ _ q q1 q2 (same_add (same_add s1 h2) hq) upd_same (same_new hq _ _ (same_new h2 _ _ upd_same)) (same_new hq _ _ upd_same)
def spPlaceAt (K : PySem.W.Frag) (C : Addr) : Sp := fun vs H Q _ => ∃ t b w h x y dx dy M m, vs = [.ref t, .ref b, .int m] ∧ On K C H t b w h x y dx dy M ∧ Sane w h x y dx dy M ∧ M ≤ m ∧
  ∀ H' r, Same H H' → T2 K H' r (partZ w x dx (m - M), partZ h y dy (m - M)) → Q r H'
theorem sc_place : FnScope ["table", "ball", "minute", "size", "place", "step"] ["table", "ball", "minute"] (defScope s_place_at) := ⟨rfl, rfl, rfl, by decide +kernel, rfl, by decide +kernel, by decide +kernel⟩
theorem ok_place {C fB fP fR : Addr} {fdB fdP fdR : FuncData} (F : FnP K "place_at" "place_at" s_place_at f fd) (T : Top K mg) (CB : Cal P w K mg base "check_ball" ["table", "ball"] 3 (spCheckBall K C) fB fdB)
    (CP : Cal P w K mg base "parts_of" ["table", "ball"] 1 (spParts K C) fP fdP) (CR : Cal P w K mg base "part_at" ["size", "place", "step", "passed"] 2 spPart fR fdR) : FnOk P w K mg base CX0 4 f fd ["table", "ball", "minute"] (spPlaceAt K C) := by
  refine okB F sc_place (fun vs H Q E h => ?_) (fun cdv A outer s H vs Q E hr h => ?_)
  · obtain ⟨t, b, w', h', x, y, dx, dy, M, m, rfl, _⟩ := h; rfl
  · obtain ⟨t, b, w', h', x, y, dx, dy, M, m, rfl, hO, S, hm, hQ⟩ := h
    have nd := sc_place.nd
    have hr2 : Room 2 (A.deeper (envOfC "place_at" (defScope s_place_at) s.heap.objs.size f cdv)) := hr.mono (by decide)
    have hr1 : Room 1 (A.deeper (envOfC "place_at" (defScope s_place_at) s.heap.objs.size f cdv)) := hr.mono (by decide)
    refine ⟨_, pss_cons (ps_expr (pe_cal CB hr (pa_cons (pv 0) (pa_cons (pv 1) pa_nil))))
      (pss_cons (ps_if (pt_cmpR op_lt (pv 2) (pe_ix ix_tup (pv 1) pe_int (fun _ _ => rfl)) (nomark _)) (pss_one (ps_ret pe_non)) pss_nil)
      (pss_one (ps_ret (pe_callTy call_tuple_of (by rfl) T.tuple hb_tuple (pa_cons (pe_lc (own := [("size", 3), ("place", 4), ("step", 5)]) (g := gTup K 3 (gCons (gName 3) (gCons (gName 4) (gCons (gName 5) gNil)))) (tt := tYes)
        (te := tCall spPart [] E0 (tCons (tVar 3) (tCons (tVar 4) (tCons (tVar 5) (tCons (tOp (rI0 fun i j => .int (i - j)) (tVar 2) (tOp (rIxT K) (tVar 1) (tC (.int 5)))) tNil))))) rfl nd
        (pi_tup (pe_cal CP hr1 (pa_cons (pv 0) (pa_cons (pv 1) pa_nil))))
        (blkOk_by (N := ["table", "ball", "minute", "size", "place", "step"]) (sc := defScope s_place_at) (by decide +kernel))
        (fun _ _ _ _ _ => pg_tup (by rfl) (pgs_cons (pg_name (i := 3) nd rfl (Or.inl rfl)) (pgs_cons (pg_name (i := 4) nd rfl (Or.inl rfl)) (pgs_cons (pg_name (i := 5) nd rfl (Or.inl rfl)) pgs_nil))))
        (fun _ _ _ _ _ => pts_nil) (fun _ _ _ _ _ => pe_cal CR hr2 (pa_cons (pv 3) (pa_cons (pv 4) (pa_cons (pv 5) (pa_cons (pe_op op_sub (pv 2) (pe_ix ix_tup (pv 1) pe_int (fun _ _ => rfl))) pa_nil)))))) pa_nil))))), ?_⟩
    refine ⟨_, rfl, _, rfl, t, b, w', h', x, y, dx, dy, M, rfl, hO, S, fun H1 s1 => ?_⟩
    obtain ⟨_, hB1⟩ := hO.same s1
    refine ⟨_, rfl, _, rfl, b, _, _, _, rfl, rfl, hB1, rfl, _, _, rfl, rfl, _, rfl, ifF (decide_eq_false (by omega)) ?_⟩
    refine ⟨_, rfl, _, rfl, t, b, w', h', x, y, dx, dy, M, rfl, hO.same s1, fun H2 q q1 q2 s2 hq h1 h2 => ?_⟩
    refine ⟨q, rfl, ⟨_, .of hq⟩, fun D hD => lc_tup (K := K) (a := q) (xs := [.ref q1, .ref q2]) (fun i H' => Same H2 H' ∧ H' D = some (.lst (([V.int (partZ w' x dx (m - M)), V.int (partZ h' y dy (m - M))] : List V).take i))) ⟨same_new hD, upd_same⟩ (fun i H' _ ⟨s, _⟩ => same_tup s (.of hq)) ?_ ?_⟩
    · rintro i u H3 hi ⟨s3, hd⟩
      have hB3 := same_tup (s2.trans s3) hB1
      match i, hi with
      | 0, hi =>
        cases hi
        refine ⟨q1, _, rfl, .of (s3 _ _ h1), rfl, _, _, rfl, _, _, rfl, _, _, rfl, rfl, rfl, ?_⟩
        refine ⟨_, rfl, _, rfl, _, rfl, _, rfl, _, rfl, b, _, _, _, rfl, rfl, hB3, rfl, _, _, rfl, rfl, w', x, dx, m - M, rfl, S.w0, _, hd, (by show 0 < sizeLine; decide), same_set s3 hD, ?_⟩
        rw [upd_same]
        rfl
      | 1, hi =>
        cases hi
        refine ⟨q2, _, rfl, .of (s3 _ _ h2), rfl, _, _, rfl, _, _, rfl, _, _, rfl, rfl, rfl, ?_⟩
        refine ⟨_, rfl, _, rfl, _, rfl, _, rfl, _, rfl, b, _, _, _, rfl, rfl, hB3, rfl, _, _, rfl, rfl, h', y, dy, m - M, rfl, S.h0, _, hd, (by show 1 < sizeLine; decide), same_set s3 hD, ?_⟩
        rw [upd_same]
        rfl
      | i + 2, hi => simp at hi
    · rintro H3 ⟨s3, hd⟩
      refine ⟨D, _, rfl, .inl ⟨.of hd, fun l hl => ?_⟩⟩
      exact hQ _ _ (same_add ((s1.trans s2).trans s3) hl) (T2.new (i := partZ w' x dx (m - M)) (j := partZ h' y dy (m - M)))
end
end K34
end
section
set_option Elab.async false
set_option linter.all false
set_option maxRecDepth 100000
set_option maxHeartbeats 5000000
namespace K34
open PySem PySem.Spec PyProof.Rows L2
/-- digits of the law's reckoning -/
def Dig (ns : List Int) : Prop := ∀ k ∈ ns, 0 ≤ k ∧ k < 1009
theorem Dig.snoc {ns : List Int} {z : Int} (h : Dig ns) (a : 0 ≤ z) (b : z < 1009) : Dig (ns ++ [z]) := fun k hk => by
  rcases List.mem_append.mp hk with q | q
  · exact h k q
  · rw [List.mem_singleton.mp q]; exact ⟨a, b⟩
theorem mod1009 (z : Int) : 0 ≤ z % 1009 ∧ z % 1009 < 1009 := by omega
def spRow : Sp := fun vs H Q _ => ∃ c m, vs = [.int c, .int m] ∧ (0 ≤ m ∧ m ≤ 1000) ∧ ∀ (H' : Hp) (p : Addr) (ns : List Int), Same H H' → H p = none → H' p = some (.lst (ns.map V.int)) → (ns.length : Int) = m → Dig ns → Q (.ref p) H'
def spNumbers (K : PySem.W.Frag) : Sp := fun vs H Q _ => ∃ (a : Addr) (ns : List Int), vs = [.ref a, .int 140] ∧ SqL K H a (ns.map V.int) ∧ ns.length ≤ 63 ∧ ∀ (H' : Hp) (p : Addr) (ms : List Int), Same H H' → H' p = some (.lst (ms.map V.int)) → ms.length = 140 → Dig ms → Q (.ref p) H'
def spGreat : Sp := fun vs H Q _ => ∃ (a : Addr) (i : Int) (ns : List Int), vs = [.ref a, .int i] ∧ H a = some (.lst (ns.map V.int)) ∧ (ns.length = 140 ∧ Dig ns ∧ 0 ≤ i ∧ i + 9 < 140) ∧ ∀ v, 0 ≤ v → v < 1009 ^ 9 → Q (.int v) H
theorem dig_at {ns : List Int} {i : Int} (h0 : 0 ≤ i) (h1 : i < ns.length) (hd : Dig ns) : ∃ n, atI (ns.map V.int) i = some (.int n) ∧ 0 ≤ n ∧ n < 1009 := by
  obtain ⟨k, rfl⟩ : ∃ k : Nat, i = (k : Int) := ⟨i.toNat, by omega⟩
  have hk : k < ns.length := by omega
  obtain ⟨a, b⟩ := hd ns[k] (List.getElem_mem hk)
  exact ⟨ns[k], atI_nat (by rw [List.getElem?_map, List.getElem?_eq_getElem hk]; rfl), a, b⟩
section
variable {P : Program} {w : World} {K : PySem.W.Frag} {mg : Str → Option Value} {base : Heap} {f : Addr} {fd : FuncData}
theorem sc_row : FnScope ["_law_cell", "_law_many", "_law_row_here", "_law_rest", "_law_mixed", "_law_k"] ["_law_cell", "_law_many"] (defScope s_row) := ⟨rfl, rfl, rfl, by decide +kernel, rfl, by decide +kernel, by decide +kernel⟩
theorem ok_row (F : FnP K "_law_row" "_law_row" s_row f fd) (T : Top K mg) : FnOk P w K mg base CX0 1 f fd ["_law_cell", "_law_many"] spRow := by
  refine okB F sc_row (fun vs H Q E h => ?_) (fun cdv A outer s H vs Q E hr h => ?_)
  · obtain ⟨c, m, rfl, _⟩ := h; rfl
  · obtain ⟨c, m, rfl, ⟨hm0, hm1⟩, hQ⟩ := h
    have nd := sc_row.nd
    refine ⟨_, pss_cons (ps_set (i := 2) nd rfl (Or.inl rfl) (pe_lst pa_nil))
      (pss_cons (ps_set (i := 3) nd rfl (Or.inl rfl) (pe_callB call_abs (by rfl) T.abs hb_abs (pa_cons (pv 0) pa_nil)))
      (pss_cons (ps_set (i := 4) nd rfl (Or.inl rfl) (pe_op op_mod (pe_callTy call_int1 (by rfl) T.int hb_int (pa_cons (pe_op op_add (pe_op op_mul (pv 3) pe_int) pe_int) pa_nil)) pe_int))
      (pss_cons (ps_for PassesOwn.never rfl (pi_range1 rfl T.range (pa_cons (pv 1) pa_nil)) (pg_name (i := 5) nd rfl (Or.inl rfl))
        (pss_cons (ps_set (i := 4) nd rfl (Or.inl rfl) (pe_op op_mod (pe_callTy call_int1 (by rfl) T.int hb_int (pa_cons (pe_op op_add (pe_op op_mul (pv 4) pe_int) (pe_op op_mul pe_int (pe_op op_add (pv 5) pe_int))) pa_nil)) pe_int))
        (pss_one (ps_if (pt_cmpR op_ge (pe_callB call_abs (by rfl) T.abs hb_abs (pa_cons (pv 0) pa_nil)) (pe_op op_pow pe_int pe_int) (nomark _))
          (pss_cons (ps_expr (pe_bm PySem.F.plainAttrs_list PySem.F.slot_list_append PySem.F.type_list_append mt_append (pv 2) (pa_cons (pe_op op_mod (pe_callTy call_int1 (by rfl) T.int hb_int (pa_cons (pv 3) pa_nil)) pe_int) pa_nil)))
            (pss_one (ps_set (i := 3) nd rfl (Or.inl rfl) (pe_op op_fdiv (pv 3) pe_int))))
          (pss_one (ps_expr (pe_bm PySem.F.plainAttrs_list PySem.F.slot_list_append PySem.F.type_list_append mt_append (pv 2) (pa_cons (pe_op op_mod (pe_callTy call_int1 (by rfl) T.int hb_int (pa_cons (pe_op op_fdiv (pv 4) pe_int) pa_nil)) pe_int) pa_nil))))))))
      (pss_one (ps_ret (pv 2)))))), ?_⟩
    refine ⟨(by show 0 ≤ sizeLine; decide), fun l hl => ?_⟩
    refine ⟨_, rfl, _, rfl, ?_⟩
    refine ⟨_, rfl, _, _, rfl, rfl, .inr ⟨by decide, by decide⟩, _, _, rfl, rfl, .inl ⟨_, rfl, _, _, rfl, rfl, (by show (0 : Int) < 2147483647; decide), ?_⟩⟩
    refine ⟨_, rfl, m, rfl, by omega, by omega, for_range (lo := 0) (n := m.toNat) (fun i σ H' => ∃ (ns : List Int) (r mx : Int) (o : Option V), σ = [some (.int c), some (.int m), some (.ref l), some (.int r), some (.int mx), o] ∧ Same H H' ∧ H' l = some (.lst (ns.map V.int)) ∧ ns.length = i ∧ Dig ns)
      ⟨[], _, _, none, rfl, same_new hl, upd_same, rfl, fun k hk => nomatch hk⟩ ?_ ?_⟩
    · rintro i σ H' hi ⟨ns, r, mx, o, rfl, s1, hns, hlen, hd⟩
      have hsz : (ns.map V.int).length < sizeLine := by rw [List.length_map]; exact small1000 (by omega)
      have app : ∀ (z r' mx' : Int) (o' : Option V) (H'' : Hp), H'' = upd H' l (.lst (ns.map V.int ++ [.int (z % 1009)])) → ∃ (ns : List Int) (r mx : Int) (o : Option V), [some (.int c), some (.int m), some (.ref l), some (.int r'), some (.int mx'), o'] = [some (.int c), some (.int m), some (.ref l), some (.int r), some (.int mx), o] ∧
          Same H H'' ∧ H'' l = some (.lst (ns.map V.int)) ∧ ns.length = i + 1 ∧ Dig ns := fun z r' mx' o' H'' e => by
        subst e
        refine ⟨ns ++ [z % 1009], _, _, _, rfl, same_set s1 hl, ?_, by simp [hlen], hd.snoc (mod1009 z).1 (mod1009 z).2⟩
        rw [upd_same, List.map_append]
        rfl
      refine ⟨_, rfl, _, _, rfl, rfl, .inr ⟨by decide, by decide⟩, _, rfl, _, _, rfl, rfl, _, _, rfl, rfl, .inl ⟨by decide, by decide⟩, _, _, rfl, rfl, .inl ⟨_, rfl, _, _, rfl, rfl, (by show (0 : Int) < 2147483629; decide), ?_⟩⟩
      refine ⟨_, rfl, _, rfl, _, _, rfl, rfl, ⟨by decide, by decide, by decide⟩, _, _, rfl, rfl, _, rfl, ?_⟩
      refine ite2 (fun _ => ?_) (fun _ => ?_)
      · refine ⟨_, rfl, .inl ⟨rfl, _, .of hns⟩, ?_⟩
        refine ⟨_, rfl, .inl ⟨_, rfl, _, _, rfl, rfl, (by show (0 : Int) < 1009; decide), l, _, _, rfl, rfl, hns, hsz, ?_⟩⟩
        refine ⟨_, rfl, _, _, rfl, rfl, ⟨by decide, by decide⟩, ?_⟩
        exact app _ _ _ _ _ rfl
      · refine ⟨_, rfl, .inl ⟨rfl, _, .of hns⟩, ?_⟩
        refine ⟨_, rfl, _, _, rfl, rfl, ⟨by decide, by decide⟩, .inl ⟨_, rfl, _, _, rfl, rfl, (by show (0 : Int) < 1009; decide), l, _, _, rfl, rfl, hns, hsz, ?_⟩⟩
        exact app _ _ _ _ _ rfl
    · rintro σ H' ⟨ns, r, mx, o, rfl, s1, hns, hlen, hd⟩
      exact ⟨_, rfl, hQ H' l ns s1 hl hns (by omega) hd⟩
theorem sc_lfold : FnScope ["_law_size", "_law_number", "_law_rest"] ["_law_size", "_law_number"] (defScope s_lfold) := ⟨rfl, rfl, rfl, by decide +kernel, rfl, by decide +kernel, by decide +kernel⟩
theorem ok_lfold (F : FnP K "_law_fold" "_law_fold" s_lfold f fd) (T : Top K mg) : FnOk P w K mg base CX0 1 f fd ["_law_size", "_law_number"] spFold := by
  refine okB F sc_lfold (fun vs H Q E h => ?_) (fun cdv A outer s H vs Q E hr h => ?_)
  · obtain ⟨s', n, rfl, _⟩ := h; rfl
  · obtain ⟨s', n, rfl, hs, hQ⟩ := h
    refine ⟨_, pss_cons (ps_set (i := 2) sc_lfold.nd rfl (Or.inl rfl) (pe_op op_mod (pe_callTy call_int1 (by rfl) T.int hb_int (pa_cons (pv 1) pa_nil)) (pe_op op_mul pe_int (pv 0))))
      (pss_one (ps_ret (pe_callB (call_min2 rfl) (by rfl) T.min hb_min (pa_cons (pv 2) (pa_cons (pe_op op_sub (pe_op op_mul pe_int (pv 0)) (pv 2)) pa_nil))))), ?_⟩
    refine ⟨_, rfl, .inl ⟨_, rfl, _, rfl, _, _, rfl, rfl, .inl ⟨by decide, by decide⟩, _, _, rfl, rfl, (by show 0 < 2 * s'; omega), ?_⟩⟩
    exact ⟨_, rfl, _, rfl, _, _, rfl, rfl, .inl ⟨by decide, by decide⟩, _, rfl, _, _, rfl, rfl, _, _, rfl, hQ⟩
theorem sc_great : FnScope ["_law_numbers_here", "_law_at", "_law_value", "_law_k"] ["_law_numbers_here", "_law_at"] (defScope s_great) := ⟨rfl, rfl, rfl, by decide +kernel, rfl, by decide +kernel, by decide +kernel⟩
theorem ok_great (F : FnP K "_law_great" "_law_great" s_great f fd) (T : Top K mg) : FnOk P w K mg base CX0 1 f fd ["_law_numbers_here", "_law_at"] spGreat := by
  refine okB F sc_great (fun vs H Q E h => ?_) (fun cdv A outer s H vs Q E hr h => ?_)
  · obtain ⟨a, i, ns, rfl, _⟩ := h; rfl
  · obtain ⟨a, i, ns, rfl, hA, ⟨hlen, hd, hi0, hi1⟩, hQ⟩ := h
    have nd := sc_great.nd
    refine ⟨_, pss_cons (ps_set (i := 2) nd rfl (Or.inl rfl) pe_int)
      (pss_cons (ps_for PassesOwn.never rfl (pi_range1 rfl T.range (pa_cons (pe_op op_add pe_int (pe_op op_mod (pe_callTy call_int1 (by rfl) T.int hb_int (pa_cons (pe_ix ix_list (pv 0) (pv 1) (fun _ _ => rfl)) pa_nil)) pe_int)) pa_nil)) (pg_name (i := 3) nd rfl (Or.inl rfl))
        (pss_one (ps_set (i := 2) nd rfl (Or.inl rfl) (pe_op op_add (pe_op op_mul pe_int (pv 2)) (pe_ix ix_list (pv 0) (pe_op op_add (pe_op op_add (pv 1) pe_int) (pv 3)) (fun _ _ => rfl))))))
      (pss_one (ps_ret (pv 2)))), ?_⟩
    obtain ⟨n0, e0, _, _⟩ := dig_at (i := i) hi0 (by omega) hd
    have hn : 0 ≤ n0 % 9 ∧ n0 % 9 < 9 := by omega
    refine ⟨_, rfl, _, rfl, a, _, _, _, rfl, rfl, .of hA, e0, .inl ⟨_, rfl, _, _, rfl, rfl, (by show (0 : Int) < 9; decide), _, _, rfl, rfl, _, rfl, (by omega), (by omega), ?_⟩⟩
    refine for_range (lo := 0) (n := (1 + n0 % 9).toNat) (fun j σ H' => H' = H ∧ ∃ (v : Int) (o : Option V), σ = [some (.ref a), some (.int i), some (.int v), o] ∧ 0 ≤ v ∧ v < 1009 ^ j) ⟨rfl, 0, none, rfl, by decide, by decide⟩ ?_ ?_
    · rintro j σ H' hj ⟨rfl, v, o, rfl, v0, v1⟩
      have hj9 : j < 9 := by omega
      obtain ⟨n, e, n0', n1'⟩ := dig_at (ns := ns) (i := i + 1 + (0 + (j : Int))) (by omega) (by omega) hd
      refine ⟨_, rfl, _, _, rfl, rfl, .inl ⟨by decide, by decide⟩, _, rfl, _, rfl, _, _, rfl, rfl, _, rfl, _, _, rfl, rfl, a, _, _, _, rfl, rfl, .of hA, e, _, _, rfl, rfl, ?_⟩
      refine ⟨rfl, 1009 * v + n, _, rfl, by omega, ?_⟩
      have e2 : (1009 : Int) ^ (j + 1) = 1009 ^ j * 1009 := Int.pow_succ ..
      rw [e2]
      omega
    · rintro σ H' ⟨rfl, v, o, rfl, v0, v1⟩
      refine ⟨_, rfl, hQ v v0 ?_⟩
      have hle : (1009 : Int) ^ (1 + n0 % 9).toNat ≤ 1009 ^ 9 := by
        have : (1 + n0 % 9).toNat ≤ 9 := by omega
        have q : ∀ k : Nat, k ≤ 9 → (1009 : Int) ^ k ≤ 1009 ^ 9 := by decide
        exact q _ this
      omega
end
end K34
end
section
set_option Elab.async false
set_option linter.all false
set_option maxRecDepth 100000
set_option maxHeartbeats 5000000
namespace K34
open PySem PySem.Spec PyProof.Rows L2
def dirs : List (Int × Int) := [(-1, -1), (-1, 0), (-1, 1), (0, -1), (0, 1), (1, -1), (1, 0), (1, 1)]
def spDirs (K : PySem.W.Frag) : Sp := fun vs H Q _ => vs = [] ∧ ∀ H' v, Same H H' → LC K H' v dirs → Q v H'
def spPartClasses (K : PySem.W.Frag) : Sp := fun vs H Q _ => ∃ s x d p, vs = [.int s, .int x, .int d, .int p] ∧ (0 < s ∧ Big s ∧ Big p ∧ Big x ∧ Dir d) ∧ ∀ H' v, Same H H' → LC K H' v (lawCls s x d p) → Q v H'
theorem szK {n : Nat} (h : n ≤ 100000) : n < sizeLine := Nat.lt_of_le_of_lt h (by decide)
section
variable {P : Program} {w : World} {K : PySem.W.Frag} {mg : Str → Option Value} {base : Heap} {f : Addr} {fd : FuncData}
theorem sc_numbers : FnScope ["_law_script", "_law_many", "_law_cells", "_law_each", "_law_numbers_here", "_law_cell", "_law_number"] ["_law_script", "_law_many"] (defScope s_numbers) := ⟨rfl, rfl, rfl, by decide +kernel, rfl, by decide +kernel, by decide +kernel⟩
theorem ok_numbers {fR : Addr} {fdR : FuncData} (F : FnP K "_law_numbers" "_law_numbers" s_numbers f fd) (T : Top K mg) (CR : Cal P w K mg base "_law_row" ["_law_cell", "_law_many"] 1 spRow fR fdR) : FnOk P w K mg base CX0 2 f fd ["_law_script", "_law_many"] (spNumbers K) := by
  refine okB F sc_numbers (fun vs H Q E h => ?_) (fun cdv A outer s H vs Q E hr h => ?_)
  · obtain ⟨a, ns, rfl, _⟩ := h; rfl
  · obtain ⟨a, ns, rfl, hS, hlen, hQ⟩ := h
    have nd := sc_numbers.nd
    refine ⟨_, pss_cons (ps_set (i := 2) nd rfl (Or.inl rfl) (pe_slice sl_list (pv 0) po_none (po_some pe_int)))
      (pss_cons (ps_set (i := 3) nd rfl (Or.inl rfl) (pe_op op_add pe_int (pe_op op_fdiv (pv 1) (pe_callB (call_max2 rfl) (by rfl) T.max hb_max (pa_cons pe_int (pa_cons (pe_callB call_len_seq (by rfl) T.len hb_len (pa_cons (pv 2) pa_nil)) pa_nil))))))
      (pss_cons (ps_set (i := 4) nd rfl (Or.inl rfl) (pe_lst pa_nil))
      (pss_cons (ps_for PassesOwn.never rfl (pi_list (pv 2)) (pg_name (i := 5) nd rfl (Or.inl rfl))
        (pss_one (ps_for PassesOwn.never rfl (pi_list (pe_cal CR hr (pa_cons (pv 5) (pa_cons (pv 3) pa_nil)))) (pg_name (i := 6) nd rfl (Or.inl rfl))
          (pss_one (ps_expr (pe_bm PySem.F.plainAttrs_list PySem.F.slot_list_append PySem.F.type_list_append mt_append (pv 4) (pa_cons (pv 6) pa_nil)))))))
      (pss_cons (ps_while PassesOwn.never (pt_cmpR op_lt (pe_callB call_len_seq (by rfl) T.len hb_len (pa_cons (pv 4) pa_nil)) (pv 1) (nomark _))
        (pss_one (ps_expr (pe_bm PySem.F.plainAttrs_list PySem.F.slot_list_append PySem.F.type_list_append mt_append (pv 4) (pa_cons pe_int pa_nil)))))
      (pss_one (ps_ret (pe_slice sl_list (pv 4) po_none (po_some (pv 1))))))))), ?_⟩
    refine ⟨_, rfl, _, rfl, a, _, rfl, hS, fun c hc => ?_⟩
    have ec : cutV (ns.map V.int) none (some 63) = (ns.take 63).map V.int := by rw [List.map_take]; exact cut_to (ns.map V.int) 63
    have s1 : Same H (upd H c (.lst (cutV (ns.map V.int) none (some 63)))) := same_new hc
    have hc1 : upd H c (.lst (cutV (ns.map V.int) none (some 63))) c = some (.lst ((ns.take 63).map V.int)) := by rw [upd_same, ec]
    generalize upd H c (.lst (cutV (ns.map V.int) none (some 63))) = H1 at s1 hc1
    generalize hcs : ns.take 63 = cs at hc1
    have hcl : cs.length ≤ 63 := by rw [← hcs, List.length_take]; omega
    refine ⟨_, rfl, _, rfl, c, _, rfl, .inl (.of hc1), _, _, rfl, ?_⟩
    rw [List.length_map]
    have hmx : 1 ≤ (if (cs.length : Int) > 1 then (cs.length : Int) else 1) ∧ (if (cs.length : Int) > 1 then (cs.length : Int) else 1) ≤ 63 := by split <;> omega
    generalize (if (cs.length : Int) > 1 then (cs.length : Int) else 1) = mx at hmx
    have hq0 : 0 ≤ (140 : Int) / mx := Int.ediv_nonneg (by decide) (by omega)
    have hq1 : (140 : Int) / mx ≤ 140 := Int.ediv_le_self _ (by decide)
    refine ⟨_, _, rfl, rfl, ⟨by omega, by omega⟩, _, _, rfl, rfl, ?_⟩
    generalize (140 : Int) / mx = q at hq0 hq1
    refine ⟨(by show 0 ≤ sizeLine; decide), fun l hl => ?_⟩
    have s2 := same_add (o := .lst []) s1 hl
    have s12 : Same H1 (upd H1 l (.lst [])) := same_new hl
    refine ⟨_, rfl, c, rfl, ⟨_, .of (s12 _ _ hc1)⟩, for_list (K := K) (a := c) (xs := cs.map V.int) (fun i σ H' => ∃ (ms : List Int) (o1 o2 : Option V), σ = [some (.ref a), some (.int 140), some (.ref c), some (.int (1 + q)), some (.ref l), o1, o2] ∧ Same H1 H' ∧ H' l = some (.lst (ms.map V.int)) ∧ ms.length ≤ i * 141 ∧ Dig ms)
      ⟨[], none, none, rfl, s12, upd_same, Nat.le_refl _, fun k hk => nomatch hk⟩ (fun i σ H' _ ⟨_, _, _, _, s, _⟩ => .of (s _ _ hc1)) ?_ ?_⟩
    · rintro i x σ H' hi ⟨ms, o1, o2, rfl, s3, hms, hl3, hd3⟩
      have hi63 : i < 63 := by
        have := (List.getElem?_eq_some_iff.mp hi).1
        rw [List.length_map] at this
        omega
      obtain ⟨z, rfl⟩ : ∃ z, x = V.int z := by
        rw [List.getElem?_map] at hi
        cases e : cs[i]? with
        | none => rw [e] at hi; cases hi
        | some z => rw [e] at hi; exact ⟨z, (Option.some.inj hi).symm⟩
      refine ⟨_, rfl, _, rfl, z, 1 + q, rfl, ⟨by omega, by omega⟩, fun H4 p rs s4 hp hrs hrl hrd => ?_⟩
      have npl : p ≠ l := fun e => by rw [e, hms] at hp; cases hp
      refine ⟨p, rfl, ⟨_, .of hrs⟩, for_list (K := K) (a := p) (xs := rs.map V.int) (fun j σ H' => ∃ (ms : List Int) (o2 : Option V), σ = [some (.ref a), some (.int 140), some (.ref c), some (.int (1 + q)), some (.ref l), some (.int z), o2] ∧ Same H1 H' ∧ H' p = some (.lst (rs.map V.int)) ∧ H' l = some (.lst (ms.map V.int)) ∧ ms.length ≤ i * 141 + j ∧ Dig ms)
        ⟨ms, o2, rfl, s3.trans s4, hrs, s4 _ _ hms, by omega, hd3⟩ (fun j σ H' _ ⟨_, _, _, _, h, _⟩ => .of h) ?_ ?_⟩
      · rintro j y σ H5 hj ⟨ks, o2, rfl, s5, hp5, hks, hl5, hd5⟩
        have hj' : j < rs.length := by
          have := (List.getElem?_eq_some_iff.mp hj).1
          rwa [List.length_map] at this
        obtain ⟨n, hn, rfl⟩ : ∃ n, rs[j]? = some n ∧ y = V.int n := by
          rw [List.getElem?_map] at hj
          cases e : rs[j]? with
          | none => rw [e] at hj; cases hj
          | some n => rw [e] at hj; exact ⟨n, rfl, (Option.some.inj hj).symm⟩
        obtain ⟨n0, n1⟩ := hrd n (List.mem_of_getElem? hn)
        refine ⟨_, rfl, .inl ⟨rfl, _, .of hks⟩, _, rfl, l, _, _, rfl, rfl, hks, (by rw [List.length_map]; exact szK (by omega)), ?_⟩
        refine ⟨ks ++ [n], _, rfl, same_set s5 hl, (upd_ne npl).trans hp5, ?_, ?_, hd5.snoc n0 n1⟩
        · rw [upd_same, List.map_append]; rfl
        · rw [List.length_append, List.length_singleton]; omega
      · rintro σ H5 ⟨ks, o2, rfl, s5, hp5, hks, hl5, hd5⟩
        rw [List.length_map] at hl5
        refine ⟨ks, _, _, rfl, s5, hks, ?_, hd5⟩
        have : rs.length ≤ 141 := by omega
        rw [Nat.add_mul]
        omega
    · rintro σ H' ⟨ms, o1, o2, rfl, s3, hms, hl3, hd3⟩
      rw [List.length_map] at hl3
      have hl4 : ms.length ≤ 9000 := by
        have : cs.length * 141 ≤ 63 * 141 := Nat.mul_le_mul_right _ hcl
        omega
      refine ⟨fun n σ H'' => ∃ (ks : List Int), σ = [some (.ref a), some (.int 140), some (.ref c), some (.int (1 + q)), some (.ref l), o1, o2] ∧ Same H1 H'' ∧ H'' l = some (.lst (ks.map V.int)) ∧ ks.length ≤ 9000 ∧ Dig ks ∧ n = 140 - ks.length, ⟨_, ms, rfl, s3, hms, hl4, hd3, rfl⟩, ?_⟩
      rintro n σ H5 ⟨ks, rfl, s5, hks, hl5, hd5, rfl⟩
      refine ⟨_, rfl, l, _, rfl, .inl (.of hks), _, rfl, _, _, rfl, rfl, _, rfl, ?_⟩
      rw [List.length_map]
      refine ite2 (fun hc => ?_) (fun hc => ?_)
      · have hlt : (ks.length : Int) < 140 := of_decide_eq_true hc
        refine ⟨fun σ' H'' => ∃ m', m' < 140 - ks.length ∧ _, fun _ _ h => h, ?_⟩
        refine ⟨_, rfl, .inl ⟨rfl, _, .of hks⟩, l, _, _, rfl, rfl, hks, (by rw [List.length_map]; exact szK (by omega)), ?_⟩
        refine ⟨140 - (ks ++ [0]).length, ?_, ks ++ [0], rfl, same_set s5 hl, ?_, ?_, hd5.snoc (by decide) (by decide), rfl⟩
        · rw [List.length_append, List.length_singleton]; omega
        · rw [upd_same, List.map_append]; rfl
        · rw [List.length_append, List.length_singleton]; omega
      · have hge : ¬ (ks.length : Int) < 140 := fun z => hc (decide_eq_true z)
        refine ⟨_, rfl, _, rfl, _, rfl, l, _, rfl, .of hks, fun p hp => ?_⟩
        have e : cutV (ks.map V.int) none (some 140) = (ks.take 140).map V.int := by rw [List.map_take]; exact cut_to (ks.map V.int) 140
        refine hQ _ p (ks.take 140) (same_add (s1.trans s5) hp) (by rw [upd_same, e]) (by rw [List.length_take]; omega) (fun k hk => hd5 k (List.mem_of_mem_take hk))
theorem sc_dirs : FnScope [] [] (defScope s_directions) := ⟨rfl, rfl, rfl, by decide +kernel, rfl, by decide +kernel, by decide +kernel⟩
theorem ok_dirs (F : FnP K "_law_directions" "_law_directions" s_directions f fd) : FnOk P w K mg base CX0 1 f fd [] (spDirs K) := by
  refine okB F sc_dirs (fun vs H Q E h => ?_) (fun cdv A outer s H vs Q E hr h => ?_)
  · obtain ⟨rfl, _⟩ := h; rfl
  · obtain ⟨rfl, hQ⟩ := h
    refine ⟨_, pss_one (ps_ret (pe_lst (pa_cons (pe_tup (pa_cons (pe_un un_neg pe_int) (pa_cons (pe_un un_neg pe_int) pa_nil))) (pa_cons (pe_tup (pa_cons (pe_un un_neg pe_int) (pa_cons pe_int pa_nil))) (pa_cons (pe_tup (pa_cons (pe_un un_neg pe_int) (pa_cons pe_int pa_nil)))
      (pa_cons (pe_tup (pa_cons pe_int (pa_cons (pe_un un_neg pe_int) pa_nil))) (pa_cons (pe_tup (pa_cons pe_int (pa_cons pe_int pa_nil))) (pa_cons (pe_tup (pa_cons pe_int (pa_cons (pe_un un_neg pe_int) pa_nil))) (pa_cons (pe_tup (pa_cons pe_int (pa_cons pe_int pa_nil))) (pa_cons (pe_tup (pa_cons pe_int (pa_cons pe_int pa_nil))) pa_nil)))))))))), ?_⟩
    refine ⟨_, rfl, _, rfl, (by show 2 ≤ sizeLine; decide), fun p1 h1 => ?_⟩
    refine ⟨_, rfl, (by show 2 ≤ sizeLine; decide), fun p2 h2 => ?_⟩
    refine ⟨_, rfl, (by show 2 ≤ sizeLine; decide), fun p3 h3 => ?_⟩
    refine ⟨_, rfl, (by show 2 ≤ sizeLine; decide), fun p4 h4 => ?_⟩
    refine ⟨(by show 2 ≤ sizeLine; decide), fun p5 h5 => ?_⟩
    refine ⟨_, rfl, (by show 2 ≤ sizeLine; decide), fun p6 h6 => ?_⟩
    refine ⟨(by show 2 ≤ sizeLine; decide), fun p7 h7 => ?_⟩
    refine ⟨(by show 2 ≤ sizeLine; decide), fun p8 h8 => ?_⟩
    refine ⟨(by show 8 ≤ sizeLine; decide), fun l hl => ?_⟩
    have t8 := Tps.new (o := .lst [.ref p1, .ref p2, .ref p3, .ref p4, .ref p5, .ref p6, .ref p7, .ref p8]) hl
    have t7 := (Tps.new (o := .tup [.int 1, .int 1]) h8).trans t8
    have t6 := (Tps.new (o := .tup [.int 1, .int 0]) h7).trans t7
    have t5 := (Tps.new (o := .tup [.int 1, .int (-1)]) h6).trans t6
    have t4 := (Tps.new (o := .tup [.int 0, .int 1]) h5).trans t5
    have t3 := (Tps.new (o := .tup [.int 0, .int (-1)]) h4).trans t4
    have t2 := (Tps.new (o := .tup [.int (-1), .int 1]) h3).trans t3
    have t1 := (Tps.new (o := .tup [.int (-1), .int 0]) h2).trans t2
    refine hQ _ _ (same_add (same_add (same_add (same_add (same_add (same_add (same_add (same_add (same_new h1) h2) h3) h4) h5) h6) h7) h8) hl) ⟨l, _, rfl, upd_same, ?_⟩
    exact .cons (T2.mono t1 T2.new) (.cons (T2.mono t2 T2.new) (.cons (T2.mono t3 T2.new) (.cons (T2.mono t4 T2.new) (.cons (T2.mono t5 T2.new) (.cons (T2.mono t6 T2.new) (.cons (T2.mono t7 T2.new) (.cons (T2.mono t8 T2.new) .nil)))))))
theorem sc_lpc : FnScope ["_law_size", "_law_place", "_law_step", "_law_goal", "_law_found", "_law_other"] ["_law_size", "_law_place", "_law_step", "_law_goal"] (defScope s_part_classes) := ⟨rfl, rfl, rfl, by decide +kernel, rfl, by decide +kernel, by decide +kernel⟩
theorem ok_lpc (F : FnP K "_law_part_classes" "_law_part_classes" s_part_classes f fd) (T : Top K mg) : FnOk P w K mg base CX0 1 f fd ["_law_size", "_law_place", "_law_step", "_law_goal"] (spPartClasses K) := by
  refine okB F sc_lpc (fun vs H Q E h => ?_) (fun cdv A outer s H vs Q E hr h => ?_)
  · obtain ⟨s', x, d, p, rfl, _⟩ := h; rfl
  · obtain ⟨s', x, d, p, rfl, ⟨hs, bs, bp, bx, hd⟩, hQ⟩ := h
    have nd := sc_lpc.nd
    refine ⟨_, pss_cons (ps_if (pt_cmpR op_eq (pv 2) pe_int (nomark _)) (pss_one (ps_ret (pe_op op_rep (pe_lst (pa_cons (pe_tup (pa_cons pe_int (pa_cons pe_int pa_nil))) pa_nil)) (pe_callTy call_int1 (by rfl) T.int hb_int (pa_cons (pe_cmpR op_eq (pv 1) (pv 3) (nomark _)) pa_nil))))) pss_nil)
      (pss_cons (ps_set (i := 4) nd rfl (Or.inl rfl) (pe_lst (pa_cons (pe_tup (pa_cons (pe_op op_mod (pe_callTy call_int1 (by rfl) T.int hb_int (pa_cons (pe_op op_mul (pv 2) (pe_op op_sub (pv 3) (pv 1))) pa_nil)) (pe_op op_mul pe_int (pv 0))) (pa_cons (pe_op op_mul pe_int (pv 0)) pa_nil))) pa_nil)))
      (pss_cons (ps_set (i := 5) nd rfl (Or.inl rfl) (pe_tup (pa_cons (pe_op op_mod (pe_callTy call_int1 (by rfl) T.int hb_int (pa_cons (pe_op op_sub pe_int (pe_op op_mul (pv 2) (pe_op op_add (pv 3) (pv 1)))) pa_nil)) (pe_op op_mul pe_int (pv 0))) (pa_cons (pe_op op_mul pe_int (pv 0)) pa_nil))))
      (pss_cons (ps_if (pt_cmpR (op_notInD (hu65' hr)) (pv 5) (pv 4) (by rfl)) (pss_one (ps_expr (pe_bm PySem.F.plainAttrs_list PySem.F.slot_list_append PySem.F.type_list_append mt_append (pv 4) (pa_cons (pv 5) pa_nil)))) pss_nil)
      (pss_one (ps_ret (pv 4)))))), ?_⟩
    have hd64 : -(2 ^ 64) < d ∧ d < 2 ^ 64 := by unfold Dir at hd; omega
    refine ⟨_, rfl, rfl, _, rfl, ?_⟩
    unfold lawCls at hQ
    by_cases hz : d = 0
    · rw [if_pos hz] at hQ
      refine ifT (eqI_t hz) ?_
      refine ⟨(by show 2 ≤ sizeLine; decide), fun t ht => ⟨(by show 1 ≤ sizeLine; decide), fun l hl => ?_⟩⟩
      refine ⟨_, rfl, _, rfl, rfl, .inr ⟨_, rfl, ?_⟩⟩
      have s1 := same_add (o := .lst [.ref t]) (same_new (o := .tup [.int 0, .int 1]) ht) hl
      refine ⟨l, _, _, rfl, rfl, upd_same, ?_⟩
      by_cases hp : x = p
      · rw [if_pos hp] at hQ
        rw [eqI_t hp]
        refine ⟨by decide, by decide, (show 1 * 1 ≤ sizeLine by decide), fun q hq => ?_⟩
        refine hQ _ _ (same_add s1 hq) ⟨q, _, rfl, upd_same, ?_⟩
        exact .cons (T2.mono ((Tps.new hl).trans (Tps.new hq)) T2.new) .nil
      · rw [if_neg hp] at hQ
        rw [eqI_f hp]
        refine ⟨by decide, by decide, (show 1 * 0 ≤ sizeLine by decide), fun q hq => ?_⟩
        exact hQ _ _ (same_add s1 hq) ⟨q, _, rfl, upd_same, .nil⟩
    · rw [if_neg hz] at hQ
      refine ifF (eqI_f hz) ?_
      have h2 : 0 < 2 * s' := by omega
      refine ⟨_, rfl, _, rfl, _, rfl, _, _, rfl, rfl, _, _, rfl, rfl, .inl hd64, .inl ⟨_, rfl, _, rfl, _, _, rfl, rfl, .inl ⟨by decide, by decide⟩, _, _, rfl, rfl, h2, ?_⟩⟩
      refine ⟨_, rfl, _, _, rfl, rfl, .inl ⟨by decide, by decide⟩, (by show 2 ≤ sizeLine; decide), fun t ht => ⟨(by show 1 ≤ sizeLine; decide), fun l hl => ?_⟩⟩
      refine ⟨_, rfl, _, rfl, _, rfl, _, _, rfl, rfl, _, _, rfl, rfl, .inl hd64, _, _, rfl, rfl, .inl ⟨_, rfl, _, rfl, _, _, rfl, rfl, .inl ⟨by decide, by decide⟩, _, _, rfl, rfl, h2, ?_⟩⟩
      refine ⟨_, rfl, _, _, rfl, rfl, .inl ⟨by decide, by decide⟩, (by show 2 ≤ sizeLine; decide), fun u hu => ?_⟩
      have T1 : T2 K (upd (upd (upd H t (.tup [.int (d * (p - x) % (2 * s')), .int (2 * s')])) l (.lst [.ref t])) u (.tup [.int ((0 - d * (p + x)) % (2 * s')), .int (2 * s')])) (.ref t) (lawC1 s' x d p) := T2.mono ((Tps.new hl).trans (Tps.new hu)) T2.new
      have T3 : T2 K (upd (upd (upd H t (.tup [.int (d * (p - x) % (2 * s')), .int (2 * s')])) l (.lst [.ref t])) u (.tup [.int ((0 - d * (p + x)) % (2 * s')), .int (2 * s')])) (.ref u) (lawC2 s' x d p) := T2.new
      have hl2 : upd (upd (upd H t (.tup [.int (d * (p - x) % (2 * s')), .int (2 * s')])) l (.lst [.ref t])) u (.tup [.int ((0 - d * (p + x)) % (2 * s')), .int (2 * s')]) l = some (.lst [.ref t]) := same_new hu _ _ upd_same
      have sa : Same H (upd (upd (upd H t (.tup [.int (d * (p - x) % (2 * s')), .int (2 * s')])) l (.lst [.ref t])) u (.tup [.int ((0 - d * (p + x)) % (2 * s')), .int (2 * s')])) := same_add (same_add (same_new ht) hl) hu
      have hlH : H l = none := (same_new (o := .tup [.int (d * (p - x) % (2 * s')), .int (2 * s')]) ht).free hl
      have hl1 : LC K (upd (upd (upd H t (.tup [.int (d * (p - x) % (2 * s')), .int (2 * s')])) l (.lst [.ref t])) u (.tup [.int ((0 - d * (p + x)) % (2 * s')), .int (2 * s')])) (.ref l) [lawC1 s' x d p] := ⟨l, _, rfl, hl2, .cons T1 .nil⟩
      refine ⟨_, rfl, _, rfl, pD (lawC2 s' x d p), [lawC1 s' x d p].map pD, T3.dp, hl1.dp, pD_shaped _, pDs_shaped _, ?_⟩
      rw [pD_any]
      by_cases he : lawC2 s' x d p = lawC1 s' x d p
      · rw [if_pos he] at hQ
        refine ⟨_, rfl, ifF (by simp [he]) ?_⟩
        exact ⟨_, rfl, hQ _ _ sa hl1⟩
      · rw [if_neg he] at hQ
        refine ⟨_, rfl, ifT (by simp [he]) ?_⟩
        refine ⟨_, rfl, .inl ⟨rfl, _, .of hl2⟩, _, rfl, l, _, _, rfl, rfl, hl2, (by show 1 < sizeLine; decide), ?_⟩
        refine ⟨_, rfl, hQ _ _ (same_set sa hlH) ⟨l, _, rfl, upd_same, ?_⟩⟩
        exact .cons (T1.mono (Tps.setl hl2)) (.cons (T3.mono (Tps.setl hl2)) .nil)
end
end K34
end
section
set_option Elab.async false
set_option linter.all false
set_option maxRecDepth 100000
set_option maxHeartbeats 5000000
namespace K34
open PySem PySem.Spec PyProof.Rows L2
/-- an if without an else whose ways join -/
theorem join_nx {b : Bool} {t : TS} {D : Ends} {σ : L2.St} {H : Hp} (R : L2.St → Hp → Prop) (h1 : b = true → ∀ N : L2.St → Hp → Prop, (∀ σ' H', R σ' H' → N σ' H') → t { D with nx := N } σ H) (h2 : R σ H) (hN : ∀ σ' H', R σ' H' → D.nx σ' H') :
    if b = true then t D σ H else tNext D σ H := by
  cases b with
  | true => exact iteT (h1 rfl D.nx hN)
  | false => exact iteF (hN σ H h2)
/-! ### the first minute: it is there, and it is not too late -/
theorem first_ok {w h x y dx dy M : Int} {p : Int × Int} (S : Sane w h x y dx dy M) (hI : In w h p) :
    Least (AtP w h x y dx dy p) (minO (crossL (lawCls w x dx p.1) (lawCls h y dy p.2))) ∧ firstT w h x y dx dy p = minO (crossL (lawCls w x dx p.1) (lawCls h y dy p.2)) ∧ ∀ t, firstT w h x y dx dy p = some t → 0 ≤ t ∧ t < 2 ^ 210 ∧ AtP w h x y dx dy p t := by
  obtain ⟨m, hm, cx⟩ := lawCls_ok S.w0 S.x0 S.x1 hI.1 hI.2.1 S.ddx
  obtain ⟨n, hn, cy⟩ := lawCls_ok S.h0 S.y0 S.y1 hI.2.2.1 hI.2.2.2 S.ddy
  have hok := crossL_ok cx.ok cy.ok
  have l0 := minO_least fun c hc => hok.one (cs := crossL (lawCls w x dx p.1) (lawCls h y dy p.2)) hc
  have l1 : Least (AtP w h x y dx dy p) (minO (crossL (lawCls w x dx p.1) (lawCls h y dy p.2))) := l0.congr fun t _ => by
    rw [crossL_mem cx.ok cy.ok, cx.mem, cy.mem]
    rfl
  have e := firstT_eq l1
  refine ⟨l1, e, fun t ht => ?_⟩
  rw [e] at ht
  have lt := minO_lt hok ht
  rw [ht] at l1
  refine ⟨l1.1, ?_, l1.2.1⟩
  have c := cop cx.ok.pos cy.ok.pos
  have d1 : n / (Int.gcd m n : Int) ≤ n := Int.ediv_le_self _ (by have := cy.ok.pos; omega)
  have d2 : m * (n / (Int.gcd m n : Int)) ≤ (2 * w) * (2 * h) := Int.mul_le_mul hm (by omega) (by have := c.b0; omega) (by have := S.w0; omega)
  have d3 : (2 * w) * (2 * h) ≤ (2 * 1000000000000000000000000000000) * (2 * 1000000000000000000000000000000) := Int.mul_le_mul (by have := S.w1; omega) (by have := S.h1; omega) (by have := S.h0; omega) (by decide)
  have d4 : ((2 * 1000000000000000000000000000000) * (2 * 1000000000000000000000000000000) : Int) < 2 ^ 210 := by decide
  omega
def fV : Option Int → V
  | none => .non
  | some f => .int f
def spFirstAt (K : PySem.W.Frag) : Sp := fun vs H Q _ => ∃ b v w h x y dx dy M p, vs = [.int w, .int h, .ref b, v] ∧ SqT K H b (ballV x y dx dy M) ∧ Sane w h x y dx dy M ∧ T2 K H v p ∧ In w h p ∧ ∀ H', Same H H' → Q (oV M (firstT w h x y dx dy p)) H'
section
variable {P : Program} {w : World} {K : PySem.W.Frag} {mg : Str → Option Value} {base : Heap} {f : Addr} {fd : FuncData}
theorem sc_first : FnScope ["_law_width", "_law_height", "_law_ball", "_law_point", "_law_first", "_law_one", "_law_other", "_law_both"] ["_law_width", "_law_height", "_law_ball", "_law_point"] (defScope s_first_at) := ⟨rfl, rfl, rfl, by decide +kernel, rfl, by decide +kernel, by decide +kernel⟩
theorem ok_first {fC fA : Addr} {fdC fdA : FuncData} (F : FnP K "_law_first_at" "_law_first_at" s_first_at f fd) (CC : Cal P w K mg base "_law_part_classes" ["_law_size", "_law_place", "_law_step", "_law_goal"] 1 (spPartClasses K) fC fdC)
    (CA : Cal P w K mg base "_law_agreed" ["_law_one", "_law_other"] 2 (spChin K) fA fdA) : FnOk P w K mg base CX0 3 f fd ["_law_width", "_law_height", "_law_ball", "_law_point"] (spFirstAt K) := by
  refine okB F sc_first (fun vs H Q E h => ?_) (fun cdv A outer s H vs Q E hr h => ?_)
  · obtain ⟨b, v, w', h', x, y, dx, dy, M, p, rfl, _⟩ := h; rfl
  · obtain ⟨b, v, w', h', x, y, dx, dy, M, p, rfl, hB, S, ⟨pv', rfl, hP⟩, hI, hQ⟩ := h
    have nd := sc_first.nd
    have hr1 : Room 1 _ := hr.mono (by decide)
    obtain ⟨hL, hf, _⟩ := first_ok S hI
    obtain ⟨m, hm, cx⟩ := lawCls_ok S.w0 S.x0 S.x1 hI.1 hI.2.1 S.ddx
    obtain ⟨n, hn, cy⟩ := lawCls_ok S.h0 S.y0 S.y1 hI.2.2.1 hI.2.2.2 S.ddy
    have hw1 := S.w1
    have hh1 := S.h1
    have bw : Big w' := by have := S.w0; unfold Big; omega
    have bh : Big h' := by have := S.h0; unfold Big; omega
    have bx : Big x := by have := S.x0; have := S.x1; unfold Big; omega
    have by' : Big y := by have := S.y0; have := S.y1; unfold Big; omega
    have b1 : Big p.1 := by have := hI.1; have := hI.2.1; unfold Big; omega
    have b2 : Big p.2 := by have := hI.2.2.1; have := hI.2.2.2; unfold Big; omega
    have bm : Big m := by have := cx.ok.pos; unfold Big; omega
    have bn : Big n := by have := cy.ok.pos; unfold Big; omega
    refine ⟨_, pss_cons (ps_set (i := 4) nd rfl (Or.inl rfl) pe_non)
      (pss_cons (ps_for PassesOwn.never rfl (pi_list (pe_cal CC hr1 (pa_cons (pv 0) (pa_cons (pe_ix ix_tup (pv 2) pe_int (fun _ _ => rfl)) (pa_cons (pe_ix ix_tup (pv 2) pe_int (fun _ _ => rfl)) (pa_cons (pe_ix ix_tup (pv 3) pe_int (fun _ _ => rfl)) pa_nil)))))) (pg_name (i := 5) nd rfl (Or.inl rfl))
        (pss_one (ps_for PassesOwn.never rfl (pi_list (pe_cal CC hr1 (pa_cons (pv 1) (pa_cons (pe_ix ix_tup (pv 2) pe_int (fun _ _ => rfl)) (pa_cons (pe_ix ix_tup (pv 2) pe_int (fun _ _ => rfl)) (pa_cons (pe_ix ix_tup (pv 3) pe_int (fun _ _ => rfl)) pa_nil)))))) (pg_name (i := 6) nd rfl (Or.inl rfl))
          (pss_cons (ps_set (i := 7) nd rfl (Or.inl rfl) (pe_cal CA hr (pa_cons (pv 5) (pa_cons (pv 6) pa_nil))))
          (pss_one (ps_if (PW.pt (pw_and (pt_cmpR op_notN (pv 7) pe_non (nomark _)) (pw_and1 (PW.pt (pw_or (pt_cmpR op_isN (pv 4) pe_non (nomark _)) (pw_or1 (pt_cmpR op_lt (pe_ix ix_tup (pv 7) pe_int (fun _ _ => rfl)) (pv 4) (nomark _))))))))
            (pss_one (ps_set (i := 4) nd rfl (Or.inl rfl) (pe_ix ix_tup (pv 7) pe_int (fun _ _ => rfl)))) pss_nil))))))
      (pss_cons (ps_if (pt_cmpR op_isN (pv 4) pe_non (nomark _)) (pss_one (ps_ret pe_non)) pss_nil)
      (pss_one (ps_ret (pe_op op_add (pe_ix ix_tup (pv 2) pe_int (fun _ _ => rfl)) (pv 4)))))), ?_⟩
    refine ⟨_, rfl, _, rfl, b, _, _, _, rfl, rfl, hB, rfl, _, rfl, b, _, _, _, rfl, rfl, hB, rfl, _, rfl, pv', _, _, _, rfl, rfl, hP, rfl, ?_⟩
    refine ⟨w', x, dx, p.1, rfl, ⟨S.w0, bw, b1, bx, S.ddx⟩, fun H1 r s1 hr' => ?_⟩
    obtain ⟨a, vs, rfl, hA, cA⟩ := hr'
    refine ⟨a, rfl, ⟨_, .of hA⟩, for_list (K := K) (a := a) (xs := vs) (fun i σ H' => ∃ (o5 o6 o7 : Option V), σ = [some (.int w'), some (.int h'), some (.ref b), some (.ref pv'), some (fV (minO (crossL ((lawCls w' x dx p.1).take i) (lawCls h' y dy p.2)))), o5, o6, o7] ∧ Same H1 H')
      ⟨none, none, none, rfl, Same.refl _⟩ (fun i σ H' _ ⟨_, _, _, _, s⟩ => .of (s _ _ hA)) ?_ ?_⟩
    · rintro i u σ H2 hi ⟨o5, o6, o7, rfl, s2⟩
      obtain ⟨c, hc, tc⟩ := cA.get hi
      have oc := cx.ok.one (List.mem_of_getElem? hc)
      have bc : Big c.2 := by rw [(cx.ok.all c (List.mem_of_getElem? hc)).1]; exact bm
      have s12 := s1.trans s2
      have hB2 := same_tup s12 hB
      have hP2 := same_tup s12 hP
      refine ⟨_, rfl, _, rfl, b, _, _, _, rfl, rfl, hB2, rfl, _, rfl, b, _, _, _, rfl, rfl, hB2, rfl, _, rfl, pv', _, _, _, rfl, rfl, hP2, rfl, ?_⟩
      refine ⟨h', y, dy, p.2, rfl, ⟨S.h0, bh, b2, by', S.ddy⟩, fun H3 r s3 hr' => ?_⟩
      obtain ⟨a2, us, rfl, hA2, cA2⟩ := hr'
      refine ⟨a2, rfl, ⟨_, .of hA2⟩, for_list (K := K) (a := a2) (xs := us) (fun j σ H' => ∃ (o6 o7 : Option V), σ = [some (.int w'), some (.int h'), some (.ref b), some (.ref pv'), some (fV (minO (crossL ((lawCls w' x dx p.1).take i) (lawCls h' y dy p.2) ++ crossRow c ((lawCls h' y dy p.2).take j)))), some u, o6, o7] ∧ Same H3 H')
        ⟨o6, o7, by simp [crossRow], Same.refl _⟩ (fun j σ H' _ ⟨_, _, _, s⟩ => .of (s _ _ hA2)) ?_ ?_⟩
      · rintro j z σ H4 hj ⟨o6, o7, rfl, s4⟩
        obtain ⟨d, hd, td⟩ := cA2.get hj
        have od := cy.ok.one (List.mem_of_getElem? hd)
        have bd : Big d.2 := by rw [(cy.ok.all d (List.mem_of_getElem? hd)).1]; exact bn
        refine ⟨_, rfl, _, rfl, u, z, c, d, rfl, tc.mono (Tps.same ((s2.trans s3).trans s4)), td.mono (Tps.same s4), ⟨oc, od, bc, bd⟩, fun H5 r s5 hr' => ?_⟩
        have step : minO (crossL ((lawCls w' x dx p.1).take i) (lawCls h' y dy p.2) ++ crossRow c ((lawCls h' y dy p.2).take (j + 1))) = minO (crossL ((lawCls w' x dx p.1).take i) (lawCls h' y dy p.2) ++ crossRow c ((lawCls h' y dy p.2).take j) ++ (chin c d).toList) := by
          rw [crossRow_take hd, List.append_assoc]
        generalize crossL ((lawCls w' x dx p.1).take i) (lawCls h' y dy p.2) ++ crossRow c ((lawCls h' y dy p.2).take j) = L at step
        cases hch : chin c d with
        | none =>
          rw [hch] at hr' step
          obtain rfl : r = .non := hr'
          refine ⟨_, rfl, rfl, _, rfl, ifF (by decide) ?_⟩
          refine ⟨some z, some .non, ?_, s4.trans s5⟩
          rw [step, show (none : Option C2).toList = [] from rfl, List.append_nil]
          rfl
        | some e =>
          rw [hch] at hr' step
          have step' : minO (crossL ((lawCls w' x dx p.1).take i) (lawCls h' y dy p.2) ++ crossRow c ((lawCls h' y dy p.2).take (j + 1))) = minT (minO L) e.1 := by rw [step]; exact minO_snoc L e
          obtain ⟨q, rfl, hq⟩ := hr'
          refine ⟨_, rfl, rfl, _, rfl, ifT (by simp) ?_⟩
          cases hL : minO L with
          | none =>
            rw [hL] at step'
            refine ⟨_, rfl, rfl, _, rfl, ifT (by simp [fV]) ?_⟩
            refine ⟨_, rfl, q, _, _, _, rfl, rfl, hq, rfl, ?_⟩
            exact ⟨some z, some (.ref q), by rw [step']; rfl, s4.trans s5⟩
          | some g =>
            rw [hL] at step'
            refine ⟨_, rfl, rfl, _, rfl, ifF (by simp [fV]) ?_⟩
            refine ⟨_, rfl, q, _, _, _, rfl, rfl, hq, rfl, _, rfl, _, _, rfl, rfl, _, rfl, ?_⟩
            by_cases hlt : e.1 < g
            · refine ifT (decide_eq_true hlt) ?_
              refine ⟨_, rfl, q, _, _, _, rfl, rfl, hq, rfl, ?_⟩
              refine ⟨some z, some (.ref q), ?_, s4.trans s5⟩
              rw [step']
              show _ = [_, _, _, _, some (fV (if e.1 < g then some e.1 else some g)), _, _, _]
              rw [if_pos hlt]
              rfl
            · refine ifF (decide_eq_false hlt) ?_
              refine ⟨some z, some (.ref q), ?_, s4.trans s5⟩
              rw [step']
              show _ = [_, _, _, _, some (fV (if e.1 < g then some e.1 else some g)), _, _, _]
              rw [if_neg hlt]
              rfl
      · rintro σ H4 ⟨o6, o7, rfl, s4⟩
        refine ⟨some u, o6, o7, ?_, (s2.trans s3).trans s4⟩
        rw [crossL_take hc, cA2.length, List.take_length]
    · rintro σ H2 ⟨o5, o6, o7, rfl, s2⟩
      rw [cA.length, List.take_length]
      have hB2 := same_tup (s1.trans s2) hB
      have hq := hQ H2 (s1.trans s2)
      rw [hf] at hq
      generalize minO (crossL (lawCls w' x dx p.1) (lawCls h' y dy p.2)) = o at hq
      cases o with
      | none => exact ⟨_, rfl, rfl, _, rfl, ifT (by simp [fV]) hq⟩
      | some t =>
        refine ⟨_, rfl, rfl, _, rfl, ifF (by simp [fV]) ?_⟩
        exact ⟨_, rfl, b, _, _, _, rfl, rfl, hB2, rfl, _, rfl, _, _, rfl, rfl, hq⟩
end
end K34
end
section
set_option Elab.async false
set_option linter.all false
set_option maxRecDepth 100000
set_option maxHeartbeats 5000000
namespace K34
open PySem PySem.Spec PyProof.Rows L2
/-- .. behind «a and b» -/
theorem join_and {c : Bool} {B : L2.TT} {t : TS} {D : Ends} {σ : L2.St} {H : Hp} (R : L2.St → Hp → Prop)
    (hB : c = true → ∃ b : Bool, (∀ Q : Bool → Hp → Prop, Q b H → B σ H Q) ∧ (b = true → ∀ N : L2.St → Hp → Prop, (∀ σ' H', R σ' H' → N σ' H') → t { D with nx := N } σ H)) (h2 : R σ H) (hN : ∀ σ' H', R σ' H' → D.nx σ' H') :
    if c = true then B σ H (fun b H1 => if b = true then t D σ H1 else tNext D σ H1) else (if false = true then t D σ H else tNext D σ H) := by
  cases c with
  | true =>
    obtain ⟨b, h3, h4⟩ := hB rfl
    exact iteT (h3 _ (join_nx R h4 h2 hN))
  | false => exact iteF (iteF (hN σ H h2))
theorem gr9 : (1009 : Int) ^ 9 < 1000000000000000000000000000000 := by decide
/-- the law's digits stand at a -/
structure Digs (H : Hp) (a : Addr) (ns : List Int) : Prop where
  at_ : H a = some (.lst (ns.map V.int))
  len : ns.length = 140
  dig : Dig ns
theorem Digs.same {H H' : Hp} {a : Addr} {ns : List Int} (s : Same H H') (d : Digs H a ns) : Digs H' a ns := ⟨s _ _ d.at_, d.len, d.dig⟩
theorem Digs.get {H : Hp} {a : Addr} {ns : List Int} (d : Digs H a ns) {i : Int} (h0 : 0 ≤ i) (h1 : i < 140) : ∃ n, atI (ns.map V.int) i = some (.int n) ∧ 0 ≤ n ∧ n < 1009 := dig_at h0 (by have := d.len; omega) d.dig
def spGreatTable (K : PySem.W.Frag) : Sp := fun vs H Q _ => ∃ (a : Addr) (ns : List Int), vs = [.ref a, .int 0] ∧ Digs H a ns ∧
  ∀ (H' : Hp) (q pk : Addr) (us : List V) (ps : List (Int × Int)) (w h : Int), Same H H' → H' q = some (.tup [.int w, .int h, .ref pk]) → H' pk = some (.tup us) → Cs K H' us ps →
    (0 < w ∧ w ≤ 1000000000000000000000000000000 ∧ 0 < h ∧ h ≤ 1000000000000000000000000000000 ∧ ps.length ≤ 3 ∧ ps.Nodup ∧ ∀ p ∈ ps, In w h p) → Q (.ref q) H'
/-- one of the two ends -/
theorem two_at {x z : Int} (h : z = 0 ∨ z = 1) (hx : 0 ≤ x) : ∃ r, atI [V.int 0, V.int x] z = some (.int r) ∧ 0 ≤ r ∧ r ≤ x := by
  rcases h with rfl | rfl
  · exact ⟨0, rfl, Int.le_refl _, hx⟩
  · exact ⟨x, rfl, hx, Int.le_refl _⟩
section
variable {P : Program} {w : World} {K : PySem.W.Frag} {mg : Str → Option Value} {base : Heap} {f : Addr} {fd : FuncData}
theorem sc_gtab : FnScope ["_law_numbers_here", "_law_at", "_law_width", "_law_height", "_law_pockets", "_law_k", "_law_x", "_law_y"] ["_law_numbers_here", "_law_at"] (defScope s_great_table) := ⟨rfl, rfl, rfl, by decide +kernel, rfl, by decide +kernel, by decide +kernel⟩
theorem ok_gtab {fG : Addr} {fdG : FuncData} (F : FnP K "_law_great_table" "_law_great_table" s_great_table f fd) (T : Top K mg) (CG : Cal P w K mg base "_law_great" ["_law_numbers_here", "_law_at"] 1 spGreat fG fdG) :
    FnOk P w K mg base CX0 2 f fd ["_law_numbers_here", "_law_at"] (spGreatTable K) := by
  refine okB F sc_gtab (fun vs H Q E h => ?_) (fun cdv A outer s H vs Q E hr h => ?_)
  · obtain ⟨a, ns, rfl, _⟩ := h; rfl
  · obtain ⟨a, ns, rfl, hD, hQ⟩ := h
    have nd := sc_gtab.nd
    refine ⟨_, pss_cons (ps_set (i := 2) nd rfl (Or.inl rfl) (pe_op op_add pe_int (pe_cal CG hr (pa_cons (pv 0) (pa_cons (pv 1) pa_nil)))))
      (pss_cons (ps_set (i := 3) nd rfl (Or.inl rfl) (pe_op op_add pe_int (pe_cal CG hr (pa_cons (pv 0) (pa_cons (pe_op op_add (pv 1) pe_int) pa_nil)))))
      (pss_cons (ps_set (i := 4) nd rfl (Or.inl rfl) (pe_lst pa_nil))
      (pss_cons (ps_for PassesOwn.never rfl (pi_range1 rfl T.range (pa_cons (pe_op op_mod (pe_callTy call_int1 (by rfl) T.int hb_int (pa_cons (pe_ix ix_list (pv 0) (pe_op op_add (pv 1) pe_int) (fun _ _ => rfl)) pa_nil)) pe_int) pa_nil)) (pg_name (i := 5) nd rfl (Or.inl rfl))
        (pss_cons (ps_set (i := 6) nd rfl (Or.inl rfl) (pe_op op_mod (pe_callTy call_int1 (by rfl) T.int hb_int (pa_cons (pe_cal CG hr (pa_cons (pv 0) (pa_cons (pe_op op_add (pe_op op_add (pv 1) pe_int) (pe_op op_mul pe_int (pv 5))) pa_nil))) pa_nil)) (pe_op op_add (pv 2) pe_int)))
        (pss_cons (ps_set (i := 7) nd rfl (Or.inl rfl) (pe_op op_mod (pe_callTy call_int1 (by rfl) T.int hb_int (pa_cons (pe_cal CG hr (pa_cons (pv 0) (pa_cons (pe_op op_add (pe_op op_add (pv 1) pe_int) (pe_op op_mul pe_int (pv 5))) pa_nil))) pa_nil)) (pe_op op_add (pv 3) pe_int)))
        (pss_cons (ps_if (pt_cmpR op_eq (pe_op op_mod (pe_callTy call_int1 (by rfl) T.int hb_int (pa_cons (pe_ix ix_list (pv 0) (pe_op op_add (pe_op op_add (pv 1) pe_int) (pv 5)) (fun _ _ => rfl)) pa_nil)) pe_int) pe_int (nomark _))
          (pss_one (ps_set (i := 6) nd rfl (Or.inl rfl) (pe_ix ix_tup (pe_tup (pa_cons pe_int (pa_cons (pv 2) pa_nil))) (pe_op op_mod (pe_callTy call_int1 (by rfl) T.int hb_int (pa_cons (pe_op op_fdiv (pe_ix ix_list (pv 0) (pe_op op_add (pe_op op_add (pv 1) pe_int) (pv 5)) (fun _ _ => rfl)) pe_int) pa_nil)) pe_int) (fun _ _ => rfl)))) pss_nil)
        (pss_cons (ps_if (pt_cmpR op_eq (pe_op op_mod (pe_callTy call_int1 (by rfl) T.int hb_int (pa_cons (pe_ix ix_list (pv 0) (pe_op op_add (pe_op op_add (pv 1) pe_int) (pv 5)) (fun _ _ => rfl)) pa_nil)) pe_int) pe_int (nomark _))
          (pss_one (ps_set (i := 7) nd rfl (Or.inl rfl) (pe_ix ix_tup (pe_tup (pa_cons pe_int (pa_cons (pv 3) pa_nil))) (pe_op op_mod (pe_callTy call_int1 (by rfl) T.int hb_int (pa_cons (pe_op op_fdiv (pe_ix ix_list (pv 0) (pe_op op_add (pe_op op_add (pv 1) pe_int) (pv 5)) (fun _ _ => rfl)) pe_int) pa_nil)) pe_int) (fun _ _ => rfl)))) pss_nil)
        (pss_one (ps_if (pt_cmpR (op_notInD (hu65' hr)) (pe_tup (pa_cons (pv 6) (pa_cons (pv 7) pa_nil))) (pv 4) (by rfl)) (pss_one (ps_expr (pe_bm PySem.F.plainAttrs_list PySem.F.slot_list_append PySem.F.type_list_append mt_append (pv 4) (pa_cons (pe_tup (pa_cons (pv 6) (pa_cons (pv 7) pa_nil))) pa_nil)))) pss_nil)))))))
      (pss_one (ps_ret (pe_tup (pa_cons (pv 2) (pa_cons (pv 3) (pa_cons (pe_callTy call_tuple_of (by rfl) T.tuple hb_tuple (pa_cons (pv 4) pa_nil)) pa_nil))))))))), ?_⟩
    have g9 := gr9
    refine ⟨_, rfl, _, rfl, a, 0, ns, rfl, hD.at_, ⟨hD.len, hD.dig, by decide, by decide⟩, fun v1 v10 v11 => ⟨_, _, rfl, rfl, ?_⟩⟩
    refine ⟨_, rfl, _, rfl, _, _, rfl, rfl, a, 0 + 10, ns, rfl, hD.at_, ⟨hD.len, hD.dig, by decide, by decide⟩, fun v2 v20 v21 => ⟨_, _, rfl, rfl, ?_⟩⟩
    obtain ⟨W, hW⟩ : ∃ W, W = 1 + v1 := ⟨_, rfl⟩
    obtain ⟨G, hG⟩ : ∃ G, G = 1 + v2 := ⟨_, rfl⟩
    have hW0 : 0 < W := by omega
    have hG0 : 0 < G := by omega
    refine ⟨(by show 0 ≤ sizeLine; decide), fun l hl => ?_⟩
    have s1 : Same H (upd H l (.lst [])) := same_new hl
    obtain ⟨n20, e20, _, _⟩ := hD.get (i := 0 + 20) (by decide) (by decide)
    have hn4 : 0 ≤ n20 % 4 ∧ n20 % 4 < 4 := by omega
    refine ⟨_, rfl, _, rfl, _, _, rfl, rfl, a, _, _, _, rfl, rfl, .of (s1 _ _ hD.at_), e20, .inl ⟨_, rfl, _, _, rfl, rfl, (by show (0 : Int) < 4; decide), _, rfl, (by omega), (by omega), ?_⟩⟩
    refine for_range (lo := 0) (n := (n20 % 4).toNat) (fun i σ H' => ∃ (us : List V) (ps : List (Int × Int)) (o5 o6 o7 : Option V), σ = [some (.ref a), some (.int 0), some (.int W), some (.int G), some (.ref l), o5, o6, o7] ∧ Same H H' ∧ H' l = some (.lst us) ∧ Cs K H' us ps ∧ ps.length ≤ i ∧ ps.Nodup ∧ ∀ p ∈ ps, In W G p)
      ⟨[], [], none, none, none, by rw [hW, hG]; rfl, s1, upd_same, .nil, Nat.le_refl _, List.nodup_nil, fun p hp => nomatch hp⟩ ?_ ?_
    · rintro i σ H2 hi ⟨us, ps, o5, o6, o7, rfl, s2, hus, hcs, hpl, hpn, hpi⟩
      have hi3 : i < 3 := by omega
      have hD2 := hD.same s2
      refine ⟨_, rfl, _, rfl, _, _, rfl, rfl, _, rfl, _, _, rfl, rfl, .inl ⟨by decide, by decide⟩, _, _, rfl, rfl, a, 0 + 21 + 10 * (0 + (i : Int)), ns, rfl, hD2.at_, ⟨hD.len, hD.dig, by omega, by omega⟩, fun x1 x10 x11 => ?_⟩
      refine .inl ⟨_, rfl, _, rfl, _, _, rfl, rfl, _, _, rfl, rfl, (by show 0 < W + 1; omega), ?_⟩
      refine ⟨_, rfl, _, rfl, _, _, rfl, rfl, _, rfl, _, _, rfl, rfl, .inl ⟨by decide, by decide⟩, _, _, rfl, rfl, a, 0 + 51 + 10 * (0 + (i : Int)), ns, rfl, hD2.at_, ⟨hD.len, hD.dig, by omega, by omega⟩, fun y1 y10 y11 => ?_⟩
      refine .inl ⟨_, rfl, _, rfl, _, _, rfl, rfl, _, _, rfl, rfl, (by show 0 < G + 1; omega), ?_⟩
      have hx0 : 0 ≤ x1 % (W + 1) := Int.emod_nonneg _ (by omega)
      have hx1 : x1 % (W + 1) < W + 1 := Int.emod_lt_of_pos _ (by omega)
      have hy0 : 0 ≤ y1 % (G + 1) := Int.emod_nonneg _ (by omega)
      have hy1 : y1 % (G + 1) < G + 1 := Int.emod_lt_of_pos _ (by omega)
      obtain ⟨x, ex⟩ : ∃ z, z = x1 % (W + 1) := ⟨_, rfl⟩
      obtain ⟨y, ey⟩ : ∃ z, z = y1 % (G + 1) := ⟨_, rfl⟩
      rw [← ex] at hx0 hx1
      rw [← ey] at hy0 hy1
      obtain ⟨n81, e81, b81, _⟩ := hD2.get (i := 0 + 81 + (0 + (i : Int))) (by omega) (by omega)
      have two : ∀ z : Int, z % 2 = 0 ∨ z % 2 = 1 := fun z => by omega
      refine ⟨_, rfl, _, rfl, _, _, rfl, rfl, _, rfl, _, _, rfl, rfl, a, _, _, _, rfl, rfl, .of hD2.at_, e81, .inl ⟨_, rfl, _, _, rfl, rfl, (by show (0 : Int) < 4; decide), rfl, _, rfl, ?_⟩⟩
      refine join_nx (fun σ' H3 => ∃ x, σ' = [some (.ref a), some (.int 0), some (.int W), some (.int G), some (.ref l), some (.int (0 + (i : Int))), some (.int x), some (.int y)] ∧ Same H2 H3 ∧ 0 ≤ x ∧ x ≤ W) (fun _ N hN => ?_) ⟨x, by rw [ex, ey, hW, hG]; rfl, Same.refl _, hx0, by omega⟩ ?_
      · refine ⟨_, rfl, (by show 2 ≤ sizeLine; decide), fun t ht => ?_⟩
        have st : Same H2 (upd H2 t (.tup [.int 0, .int W])) := same_new ht
        obtain ⟨r, er, r0, r1⟩ := two_at (two (n81 / 4)) (show 0 ≤ W by omega)
        refine ⟨_, rfl, _, rfl, _, _, rfl, rfl, _, rfl, _, _, rfl, rfl, a, _, _, _, rfl, rfl, .of (st _ _ hD2.at_), e81, _, _, rfl, rfl, ⟨by decide, by decide⟩, .inl ⟨_, rfl, _, _, rfl, rfl, (by show (0 : Int) < 2; decide), t, _, _, _, rfl, rfl, .of upd_same, er, ?_⟩⟩
        exact hN _ _ ⟨r, by rw [ey, hG]; rfl, st, r0, r1⟩
      · rintro σ' H3 ⟨x, rfl, s3, hx0, hx1⟩
        have hD3 := hD2.same s3
        refine ⟨_, rfl, _, rfl, _, _, rfl, rfl, _, rfl, _, _, rfl, rfl, a, _, _, _, rfl, rfl, .of hD3.at_, e81, .inl ⟨_, rfl, _, _, rfl, rfl, (by show (0 : Int) < 3; decide), rfl, _, rfl, ?_⟩⟩
        refine join_nx (fun σ' H4 => ∃ y, σ' = [some (.ref a), some (.int 0), some (.int W), some (.int G), some (.ref l), some (.int (0 + (i : Int))), some (.int x), some (.int y)] ∧ Same H3 H4 ∧ 0 ≤ y ∧ y ≤ G) (fun _ N hN => ?_) ⟨y, rfl, Same.refl _, hy0, by omega⟩ ?_
        · refine ⟨_, rfl, (by show 2 ≤ sizeLine; decide), fun t ht => ?_⟩
          have st : Same H3 (upd H3 t (.tup [.int 0, .int G])) := same_new ht
          obtain ⟨r, er, r0, r1⟩ := two_at (two (n81 / 3)) (show 0 ≤ G by omega)
          refine ⟨_, rfl, _, rfl, _, _, rfl, rfl, _, rfl, _, _, rfl, rfl, a, _, _, _, rfl, rfl, .of (st _ _ hD3.at_), e81, _, _, rfl, rfl, ⟨by decide, by decide⟩, .inl ⟨_, rfl, _, _, rfl, rfl, (by show (0 : Int) < 2; decide), t, _, _, _, rfl, rfl, .of upd_same, er, ?_⟩⟩
          exact hN _ _ ⟨r, rfl, st, r0, r1⟩
        · rintro σ' H4 ⟨y, rfl, s4, hy0, hy1⟩
          have s24 := s3.trans s4
          have hus4 := s24 _ _ hus
          have hcs4 := hcs.mono (Tps.same s24)
          refine ⟨_, rfl, _, rfl, (by show 2 ≤ sizeLine; decide), fun t ht => ?_⟩
          have st : Same H4 (upd H4 t (.tup [.int x, .int y])) := same_new ht
          have hLC : LC K (upd H4 t (.tup [.int x, .int y])) (.ref l) ps := ⟨l, us, rfl, st _ _ hus4, hcs4.mono (Tps.same st)⟩
          refine ⟨_, rfl, pD (x, y), ps.map pD, (T2.new (i := x) (j := y)).dp, hLC.dp, pD_shaped _, pDs_shaped _, _, rfl, ?_⟩
          rw [pD_any]
          by_cases hm : (x, y) ∈ ps
          · refine ifF (by simp [hm]) ?_
            exact ⟨us, ps, _, _, _, rfl, (s2.trans s24).trans st, st _ _ hus4, hcs4.mono (Tps.same st), by omega, hpn, hpi⟩
          · refine ifT (by simp [hm]) ?_
            refine ⟨_, rfl, .inl ⟨rfl, _, .of (st _ _ hus4)⟩, _, rfl, _, rfl, (by show 2 ≤ sizeLine; decide), fun u hu => ?_⟩
            have su : Same H4 (upd (upd H4 t (.tup [.int x, .int y])) u (.tup [.int x, .int y])) := same_add st hu
            have hlu := su _ _ hus4
            have hul : us.length ≤ 1000 := by
              have := hcs.length
              omega
            refine ⟨l, _, _, rfl, rfl, hlu, small1000 hul, ?_⟩
            refine ⟨us ++ [.ref u], ps ++ [(x, y)], _, _, _, rfl, same_set ((s2.trans s24).trans su) hl, upd_same, ?_, ?_, ?_, ?_⟩
            · exact All2.snoc (hcs4.mono ((Tps.same su).trans (Tps.setl hlu))) ((T2.new (i := x) (j := y)).mono (Tps.setl hlu))
            · rw [List.length_append, List.length_singleton]; omega
            · refine List.nodup_append.mpr ⟨hpn, by simp, fun c hc d hd e => ?_⟩
              rw [List.mem_singleton.mp hd] at e
              exact hm (e ▸ hc)
            · intro p hp
              rcases List.mem_append.mp hp with q | q
              · exact hpi p q
              · rw [List.mem_singleton.mp q]; exact ⟨hx0, hx1, hy0, hy1⟩
    · rintro σ H2 ⟨us, ps, o5, o6, o7, rfl, s2, hus, hcs, hpl, hpn, hpi⟩
      refine ⟨_, rfl, _, rfl, _, rfl, l, _, rfl, .inl ⟨.of hus, fun pk hpk => ?_⟩⟩
      refine ⟨(by show 3 ≤ sizeLine; decide), fun q hq => ?_⟩
      have s3 := same_new (o := .tup us) hpk
      have s4 := same_add (o := .tup [.int W, .int G, .ref pk]) s3 hq
      exact hQ _ q pk us ps W G (s2.trans s4) upd_same (same_new hq _ _ upd_same) (hcs.mono (Tps.same s4)) ⟨hW0, by omega, hG0, by omega, by omega, hpn, hpi⟩
def spBallOf (K : PySem.W.Frag) : Sp := fun vs H Q _ => ∃ (a : Addr) (ns : List Int) (w h : Int) (pk : Addr) (us : List V) (ps : List (Int × Int)), vs = [.ref a, .int 90, .int w, .int h, .ref pk] ∧ Digs H a ns ∧ SqT K H pk us ∧ Cs K H us ps ∧
  (0 < w ∧ w ≤ 1000000000000000000000000000000 ∧ 0 < h ∧ h ≤ 1000000000000000000000000000000) ∧ ∀ (H' : Hp) (b : Addr) (x y dx dy M : Int), Same H H' → H' b = some (.tup (ballV x y dx dy M)) → Sane w h x y dx dy M → Q (.ref b) H'
theorem dirs_ok : ∀ c ∈ dirs, Dir c.1 ∧ Dir c.2 ∧ ¬ (c.1 = 0 ∧ c.2 = 0) := by
  intro c hc
  simp only [dirs, List.mem_cons, List.not_mem_nil, or_false] at hc
  unfold Dir
  rcases hc with rfl | rfl | rfl | rfl | rfl | rfl | rfl | rfl <;> decide
theorem sc_bof : FnScope ["_law_numbers_here", "_law_at", "_law_width", "_law_height", "_law_pockets", "_law_x", "_law_y", "_law_dx", "_law_dy", "_law_back"] ["_law_numbers_here", "_law_at", "_law_width", "_law_height", "_law_pockets"] (defScope s_ball_of) := ⟨rfl, rfl, rfl, by decide +kernel, rfl, by decide +kernel, by decide +kernel⟩
theorem ok_bof {fG fD fF : Addr} {fdG fdD fdF : FuncData} (F : FnP K "_law_ball_of" "_law_ball_of" s_ball_of f fd) (T : Top K mg) (CG : Cal P w K mg base "_law_great" ["_law_numbers_here", "_law_at"] 1 spGreat fG fdG) (CD : Cal P w K mg base "_law_directions" [] 1 (spDirs K) fD fdD)
    (CF : Cal P w K mg base "_law_fold" ["_law_size", "_law_number"] 1 spFold fF fdF) : FnOk P w K mg base CX0 2 f fd ["_law_numbers_here", "_law_at", "_law_width", "_law_height", "_law_pockets"] (spBallOf K) := by
  refine okB F sc_bof (fun vs H Q E h => ?_) (fun cdv A outer s H vs Q E hr h => ?_)
  · obtain ⟨a, ns, w', h', pk, us, ps, rfl, _⟩ := h; rfl
  · obtain ⟨a, ns, w', h', pk, us, ps, rfl, hD, hK, hC, ⟨w0, w1, h0, h1⟩, hQ⟩ := h
    have nd := sc_bof.nd
    have g9 := gr9
    refine ⟨_, pss_cons (ps_set (i := 5) nd rfl (Or.inl rfl) (pe_op op_mod (pe_callTy call_int1 (by rfl) T.int hb_int (pa_cons (pe_cal CG hr (pa_cons (pv 0) (pa_cons (pv 1) pa_nil))) pa_nil)) (pe_op op_add (pv 2) pe_int)))
      (pss_cons (ps_set (i := 6) nd rfl (Or.inl rfl) (pe_op op_mod (pe_callTy call_int1 (by rfl) T.int hb_int (pa_cons (pe_cal CG hr (pa_cons (pv 0) (pa_cons (pe_op op_add (pv 1) pe_int) pa_nil))) pa_nil)) (pe_op op_add (pv 3) pe_int)))
      (pss_cons (ps_asg (pe_ix ix_list (pe_cal0 CD hr) (pe_op op_mod (pe_callTy call_int1 (by rfl) T.int hb_int (pa_cons (pe_ix ix_list (pv 0) (pe_op op_add (pv 1) pe_int) (fun _ _ => rfl)) pa_nil)) pe_int) (fun _ _ => rfl)) (pg_tup (by rfl) (pgs_cons (pg_name (i := 7) nd rfl (Or.inl rfl)) (pgs_cons (pg_name (i := 8) nd rfl (Or.inl rfl)) pgs_nil))))
      (pss_cons (ps_if (PW.pt (pw_and (pt_cmpR op_eq (pe_op op_mod (pe_callTy call_int1 (by rfl) T.int hb_int (pa_cons (pe_ix ix_list (pv 0) (pe_op op_add (pv 1) pe_int) (fun _ _ => rfl)) pa_nil)) pe_int) pe_int (nomark _)) (pw_and1 (pt_cmpR op_gt (pe_callB call_len_seq (by rfl) T.len hb_len (pa_cons (pv 4) pa_nil)) pe_int (nomark _)))))
        (pss_cons (ps_set (i := 9) nd rfl (Or.inl rfl) (pe_cal CG hr (pa_cons (pv 0) (pa_cons (pe_op op_add (pv 1) pe_int) pa_nil))))
        (pss_cons (ps_if (pt_cmpR op_eq (pe_op op_mod (pe_callTy call_int1 (by rfl) T.int hb_int (pa_cons (pe_ix ix_list (pv 0) (pe_op op_add (pv 1) pe_int) (fun _ _ => rfl)) pa_nil)) pe_int) pe_int (nomark _)) (pss_one (ps_set (i := 9) nd rfl (Or.inl rfl) pe_int)) pss_nil)
        (pss_cons (ps_set (i := 5) nd rfl (Or.inl rfl) (pe_cal CF hr (pa_cons (pv 2) (pa_cons (pe_op op_sub (pe_ix ix_tup (pe_ix ix_tup (pv 4) pe_int (fun _ _ => rfl)) pe_int (fun _ _ => rfl)) (pe_op op_mul (pv 7) (pv 9))) pa_nil))))
        (pss_one (ps_set (i := 6) nd rfl (Or.inl rfl) (pe_cal CF hr (pa_cons (pv 3) (pa_cons (pe_op op_sub (pe_ix ix_tup (pe_ix ix_tup (pv 4) pe_int (fun _ _ => rfl)) pe_int (fun _ _ => rfl)) (pe_op op_mul (pv 8) (pv 9))) pa_nil)))))))) pss_nil)
      (pss_one (ps_ret (pe_tup (pa_cons pe_str (pa_cons (pv 5) (pa_cons (pv 6) (pa_cons (pv 7) (pa_cons (pv 8) (pa_cons (pe_op op_mul (pe_cal CG hr (pa_cons (pv 0) (pa_cons (pe_op op_add (pv 1) pe_int) pa_nil))) (pe_op op_mod (pe_callTy call_int1 (by rfl) T.int hb_int (pa_cons (pe_ix ix_list (pv 0) (pe_op op_add (pv 1) pe_int) (fun _ _ => rfl)) pa_nil)) pe_int)) pa_nil)))))))))))), ?_⟩
    refine ⟨_, rfl, _, rfl, a, 90, ns, rfl, hD.at_, ⟨hD.len, hD.dig, by decide, by decide⟩, fun x1 x10 x11 => .inl ⟨_, rfl, _, rfl, _, _, rfl, rfl, _, _, rfl, rfl, (by show 0 < w' + 1; omega), ?_⟩⟩
    refine ⟨_, rfl, _, rfl, _, _, rfl, rfl, a, 90 + 10, ns, rfl, hD.at_, ⟨hD.len, hD.dig, by decide, by decide⟩, fun y1 y10 y11 => .inl ⟨_, rfl, _, rfl, _, _, rfl, rfl, _, _, rfl, rfl, (by show 0 < h' + 1; omega), ?_⟩⟩
    have hx0 : 0 ≤ x1 % (w' + 1) := Int.emod_nonneg _ (by omega)
    have hx1 : x1 % (w' + 1) < w' + 1 := Int.emod_lt_of_pos _ (by omega)
    have hy0 : 0 ≤ y1 % (h' + 1) := Int.emod_nonneg _ (by omega)
    have hy1 : y1 % (h' + 1) < h' + 1 := Int.emod_lt_of_pos _ (by omega)
    obtain ⟨x, ex⟩ : ∃ z, z = x1 % (w' + 1) := ⟨_, rfl⟩
    obtain ⟨y, ey⟩ : ∃ z, z = y1 % (h' + 1) := ⟨_, rfl⟩
    rw [← ex] at hx0 hx1
    rw [← ey] at hy0 hy1
    refine ⟨rfl, fun H1 dv s1 hdv => ?_⟩
    obtain ⟨dl, dvs, rfl, hdl, cdl⟩ := hdv
    have hD1 := hD.same s1
    obtain ⟨n20, e20, b20, _⟩ := hD1.get (i := 90 + 20) (by decide) (by decide)
    obtain ⟨k, hk⟩ : ∃ k : Nat, n20 % 8 = (k : Int) := ⟨(n20 % 8).toNat, by omega⟩
    have hk8 : k < dvs.length := by
      have e : dvs.length = 8 := cdl.length
      omega
    obtain ⟨c, hc, t, et, ht⟩ := cdl.get (List.getElem?_eq_getElem hk8)
    obtain ⟨d1, d2, dne⟩ := dirs_ok c (List.mem_of_getElem? hc)
    refine ⟨_, rfl, _, rfl, _, _, rfl, rfl, a, _, _, _, rfl, rfl, .of hD1.at_, e20, .inl ⟨_, rfl, _, _, rfl, rfl, (by show (0 : Int) < 8; decide), dl, _, _, dvs[k], rfl, rfl, .of hdl, ?_, ?_⟩⟩
    · show atI dvs (n20 % 8) = _
      rw [hk]
      exact atI_nat (List.getElem?_eq_getElem hk8)
    refine ⟨t, _, et, ht, rfl, _, _, rfl, _, _, rfl, rfl, ?_⟩
    obtain ⟨n21, e21, b21, _⟩ := hD1.get (i := 90 + 21) (by decide) (by decide)
    have l1 := hC.length
    have hK1 := same_tup s1 hK
    have hC1 := hC.mono (Tps.same s1)
    have dl1 : -(2 ^ 64) < c.1 ∧ c.1 < 2 ^ 64 := by unfold Dir at d1; omega
    have dl2 : -(2 ^ 64) < c.2 ∧ c.2 < 2 ^ 64 := by unfold Dir at d2; omega
    refine ⟨_, rfl, _, rfl, _, _, rfl, rfl, a, _, _, _, rfl, rfl, .of hD1.at_, e21, .inl ⟨_, rfl, _, _, rfl, rfl, (by show (0 : Int) < 2; decide), rfl, _, rfl, ?_⟩⟩
    refine join_and (fun σ' H2 => ∃ (x y : Int) (o : Option V), σ' = [some (.ref a), some (.int 90), some (.int w'), some (.int h'), some (.ref pk), some (.int x), some (.int y), some (.int c.1), some (.int c.2), o] ∧ Same H1 H2 ∧ 0 ≤ x ∧ x ≤ w' ∧ 0 ≤ y ∧ y ≤ h')
      (fun _ => ⟨decide ((0 : Int) < (us.length : Int)), fun Q' hq' => ⟨_, rfl, pk, _, rfl, .inr hK1, _, _, rfl, rfl, _, rfl, hq'⟩, fun hb N hN => ?_⟩) ⟨x, y, none, by rw [ex, ey]; rfl, Same.refl _, hx0, by omega, hy0, by omega⟩ ?_
    · have hpos : (0 : Int) < (us.length : Int) := of_decide_eq_true hb
      have hu0 : 0 < us.length := by omega
      obtain ⟨p, hp, q, eq, hq⟩ := hC1.get (List.getElem?_eq_getElem hu0)
      have at0 : atI us 0 = some (.ref q) := by
        have := atI_nat (List.getElem?_eq_getElem hu0)
        rw [eq] at this
        exact this
      refine ⟨_, rfl, _, rfl, _, _, rfl, rfl, a, 90 + 22, ns, rfl, hD1.at_, ⟨hD.len, hD.dig, by decide, by decide⟩, fun bk _ _ => ?_⟩
      obtain ⟨n43, e43, _, _⟩ := hD1.get (i := 90 + 43) (by decide) (by decide)
      refine ⟨_, rfl, _, rfl, _, _, rfl, rfl, a, _, _, _, rfl, rfl, .of hD1.at_, e43, .inl ⟨_, rfl, _, _, rfl, rfl, (by show (0 : Int) < 4; decide), rfl, _, rfl, ?_⟩⟩
      refine join_nx (fun σ' H2 => ∃ (bk : Int), σ' = [some (.ref a), some (.int 90), some (.int w'), some (.int h'), some (.ref pk), some (.int x), some (.int y), some (.int c.1), some (.int c.2), some (.int bk)] ∧ H2 = H1) (fun _ N' hN' => hN' _ _ ⟨0, by rw [ex, ey]; rfl, rfl⟩) ⟨bk, by rw [ex, ey]; rfl, rfl⟩ ?_
      rintro σ' H2 ⟨bk, rfl, rfl⟩
      refine ⟨_, rfl, _, rfl, pk, _, _, _, rfl, rfl, hK1, at0, q, _, _, _, rfl, rfl, hq, rfl, _, rfl, _, rfl, _, _, rfl, rfl, .inl dl1, _, _, rfl, rfl, w', _, rfl, w0, ?_⟩
      refine ⟨_, rfl, _, rfl, pk, _, _, _, rfl, rfl, hK1, at0, q, _, _, _, rfl, rfl, hq, rfl, _, rfl, _, rfl, _, _, rfl, rfl, .inl dl2, _, _, rfl, rfl, h', _, rfl, h0, ?_⟩
      have r1 := foldZ_range (n := p.1 - c.1 * bk) w0
      have r2 := foldZ_range (n := p.2 - c.2 * bk) h0
      exact hN _ _ ⟨_, _, _, rfl, Same.refl _, r1.1, r1.2, r2.1, r2.2⟩
    · rintro σ' H2 ⟨x, y, o, rfl, s2, hx0, hx1, hy0, hy1⟩
      have hD2 := hD1.same s2
      obtain ⟨n42, e42, _, _⟩ := hD2.get (i := 90 + 42) (by decide) (by decide)
      have hm : 0 ≤ n42 % 2 ∧ n42 % 2 < 2 := by omega
      refine ⟨_, rfl, _, rfl, _, rfl, _, rfl, _, rfl, _, rfl, _, _, rfl, rfl, a, 90 + 32, ns, rfl, hD2.at_, ⟨hD.len, hD.dig, by decide, by decide⟩, fun mv m0 m1 => ?_⟩
      refine ⟨_, rfl, _, rfl, _, _, rfl, rfl, a, _, _, _, rfl, rfl, .of hD2.at_, e42, .inl ⟨_, rfl, _, _, rfl, rfl, (by show (0 : Int) < 2; decide), ?_⟩⟩
      refine ⟨_, _, rfl, rfl, .inr ⟨by omega, by omega⟩, (by show 6 ≤ sizeLine; decide), fun b hb => ?_⟩
      have hm2 : n42 % 2 = 0 ∨ n42 % 2 = 1 := by omega
      have hM : 0 ≤ mv * (n42 % 2) ∧ mv * (n42 % 2) ≤ 1000000000000000000000000000000 := by
        rcases hm2 with e | e
        · rw [e, Int.mul_zero]; decide
        · rw [e, Int.mul_one]; omega
      exact hQ _ b x y c.1 c.2 (mv * (n42 % 2)) ((s1.trans s2).trans (same_new hb)) upd_same ⟨w0, w1, h0, h1, hx0, hx1, hy0, hy1, d1, d2, dne, hM.1, hM.2⟩
end
end K34
end
section
set_option Elab.async false
set_option linter.all false
set_option maxRecDepth 100000
set_option maxHeartbeats 5000000
namespace K34
open PySem PySem.Spec PyProof.Rows L2
/-! ### what is picked -/
theorem pick_some {F : Int × Int → Option Int} {M : Int} : ∀ {ps : List (Int × Int)} {z : Int × Int × Int}, pick F M ps = some z → ∃ p ∈ ps, ∃ t, F p = some t ∧ z = (M + t, p) := by
  intro ps
  have gen : ∀ (ps : List (Int × Int)) (acc : Option (Int × Int × Int)) (z : Int × Int × Int), ps.foldl (fun acc p => better M acc p (F p)) acc = some z → acc = some z ∨ ∃ p ∈ ps, ∃ t, F p = some t ∧ z = (M + t, p) := by
    intro ps
    induction ps with
    | nil => intro acc z h; exact .inl h
    | cons p ps ih =>
      intro acc z h
      rw [List.foldl_cons] at h
      rcases ih _ z h with q | ⟨p', hp', t, e1, e2⟩
      · cases hF : F p with
        | none =>
          rw [hF] at q
          exact .inl q
        | some t =>
          rw [hF] at q
          cases acc with
          | none =>
            exact .inr ⟨p, List.mem_cons_self, t, hF, (Option.some.inj q).symm⟩
          | some y =>
            have q' : (if M + t < y.1 then some (M + t, p) else some y) = some z := q
            by_cases hlt : M + t < y.1
            · rw [if_pos hlt] at q'
              exact .inr ⟨p, List.mem_cons_self, t, hF, (Option.some.inj q').symm⟩
            · rw [if_neg hlt] at q'
              exact .inl q'
      · exact .inr ⟨p', List.mem_cons_of_mem _ hp', t, e1, e2⟩
  intro z h
  rcases gen ps none z h with q | q
  · cases q
  · exact q
/-! ### what is shown -/
def oD (z : Int × Int × Int) : PyData := .tuple [.int z.1, pD z.2]
theorem OD.dp {K : PySem.W.Frag} {H : Hp} {v : V} {z : Int × Int × Int} (h : OD K H v (some z)) : Dp K H v (oD z) := by
  obtain ⟨a, u, rfl, s, t⟩ := h
  exact .tup s (.cons (.int _) (.cons t.dp .nil))
theorem txt_len {i : Int} (h : i.natAbs < 2 ^ 300) : ((toString i : String) : Str).length ≤ 301 := by
  rw [PySem.ofString_length]
  exact int_text_length_le (by decide) (PySem.Flt.log2_lt_of (by decide) h)
theorem tup_len (s t : Str) : (tupleText [s, t]).length ≤ s.length + t.length + 6 := by
  unfold tupleText
  have e0 : ((("(" : String) : Str)).length = 1 := rfl
  rw [strLen_append]
  rw [strLen_append]
  have e2 := join_length_add [s, t] (by simp)
  have e3 : piled [s, t] = s.length + t.length + 4 := by simp [piled]; omega
  have e4 : (((if ([s, t] : List Str).length == 1 then ",)" else ")" : String) : Str)).length ≤ 2 := by split <;> decide
  omega
structure Shows (d : PyData) : Prop where
  disp : isDisplay d = true
  sh : d.showable = true
  nd : d.hasDict = false
  dep : d.depth ≤ 60
  sz : d.shown.length ≤ sizeLine
theorem oD_shows {z : Int × Int × Int} (h1 : z.1.natAbs < 2 ^ 300) (h2 : z.2.1.natAbs < 2 ^ 300) (h3 : z.2.2.natAbs < 2 ^ 300) : Shows (oD z) := by
  have lg : ∀ i : Int, i.natAbs < 2 ^ 300 → i.natAbs.log2 < 1920 := fun i hi => Nat.lt_trans (PySem.Flt.log2_lt_of (by decide) hi) (by decide)
  refine ⟨rfl, ?_, ?_, ?_, ?_⟩
  · simp [oD, pD, PyData.showable, PyData.showableAll, lg _ h1, lg _ h2, lg _ h3]
  · simp [oD, pD, PyData.hasDict, PyData.hasDictAll]
  · simp [oD, pD, PyData.depth, PyData.depthAll]
  · have e : (oD z).shown = tupleText [((toString z.1 : String) : Str), tupleText [((toString z.2.1 : String) : Str), ((toString z.2.2 : String) : Str)]] := by simp [oD, pD, PyData.shown, PyData.shownAll]
    rw [e]
    have a := tup_len ((toString z.1 : String) : Str) (tupleText [((toString z.2.1 : String) : Str), ((toString z.2.2 : String) : Str)])
    have b := tup_len ((toString z.2.1 : String) : Str) ((toString z.2.2 : String) : Str)
    have c1 := txt_len h1
    have c2 := txt_len h2
    have c3 := txt_len h3
    have c4 := sizeLine_eq
    omega
/-! ### a def at one place of calling -/
/-- how a body of a def that tells nothing of exceptions ends: the call's end -/
theorem body_end {P : Program} {w : World} {K : PySem.W.Frag} {mg : Str → Option Value} {base : Heap} {q : Str} {sc : Scope} {f : Addr} {cdv : Value} {N : List Str} {A : Around} {outer : List Env} {s t : Shared} {H H' : Hp} {Q : VK} {E : XK} {σ : L2.St} {v : V} {u : Value}
    (J : Inv (cxOf CX0 P w K mg base N q sc f cdv A outer s H E) [] σ H' t) (rel : RelV v u) (said : Q v H') : CR CX0 outer P w H s Q E (.ok (.ret u)) t :=
  show CE outer P w H s Q u t from ⟨v, H', J.os, J.bare, J.base, J.hok, rel, said⟩
theorem fn_at {P : Program} {w : World} {K : PySem.W.Frag} {mg : Str → Option Value} {base : Heap} {x q : Str} {st : Stmt} {f : Addr} {fd : FuncData} {N ps : List Str} {k : Nat} {A : Around} {outer : List Env} {s : Shared} {H : Hp} {args : Args} {us : List Value} {vs : List V} {Q : VK} {E : XK}
    (F : FnP K x q st f fd) (S : FnScope N ps (defScope st)) (hr : Room (k + 1) A) (e0 : Env0 P w K mg base A outer s H) (hb : BindsTo s fd args (ps.zip us)) (r : Vals vs us) (hl : vs.length = ps.length)
    (hbody : ∀ cdv : Value, Room k (A.deeper (envOfC q (defScope st) s.heap.objs.size f cdv)) → ∃ t, PSs (cxOf CX0 P w K mg base N q (defScope st) f cdv A outer s H E).nox (defBody st) t ∧ t { nx := fun _ H' => Q .non H', rt := Q } (start N vs) H) :
    codeAny (model P w) A (.call (.ref f) args) (CR CX0 outer P w H s Q E) s := by
  have still : ∀ b o, base.get? b = some o → s.heap.get? b = some o := fun b o had => (e0.bs b o had).1
  rcases F.ex with ⟨_, _, _, _, _, _, _, cdv, _, _, rfl, at_f, code_f, _⟩
  refine Att.call_fn (e0.mod.kin.keeps still) (e0.mod.nolimit.keeps still) at_f code_f hr.depth hb ?_ (fun s1 entered => ?_) S.co S.gen S.kind
  · refine List.all_eq_true.mpr fun y hy => ?_
    have par := S.par y.1 (List.of_mem_zip (a := y.1) (b := y.2) hy).1
    cases par with
    | inl loc => rw [loc]; rfl
    | inr cel => rw [cel]; rfl
  · obtain ⟨T, runs, goal⟩ := hbody cdv (hr.deeper _)
    have started := inv_start (CX := CX0) (E := E) S hr.hd e0 hl r entered
    refine wpAny_mono (runs.nox.run [] s1 (start N vs) H _ started goal) (fun fl t ended => ?_) fun _ _ z => z
    rcases fl with _ | _ | _ | u
    · obtain ⟨σ, H', J, said⟩ := ended
      exact body_end (v := .non) J rfl said
    · exact absurd ended fun ⟨_, _, _, z⟩ => z
    · exact absurd ended fun ⟨_, _, _, z⟩ => z
    · obtain ⟨v, σ, H', J, rel, said⟩ := ended
      exact body_end J rel said
end K34
end
section
set_option Elab.async false
set_option linter.all false
set_option maxRecDepth 100000
set_option maxHeartbeats 8000000
namespace K34
open PySem PySem.Spec PyProof.Rows L2
section
variable {P : Program} {w : World} {K : PySem.W.Frag} {mg : Str → Option Value} {base : Heap} {f : Addr} {fd : FuncData}
theorem sc_law : FnScope ["_law_script", "_law_numbers_here", "_law_width", "_law_height", "_law_pockets", "_law_ball", "_law_expected", "_law_pocket", "_law_minute", "_law_table", "_law_passed", "_law_place"] ["_law_script"] (defScope s_law) := ⟨rfl, rfl, rfl, by decide +kernel, rfl, by decide +kernel, by decide +kernel⟩
theorem run_law {C fN fT fB fF fI fA fL fP : Addr} {fdN fdT fdB fdF fdI fdA fdL fdP : FuncData} (F : FnP K "law" "law" s_law f fd) (T : Top K mg)
    (CN : Cal P w K mg base "_law_numbers" ["_law_script", "_law_many"] 2 (spNumbers K) fN fdN) (CT : Cal P w K mg base "_law_great_table" ["_law_numbers_here", "_law_at"] 2 (spGreatTable K) fT fdT)
    (CB : Cal P w K mg base "_law_ball_of" ["_law_numbers_here", "_law_at", "_law_width", "_law_height", "_law_pockets"] 2 (spBallOf K) fB fdB)
    (CF : Cal P w K mg base "_law_first_at" ["_law_width", "_law_height", "_law_ball", "_law_point"] 3 (spFirstAt K) fF fdF)
    (gI : mg "Table" = some (.ref C)) (MK : Mk K C fI) (bI : Binds K fdI ["self", "width", "height", "pockets"] []) (GI : FnOk P w K mg base CX0 2 fI fdI ["self", "width", "height", "pockets"] (spTableInit K C))
    (CA : Cal P w K mg base "fall_of" ["table", "ball"] 5 (spFallOf K C) fA fdA) (CL : Cal P w K mg base "_law_fold" ["_law_size", "_law_number"] 1 spFold fL fdL) (CP : Cal P w K mg base "place_at" ["table", "ball", "minute"] 4 (spPlaceAt K C) fP fdP)
    {A : Around} {s : Shared} {H : Hp} {args : Args} {us : List Value} {a : Addr} {ns : List Int} (hA : A.guards = some []) (hr : Room 6 A) (e0 : Env0 P w K mg base A [] s H) (hb : BindsTo s fd args ((["_law_script"] : List Str).zip us)) (r : Vals [.ref a] us)
    (hS : SqL K H a (ns.map V.int)) (hlen : ns.length ≤ 63) : codeAny (model P w) A (.call (.ref f) args) (CR CX0 [] P w H s (fun v _ => v = .bl true) E0) s := by
  refine fn_at F sc_law hr e0 hb r rfl fun cdv hr => ?_
  have nd := sc_law.nd
  have hg : (A.deeper (envOfC "law" (defScope s_law) s.heap.objs.size f cdv)).guards = some [] := hA
  have hu := hu65' hr
  have hu64 := Nat.lt_of_succ_lt hu
  have hr1 : Room 1 (A.deeper (envOfC "law" (defScope s_law) s.heap.objs.size f cdv)) := hr.mono (by decide)
  have hr2 : Room 2 (A.deeper (envOfC "law" (defScope s_law) s.heap.objs.size f cdv)) := hr.mono (by decide)
  have hr3 : Room 3 (A.deeper (envOfC "law" (defScope s_law) s.heap.objs.size f cdv)) := hr.mono (by decide)
  have hr4 : Room 4 (A.deeper (envOfC "law" (defScope s_law) s.heap.objs.size f cdv)) := hr.mono (by decide)
  refine ⟨_, pss_cons (ps_set (i := 1) nd rfl (Or.inl rfl) (pe_cal CN hr2 (pa_cons (pv 0) (pa_cons pe_int pa_nil))))
    (pss_cons (ps_asg (pe_cal CT hr2 (pa_cons (pv 1) (pa_cons pe_int pa_nil))) (pg_tup (by rfl) (pgs_cons (pg_name (i := 2) nd rfl (Or.inl rfl)) (pgs_cons (pg_name (i := 3) nd rfl (Or.inl rfl)) (pgs_cons (pg_name (i := 4) nd rfl (Or.inl rfl)) pgs_nil)))))
    (pss_cons (ps_set (i := 5) nd rfl (Or.inl rfl) (pe_cal CB hr2 (pa_cons (pv 1) (pa_cons pe_int (pa_cons (pv 2) (pa_cons (pv 3) (pa_cons (pv 4) pa_nil)))))))
    (pss_cons (ps_set (i := 6) nd rfl (Or.inl rfl) pe_non)
    (pss_cons (ps_for PassesOwn.never rfl (pi_tup (pv 4)) (pg_name (i := 7) nd rfl (Or.inl rfl))
      (pss_cons (ps_set (i := 8) nd rfl (Or.inl rfl) (pe_cal CF hr3 (pa_cons (pv 2) (pa_cons (pv 3) (pa_cons (pv 5) (pa_cons (pv 7) pa_nil))))))
      (pss_one (ps_if (PW.pt (pw_and (pt_cmpR op_notN (pv 8) pe_non (nomark _)) (pw_and1 (PW.pt (pw_or (pt_cmpR op_isN (pv 6) pe_non (nomark _)) (pw_or1 (pt_cmpR op_lt (pv 8) (pe_ix ix_tup (pv 6) pe_int (fun _ _ => rfl)) (nomark _))))))))
        (pss_one (ps_set (i := 6) nd rfl (Or.inl rfl) (pe_tup (pa_cons (pv 8) (pa_cons (pv 7) pa_nil))))) pss_nil))))
    (pss_cons (ps_set (i := 9) nd rfl (Or.inl rfl) (pe_make MK GI hr3 (by rfl) gI bI .nil pass0 (pa_cons (pv 2) (pa_cons (pv 3) (pa_cons (pv 4) pa_nil)))))
    (pss_cons (ps_if (pt_cmpR op_ne (pe_callB (call_reprT hg hu) (by rfl) T.repr hb_repr (pa_cons (pe_cal CA hr (pa_cons (pv 9) (pa_cons (pv 5) pa_nil))) pa_nil)) (pe_callB (call_reprT hg hu) (by rfl) T.repr hb_repr (pa_cons (pv 6) pa_nil)) (nomark _)) (pss_one (ps_ret pe_bl)) pss_nil)
    (pss_cons (ps_if (pt_cmpR op_isN (pv 6) pe_non (nomark _)) (pss_one (ps_ret pe_bl)) pss_nil)
    (pss_cons (ps_set (i := 10) nd rfl (Or.inl rfl) (pe_op op_sub (pe_ix ix_tup (pv 6) pe_int (fun _ _ => rfl)) (pe_ix ix_tup (pv 5) pe_int (fun _ _ => rfl))))
    (pss_cons (ps_set (i := 11) nd rfl (Or.inl rfl) (pe_tup (pa_cons (pe_cal CL hr1 (pa_cons (pv 2) (pa_cons (pe_op op_add (pe_ix ix_tup (pv 5) pe_int (fun _ _ => rfl)) (pe_op op_mul (pe_ix ix_tup (pv 5) pe_int (fun _ _ => rfl)) (pv 10))) pa_nil)))
      (pa_cons (pe_cal CL hr1 (pa_cons (pv 3) (pa_cons (pe_op op_add (pe_ix ix_tup (pv 5) pe_int (fun _ _ => rfl)) (pe_op op_mul (pe_ix ix_tup (pv 5) pe_int (fun _ _ => rfl)) (pv 10))) pa_nil))) pa_nil))))
    (pss_one (ps_ret (pe_and (pe_cmpR (op_eqD hu64) (pv 11) (pe_ix ix_tup (pv 6) pe_int (fun _ _ => rfl)) (nomark _))
      (pe_one (pe_cmpR (op_eqD hu64) (pe_cal CP hr4 (pa_cons (pv 9) (pa_cons (pv 5) (pa_cons (pe_ix ix_tup (pv 6) pe_int (fun _ _ => rfl)) pa_nil)))) (pe_ix ix_tup (pv 6) pe_int (fun _ _ => rfl)) (nomark _))))))))))))))), ?_⟩
  refine ⟨_, rfl, a, ns, rfl, hS, hlen, fun H1 p ms s1 hp hml hmd => ?_⟩
  have hD : Digs H1 p ms := ⟨hp, hml, hmd⟩
  refine ⟨_, rfl, p, ms, rfl, hD, fun H2 q pk us' ps W G s2 hq hpk hcs ⟨w0, w1, h0, h1, hpl, hpn, hpi⟩ => ?_⟩
  refine ⟨q, _, rfl, .of hq, rfl, _, _, rfl, _, _, rfl, _, _, rfl, rfl, ?_⟩
  refine ⟨_, rfl, _, rfl, _, rfl, _, rfl, p, ms, W, G, pk, us', ps, rfl, hD.same s2, .of hpk, hcs, ⟨w0, w1, h0, h1⟩, fun H3 b x y dx dy M s3 hb3 S => ?_⟩
  have hpk3 := s3 _ _ hpk
  have hcs3 := hcs.mono (Tps.same s3)
  refine ⟨_, rfl, pk, rfl, ⟨_, .of hpk3⟩, for_tup (K := K) (a := pk) (xs := us') (fun i σ H' => ∃ (r : V) (o1 o2 : Option V), σ = [some (.ref a), some (.ref p), some (.int W), some (.int G), some (.ref pk), some (.ref b), some r, o1, o2, none, none, none] ∧ Same H3 H' ∧ OD K H' r (fallOf W G x y dx dy M (ps.take i)))
    ⟨.non, none, none, rfl, Same.refl _, rfl⟩ (fun i σ H' _ ⟨_, _, _, _, s, _⟩ => .of (s _ _ hpk3)) ?_ ?_⟩
  · rintro i u σ H4 hi ⟨r', o1, o2, rfl, s4, hod⟩
    obtain ⟨c, hc, tc⟩ := hcs3.get hi
    have tc4 := tc.mono (Tps.same s4)
    refine ⟨_, rfl, _, rfl, _, rfl, _, rfl, b, u, W, G, x, y, dx, dy, M, c, rfl, .of (s4 _ _ hb3), S, tc4, hpi c (List.mem_of_getElem? hc), fun H5 s5 => ?_⟩
    have s45 := s4.trans s5
    have hod5 := hod.mono (Tps.same s5)
    have tc5 := tc4.mono (Tps.same s5)
    have step : fallOf W G x y dx dy M (ps.take (i + 1)) = better M (fallOf W G x y dx dy M (ps.take i)) c (firstT W G x y dx dy c) := by
      unfold fallOf
      rw [pick_take hc]
    cases hf : firstT W G x y dx dy c with
    | none =>
      rw [hf] at step
      refine ⟨_, rfl, rfl, _, rfl, ifF (by simp [oV]) ?_⟩
      exact ⟨r', _, _, rfl, s45, by rw [step]; exact hod5⟩
    | some t' =>
      rw [hf] at step
      refine ⟨_, rfl, rfl, _, rfl, ifT (by simp [oV]) ?_⟩
      cases hfo : fallOf W G x y dx dy M (ps.take i) with
      | none =>
        rw [hfo] at hod5 step
        obtain rfl : r' = .non := hod5
        refine ⟨_, rfl, rfl, _, rfl, ifT (by decide) ?_⟩
        refine ⟨_, rfl, _, rfl, (by show 2 ≤ sizeLine; decide), fun e he => ?_⟩
        refine ⟨_, _, _, rfl, same_add s45 he, ?_⟩
        rw [step]
        exact ⟨e, u, rfl, .of upd_same, tc5.mono (Tps.new he)⟩
      | some z =>
        rw [hfo] at hod5 step
        obtain ⟨e0', u0, rfl, hz, tz⟩ := hod5
        refine ⟨_, rfl, rfl, _, rfl, ifF (by simp) ?_⟩
        refine ⟨_, rfl, _, rfl, e0', _, _, _, rfl, rfl, hz, rfl, _, _, rfl, rfl, _, rfl, ?_⟩
        by_cases hlt : M + t' < z.1
        · refine ifT (decide_eq_true hlt) ?_
          refine ⟨_, rfl, _, rfl, (by show 2 ≤ sizeLine; decide), fun e he => ?_⟩
          refine ⟨_, _, _, rfl, same_add s45 he, ?_⟩
          rw [step]
          show OD K _ _ (if M + t' < z.1 then some (M + t', c) else some z)
          rw [if_pos hlt]
          exact ⟨e, u, rfl, .of upd_same, tc5.mono (Tps.new he)⟩
        · refine ifF (decide_eq_false hlt) ?_
          refine ⟨_, _, _, rfl, s45, ?_⟩
          rw [step]
          show OD K _ _ (if M + t' < z.1 then some (M + t', c) else some z)
          rw [if_neg hlt]
          exact ⟨e0', u0, rfl, hz, tz⟩
  · rintro σ H4 ⟨r', o1, o2, rfl, s4, hod⟩
    rw [hcs3.length, List.take_length] at hod
    have hpk4 := s4 _ _ hpk3
    have hcs4 := hcs3.mono (Tps.same s4)
    have hb4 := s4 _ _ hb3
    refine ⟨_, rfl, _, rfl, _, rfl, ?_⟩
    intro xx dd hxx hdd hne
    have sm : Same H4 (upd (upd H4 dd (.own xx)) xx (.ins C dd [])) := fun b' o e => by
      rw [upd_ne (ne_of_none e hxx), upd_ne (ne_of_none e hdd)]; exact e
    refine ⟨xx, dd, W, G, pk, us', ps, rfl, upd_same, .of (sm _ _ hpk4), hcs4.mono (Tps.same sm), ⟨w0, w1, h0, h1, hpl, hpn, hpi⟩, fun H5 pk' sx5 hx5 hk5 => ⟨rfl, ?_⟩⟩
    have s5 : Same H4 H5 := same_made hxx hdd sx5
    have hTab : Tab H5 C xx W G pk' := ⟨dd, hx5⟩
    have hb5 := s5 _ _ hb4
    refine ⟨_, rfl, _, rfl, xx, b, W, G, x, y, dx, dy, M, pk', us', ps, rfl, hTab, .of hb5, S, hk5, hcs4.mono (Tps.same s5), hpi, fun H6 r6 s6 hod6 => ?_⟩
    have hod' := hod.mono (Tps.same (s5.trans s6))
    cases hfo : fallOf W G x y dx dy M ps with
    | none =>
      rw [hfo] at hod6 hod'
      obtain rfl : r6 = .non := hod6
      obtain rfl : r' = .non := hod'
      refine .inl ⟨rfl, _, rfl, .inl ⟨rfl, rfl, _, rfl, ?_⟩⟩
      refine ifF (by simp) ?_
      refine ⟨_, rfl, rfl, _, rfl, ifT (by decide) ?_⟩
      exact rfl
    | some z =>
      rw [hfo] at hod6 hod'
      obtain ⟨c, hc, t, hF, rfl⟩ := pick_some hfo
      obtain ⟨_, _, hfst⟩ := first_ok S (hpi c hc)
      obtain ⟨t0, t1, hAt⟩ := hfst t hF
      have hI := hpi c hc
      have m0 := S.m0
      have m1 := S.m1
      obtain ⟨i1, i2, i3, i4⟩ := hI
      have sh : Shows (oD (M + t, c)) := oD_shows (by show (M + t).natAbs < 2 ^ 300; omega) (by show c.1.natAbs < 2 ^ 300; omega) (by show c.2.natAbs < 2 ^ 300; omega)
      refine .inr ⟨_, _, rfl, ⟨sh.disp, hod6.dp, sh.sh, sh.nd, sh.dep, sh.sz⟩, ?_⟩
      refine ⟨_, rfl, .inr ⟨_, _, rfl, ⟨sh.disp, hod'.dp, sh.sh, sh.nd, sh.dep, sh.sz⟩, rfl, _, rfl, ?_⟩⟩
      refine ifF (by simp) ?_
      obtain ⟨e, u, rfl, he, hu'⟩ := hod'
      refine ⟨_, rfl, rfl, _, rfl, ifF (by simp) ?_⟩
      have hb6 := s6 _ _ hb5
      refine ⟨_, rfl, e, _, _, _, rfl, rfl, he, rfl, _, rfl, b, _, _, _, rfl, rfl, .of hb6, rfl, _, _, rfl, rfl, ?_⟩
      have dl1 : -(2 ^ 64) < dx ∧ dx < 2 ^ 64 := by have := S.ddx; unfold Dir at this; omega
      have dl2 : -(2 ^ 64) < dy ∧ dy < 2 ^ 64 := by have := S.ddy; unfold Dir at this; omega
      have et : M + t - M = t := by omega
      refine ⟨_, rfl, _, rfl, b, _, _, _, rfl, rfl, .of hb6, rfl, _, rfl, b, _, _, _, rfl, rfl, .of hb6, rfl, _, rfl, _, _, rfl, rfl, .inl dl1, _, _, rfl, rfl, W, _, rfl, w0, ?_⟩
      refine ⟨_, rfl, _, rfl, b, _, _, _, rfl, rfl, .of hb6, rfl, _, rfl, b, _, _, _, rfl, rfl, .of hb6, rfl, _, rfl, _, _, rfl, rfl, .inl dl2, _, _, rfl, rfl, G, _, rfl, h0, ?_⟩
      refine ⟨(by show 2 ≤ sizeLine; decide), fun v hv => ?_⟩
      have f1 : foldZ W (x + dx * (M + t - M)) = c.1 := by rw [et]; exact hAt.1
      have f2 : foldZ G (y + dy * (M + t - M)) = c.2 := by rw [et]; exact hAt.2
      have s7 : Same H6 (upd H6 v (.tup [.int (foldZ W (x + dx * (M + t - M))), .int (foldZ G (y + dy * (M + t - M)))])) := same_new hv
      have he7 := same_tup s7 he
      have hu7 := hu'.mono (Tps.same s7)
      have tv : T2 K (upd H6 v (.tup [.int (foldZ W (x + dx * (M + t - M))), .int (foldZ G (y + dy * (M + t - M)))])) (.ref v) c := by
        have z := T2.new (K := K) (H := H6) (p := v) (i := foldZ W (x + dx * (M + t - M))) (j := foldZ G (y + dy * (M + t - M)))
        rw [show ((foldZ W (x + dx * (M + t - M)), foldZ G (y + dy * (M + t - M))) : Int × Int) = c from Prod.ext f1 f2] at z
        exact z
      refine ⟨_, rfl, _, rfl, e, _, _, _, rfl, rfl, he7, rfl, pD c, pD c, tv.dp, hu7.dp, pD_shaped _, pD_shaped _, _, rfl, ?_⟩
      refine ifT (by rw [pD_eqv]; simp) ?_
      refine ⟨_, rfl, _, rfl, _, rfl, e, _, _, _, rfl, rfl, he7, rfl, xx, b, W, G, x, y, dx, dy, M, M + t, rfl, ⟨⟨pk', (hTab.same s6).same s7⟩, .of (s7 _ _ hb6)⟩, S, by omega, fun H8 r8 s8 h8 => ?_⟩
      have e1 : partZ W x dx (M + t - M) = c.1 := by rw [partZ_eq S.w0 S.x0 S.x1 S.ddx]; exact f1
      have e2 : partZ G y dy (M + t - M) = c.2 := by rw [partZ_eq S.h0 S.y0 S.y1 S.ddy]; exact f2
      have h8' : T2 K H8 r8 c := by
        rw [show ((partZ W x dx (M + t - M), partZ G y dy (M + t - M)) : Int × Int) = c from Prod.ext e1 e2] at h8
        exact h8
      refine ⟨_, rfl, e, _, _, _, rfl, rfl, same_tup s8 he7, rfl, pD c, pD c, h8'.dp, (hu7.mono (Tps.same s8)).dp, pD_shaped _, pD_shaped _, ?_⟩
      show V.bl (PyData.eqv (pD c) (pD c)) = V.bl true
      rw [pD_eqv]
      simp
end
end K34
end
section
set_option Elab.async false
set_option linter.all false
set_option maxRecDepth 100000
set_option maxHeartbeats 8000000
namespace K34
open PySem PySem.Spec PyProof.Rows L2
/-! ### the end: the call of the law at the heap behind the top -/
/-- what the head hands over: the view, the module's namespace, the builtins, no recursion limit of its own, no generator -/
structure Left (K : PySem.W.Frag) (mg : Str → Option Value) (s : Shared) : Prop where
  view : K.In s.heap
  mods : s.heap.Ns mainGlobals mg
  blt : ∃ mb, s.heap.Ns builtinsNs mb ∧ ∀ x : Str, x ≠ "__name__" → mb x = bootBuiltins x
  free : s.heap.NoLimit
  noGen : s.gens = #[]
/-- the law answered True and left all as it was -/
def SaidYes (s : Shared) (r : Result) (t : Shared) : Prop := r = .ok (.ret (.bool true)) ∧ OldK s.heap t.heap ∧ t.os = s.os ∧ AllBare t.gens
/-- tracked objects are no part of the view, and none of them is a dict -/
def Aside (K : PySem.W.Frag) (h : Heap) (H : Hp) : Prop := ∀ b u, H b = some u → K.lookup b = none ∧ ∀ o es ep, h.get? b = some o → o.data ≠ .dict es ep
theorem Aside.ns {K : PySem.W.Frag} {h : Heap} {H : Hp} {b : Addr} {m : Str → Option Value} (S : Aside K h H) (n : h.Ns b m) : (hidT h H).Ns b m := by
  obtain ⟨o, es, ep, at_b, isD, rest⟩ := n
  have un : H b = none := Option.eq_none_iff_forall_not_mem.mpr fun u hu => (S b u hu).2 o es ep at_b isD
  exact ⟨o, es, ep, hidT_get at_b un, isD, rest⟩
theorem Aside.view {K : PySem.W.Frag} {h : Heap} {H : Hp} (S : Aside K h H) (k : K.In h) : K.In (hidT h H) := by
  intro b o look
  refine hidT_get (k b o look) (Option.eq_none_iff_forall_not_mem.mpr fun u hu => ?_)
  rw [(S b u hu).1] at look
  cases look
theorem Left.env {P : Program} {w : World} {K : PySem.W.Frag} {mg : Str → Option Value} {s : Shared} {H : Hp} (L : Left K mg s) (S : Aside K s.heap H) (ok : HOk P w H s.heap) :
    Env0 P w K mg (hidT s.heap H) callerA [] s H where
  frames := rfl
  mod := by
    obtain ⟨mb, nsb, same⟩ := L.blt
    obtain ⟨mc, nsc, none_set⟩ := L.free
    exact ⟨S.view L.view, S.ns L.mods, ⟨mb, S.ns nsb, same⟩, ⟨mc, S.ns nsc, none_set⟩⟩
  bs := fun _ _ seen => of_hidT seen
  bsz := Nat.le_of_eq (hidT_size s.heap H)
  funs := trivial
  frf := fun _ in_nil => nomatch in_nil
  hok := ok
  bare := .of_eq L.noGen
theorem said_yes {P : Program} {w : World} {s t : Shared} {H : Hp} {r : Result} (O : Only H) (ok : HOk P w H s.heap) (c : CR CX0 [] P w H s (fun v _ => v = .bl true) E0 r t) : SaidYes s r t := by
  rcases r with e | fl
  · exact absurd c id
  · cases fl with
    | ret u =>
      obtain ⟨_, H2, sameOs, bare, un, ok2, rel, rfl⟩ := c
      refine ⟨by rw [show u = Value.bool true from rel], .of_keep fun b o had => ?_, sameOs, bare⟩
      cases O b with
      | inl untracked => exact un.keep b o had untracked (fun z => nomatch z) fun z => nomatch z
      | inr script =>
        obtain ⟨ob, xs, tracked⟩ := script
        have before := (ok b _ tracked).1
        have after := (ok2 b _ (un.frzs b ob _ tracked)).1
        exact (Option.some.inj (before.symm.trans had)) ▸ after
    | next => exact absurd c id
    | brk => exact absurd c id
    | cont => exact absurd c id
/-- one object tracked, no other -/
def solo (a : Addr) (u : HO) : Hp := fun b => if b = a then some u else none
theorem solo_at {a : Addr} {u : HO} : solo a u a = some u := if_pos rfl
theorem of_solo {a b : Addr} {u v : HO} (h : solo a u b = some v) : b = a ∧ v = u := by
  unfold solo at h
  split at h
  · rename_i same
    exact ⟨same, (Option.some.inj h).symm⟩
  · cases h
theorem law_at {P : Program} {w : World} {K : PySem.W.Frag} {mg : Str → Option Value} {fa a : Addr} {s₁ : Shared} {vs : List Value} {ns : List Int} (L : Left K mg s₁)
    (ha : s₁.heap.get? a = some { cls := .type "list", data := .seq vs.toArray }) (hi : IntsAre vs ns) (hl : ns.length ≤ 63)
    (run : ∀ (base : Heap) (H : Hp), K.In base → base.Ns mainGlobals mg → Env0 P w K mg base callerA [] s₁ H → SqL K H a (ns.map V.int) → codeAny (model P w) callerA (.call (.ref fa) ⟨[.ref a], []⟩) (CR CX0 [] P w H s₁ (fun v _ => v = .bl true) E0) s₁) :
    codeAny (model P w) callerA (.call (.ref fa) ⟨[.ref a], []⟩) (SaidYes s₁) s₁ := by
  have vals := vals_ints hi
  have fits : ns.length ≤ sizeLine := Nat.le_trans hl (by decide)
  -- it runs over every way to track the script
  have go : ∀ H : Hp, Only H → Aside K s₁.heap H → HOk P w H s₁.heap → SqL K H a (ns.map V.int) → codeAny (model P w) callerA (.call (.ref fa) ⟨[.ref a], []⟩) (SaidYes s₁) s₁ := fun H only aside ok sq =>
    codeAny_mono (run _ H (aside.view L.view) (aside.ns L.mods) (L.env aside ok) sq) fun _ _ c => said_yes only ok c
  cases known : K.lookup a with
  | some o =>
    -- the script is an object of the module: nothing is tracked
    have same : o = { cls := .type "list", data := .seq vs.toArray } := Option.some.inj ((L.view a o known).symm.trans ha)
    subst same
    refine go (fun _ => none) (fun _ => .inl rfl) (fun _ _ no => nomatch no) (fun _ _ no => nomatch no) (.inr ⟨_, vs.toArray, _, known, rfl, rfl, rfl, ?_, by simpa using vals⟩)
    rw [List.size_toArray, hi.length]
    exact fits
  | none =>
    refine go (solo a (.frz { cls := .type "list", data := .seq vs.toArray } (.lst (ns.map V.int)))) (fun b => ?_) (fun b u hu => ?_) (fun b u hu => ?_) (.inl (.inr ⟨_, solo_at⟩))
    · by_cases same : b = a
      · exact .inr ⟨_, _, if_pos same⟩
      · exact .inl (if_neg same)
    · obtain ⟨rfl, _⟩ := of_solo hu
      refine ⟨known, fun o es ep at_b isD => ?_⟩
      rw [ha] at at_b
      cases at_b
      cases isD
    · obtain ⟨rfl, rfl⟩ := of_solo hu
      exact ⟨ha, by rw [List.length_map]; exact fits, vs, _, vals, ha⟩
/-! ### all defs -/
section
variable {P : Program} {w : World} {K : PySem.W.Frag} {mg : Str → Option Value} {base h : Heap}
theorem fac (c : Says K) : ∀ f ∈ facts, f.ok K = true := by
  have c1 := (He.ba (show ((facts.all fun f => f.ok K) && defs.all fun d => d.ok K) = true from congrArg (fun z : He.AlD => z.1) c.1)).1
  exact List.all_eq_true.mp c1
theorem top_of (c : Says K) (X : K.In h) (G : h.Ns mainGlobals mg) : Top K mg := by
  have d : He.SaysD facts defs K := c.1
  obtain ⟨x1, x2⟩ := He.ba (show (He.eqO (PySem.W.nsIn K mainGlobals "gcd") (some (some (.builtin "math.gcd"))) && (He.lstB K "WHOLE" [.adr wholeT] && tupAtB K (wholeT K) [.int 0, .int 1])) = true from c.2)
  obtain ⟨x3, x4⟩ := He.ba x2
  refine ⟨fun x hx => He.free_ok X G (fac c _ ?_), PySem.W.mg_of X G (He.eqO_ok x1), He.int_ok X G (d.fact 48 rfl), He.int_ok X G (d.fact 49 rfl), He.int_ok X G (d.fact 50 rfl), He.int_ok X G (d.fact 51 rfl), He.str_ok X G (d.fact 52 rfl),
    He.ga K "WHOLE", wholeT K, He.glo_ok X G (d.fact 5 rfl), fun H => ⟨He.lstB_ok x3 H, tupAtB_ok x4 H⟩⟩
  unfold facts facts1
  exact List.mem_append_left _ (List.mem_append_right _ (List.mem_map_of_mem hx))
theorem cal_of {x : Str} {st : Stmt} {f : Addr} {fd : FuncData} {ps : List Str} {k : Nat} {sp : Sp} (F : FnP K x x st f fd) (g : mg x = some (.ref f))
    (b : ∀ (kV doc pm : Value) (an : Option Addr) (cdv ct : Value) (us : List Value), us.length = ps.length → bindArgs (PySem.W.fnOf x x (defArgs st) (defBody st) (defScope st) .none kV doc pm an cdv ct) ⟨us, []⟩ = pure (ps.zip us))
    (ok : FnOk P w K mg base CX0 k f fd ps sp) : Cal P w K mg base x ps k sp f fd := ⟨g, F.kp, bindsF F b, ok⟩
theorem calm_of {C : Addr} {m q : Str} {st : Stmt} {f : Addr} {fd : FuncData} {ps : List Str} {k : Nat} {sp : Sp} (F : FnP K m q st f fd) (cl : Cls K C) (me : Meth K C m f)
    (b : ∀ (kV doc pm : Value) (an : Option Addr) (cdv ct : Value) (us : List Value), us.length = ps.length → bindArgs (PySem.W.fnOf m q (defArgs st) (defBody st) (defScope st) .none kV doc pm an cdv ct) ⟨us, []⟩ = pure (ps.zip us))
    (ok : FnOk P w K mg base CX0 k f fd ps sp) : CalM P w K mg base C m ps k sp f fd := ⟨cl, me, bindsF F b, ok⟩
theorem whole_run (c : Says K) (X : K.In h) (G : h.Ns mainGlobals mg) {fa : Addr} (hfa : mg "law" = some (.ref fa)) :
    ∀ (base : Heap) {s : Shared} {H : Hp} {a : Addr} {ns : List Int}, Env0 P w K mg base callerA [] s H → SqL K H a (ns.map V.int) → ns.length ≤ 63 → codeAny (model P w) callerA (.call (.ref fa) ⟨[.ref a], []⟩) (CR CX0 [] P w H s (fun v _ => v = .bl true) E0) s := by
  intro base s H a ns e0 hS hlen
  have T := top_of c X G
  have d : He.SaysD facts defs K := c.1
  have e := hfa.symm.trans (He.glo_ok X G (d.fact 34 (f := .glo "law") rfl))
  cases e
  have TC : TabC K (He.ga K "Table") := ⟨He.cls_ok (d.fact 53 (f := .cls "Table") rfl), He.noat_ok (d.fact 57 (f := .noat "Table" "width") rfl), He.noat_ok (d.fact 58 (f := .noat "Table" "height") rfl), He.noat_ok (d.fact 59 (f := .noat "Table" "pockets") rfl)⟩
  have UC : TimC K (He.ga K "Times") := ⟨He.cls_ok (d.fact 54 (f := .cls "Times") rfl), He.noat_ok (d.fact 60 (f := .noat "Times" "start") rfl), He.noat_ok (d.fact 61 (f := .noat "Times" "end") rfl), He.noat_ok (d.fact 62 (f := .noat "Times" "classes") rfl)⟩
  obtain ⟨fd0, F0⟩ := d.def_ 0 (d := glD "require" s_require) rfl
  obtain ⟨fd1, F1⟩ := d.def_ 1 (d := ⟨("Table", some "__init__"), "__init__", "Table.__init__", defArgs s_Table_init, defBody s_Table_init, defScope s_Table_init, [.adr (He.dflAt ("Table", some "__init__") 0)], []⟩) rfl
  obtain ⟨fd2, F2⟩ := d.def_ 2 (d := meD "Table" "is_point" "Table.is_point" s_is_point) rfl
  obtain ⟨fd3, F3⟩ := d.def_ 3 (d := meD "Table" "check_point" "Table.check_point" s_check_point) rfl
  obtain ⟨fd4, F4⟩ := d.def_ 4 (d := glD "is_name" s_is_name) rfl
  obtain ⟨fd5, F5⟩ := d.def_ 5 (d := glD "is_ball" s_is_ball) rfl
  obtain ⟨fd6, F6⟩ := d.def_ 6 (d := glD "check_ball" s_check_ball) rfl
  obtain ⟨fd7, F7⟩ := d.def_ 7 (d := glD "inverse" s_inverse) rfl
  obtain ⟨fd8, F8⟩ := d.def_ 8 (d := glD "chinese" s_chinese) rfl
  obtain ⟨fd9, F9⟩ := d.def_ 9 (d := glD "solved" s_solved) rfl
  obtain ⟨fd10, F10⟩ := d.def_ 10 (d := glD "united" s_united) rfl
  obtain ⟨fd11, F11⟩ := d.def_ 11 (d := glD "point_classes" s_point_classes) rfl
  obtain ⟨fd12, F12⟩ := d.def_ 12 (d := glD "crossed" s_crossed) rfl
  obtain ⟨fd13, F13⟩ := d.def_ 13 (d := glD "is_class" s_is_class) rfl
  obtain ⟨fd14, F14⟩ := d.def_ 14 (d := glD "are_apart" s_are_apart) rfl
  obtain ⟨fd15, F15⟩ := d.def_ 15 (d := meD "Times" "__init__" "Times.__init__" s_Times_init) rfl
  obtain ⟨fd16, F16⟩ := d.def_ 16 (d := meD "Times" "is_within" "Times.is_within" s_is_within) rfl
  obtain ⟨fd17, F17⟩ := d.def_ 17 (d := meD "Times" "next_from" "Times.next_from" s_next_from) rfl
  obtain ⟨fd18, F18⟩ := d.def_ 18 (d := glD "at_point" s_at_point) rfl
  obtain ⟨fd19, F19⟩ := d.def_ 19 (d := glD "fall_of" s_fall_of) rfl
  obtain ⟨fd20, F20⟩ := d.def_ 20 (d := glD "phase_of" s_phase_of) rfl
  obtain ⟨fd21, F21⟩ := d.def_ 21 (d := glD "fold" s_fold) rfl
  obtain ⟨fd22, F22⟩ := d.def_ 22 (d := glD "part_at" s_part_at) rfl
  obtain ⟨fd23, F23⟩ := d.def_ 23 (d := glD "parts_of" s_parts_of) rfl
  obtain ⟨fd24, F24⟩ := d.def_ 24 (d := glD "place_at" s_place_at) rfl
  obtain ⟨fd25, F25⟩ := d.def_ 25 (d := glD "_law_row" s_row) rfl
  obtain ⟨fd26, F26⟩ := d.def_ 26 (d := glD "_law_numbers" s_numbers) rfl
  obtain ⟨fd27, F27⟩ := d.def_ 27 (d := glD "_law_great" s_great) rfl
  obtain ⟨fd28, F28⟩ := d.def_ 28 (d := glD "_law_directions" s_directions) rfl
  obtain ⟨fd29, F29⟩ := d.def_ 29 (d := glD "_law_gcd" s_gcd) rfl
  obtain ⟨fd30, F30⟩ := d.def_ 30 (d := glD "_law_inverse" s_linverse) rfl
  obtain ⟨fd31, F31⟩ := d.def_ 31 (d := glD "_law_agreed" s_agreed) rfl
  obtain ⟨fd32, F32⟩ := d.def_ 32 (d := glD "_law_part_classes" s_part_classes) rfl
  obtain ⟨fd33, F33⟩ := d.def_ 33 (d := glD "_law_first_at" s_first_at) rfl
  obtain ⟨fd34, F34⟩ := d.def_ 34 (d := glD "_law_great_table" s_great_table) rfl
  obtain ⟨fd35, F35⟩ := d.def_ 35 (d := glD "_law_fold" s_lfold) rfl
  obtain ⟨fd36, F36⟩ := d.def_ 36 (d := glD "_law_ball_of" s_ball_of) rfl
  obtain ⟨fd37, F37⟩ := d.def_ 37 (d := glD "law" s_law) rfl
  have C0 := cal_of (st := s_require) (ps := ["holds"]) F0 (He.glo_ok X G (d.fact 0 (f := .glo "require") rfl)) (fun _ _ _ _ _ _ us hl => match us, hl with | [_], _ => rfl) (ok_require (P := P) (w := w) (mg := mg) (base := base) F0)
  have M2 := calm_of (st := s_is_point) (ps := ["self", "point"]) F2 TC.cl (He.meth_ok (d.fact 63 (f := .meth "Table" "is_point") rfl)) (fun _ _ _ _ _ _ us hl => match us, hl with | [_, _], _ => rfl) (ok_is_point (P := P) (w := w) (mg := mg) (base := base) F2 TC)
  have M3 := calm_of (st := s_check_point) (ps := ["self", "point"]) F3 TC.cl (He.meth_ok (d.fact 64 (f := .meth "Table" "check_point") rfl)) (fun _ _ _ _ _ _ us hl => match us, hl with | [_, _], _ => rfl) (ok_check_point F3 TC M2)
  have C4 := cal_of (st := s_is_name) (ps := ["text"]) F4 (He.glo_ok X G (d.fact 2 (f := .glo "is_name") rfl)) (fun _ _ _ _ _ _ us hl => match us, hl with | [_], _ => rfl) (ok_is_name (P := P) (w := w) (base := base) F4 T)
  have C5 := cal_of (st := s_is_ball) (ps := ["table", "ball"]) F5 (He.glo_ok X G (d.fact 3 (f := .glo "is_ball") rfl)) (fun _ _ _ _ _ _ us hl => match us, hl with | [_, _], _ => rfl) (ok_is_ball F5 T TC C4 M2)
  have C6 := cal_of (st := s_check_ball) (ps := ["table", "ball"]) F6 (He.glo_ok X G (d.fact 4 (f := .glo "check_ball") rfl)) (fun _ _ _ _ _ _ us hl => match us, hl with | [_, _], _ => rfl) (ok_check_ball F6 C5)
  have C7 := cal_of (st := s_inverse) (ps := ["number", "modulus"]) F7 (He.glo_ok X G (d.fact 6 (f := .glo "inverse") rfl)) (fun _ _ _ _ _ _ us hl => match us, hl with | [_, _], _ => rfl) (ok_inv (P := P) (w := w) (mg := mg) (base := base) F7)
  have C8 := cal_of (st := s_chinese) (ps := ["one", "other"]) F8 (He.glo_ok X G (d.fact 7 (f := .glo "chinese") rfl)) (fun _ _ _ _ _ _ us hl => match us, hl with | [_, _], _ => rfl) (ok_chin F8 T C7)
  have C9 := cal_of (st := s_solved) (ps := ["factor", "right", "modulus"]) F9 (He.glo_ok X G (d.fact 8 (f := .glo "solved") rfl)) (fun _ _ _ _ _ _ us hl => match us, hl with | [_, _, _], _ => rfl) (ok_solved (P := P) (w := w) (base := base) F9 T)
  have C10 := cal_of (st := s_united) (ps := ["one", "other"]) F10 (He.glo_ok X G (d.fact 9 (f := .glo "united") rfl)) (fun _ _ _ _ _ _ us hl => match us, hl with | [_, _], _ => rfl) (ok_united (P := P) (w := w) (base := base) F10 T)
  have C11 := cal_of (st := s_point_classes) (ps := ["size", "at", "step", "goal"]) F11 (He.glo_ok X G (d.fact 10 (f := .glo "point_classes") rfl)) (fun _ _ _ _ _ _ us hl => match us, hl with | [_, _, _, _], _ => rfl) (ok_pcl F11 C9 C10)
  have C12 := cal_of (st := s_crossed) (ps := ["one", "other"]) F12 (He.glo_ok X G (d.fact 11 (f := .glo "crossed") rfl)) (fun _ _ _ _ _ _ us hl => match us, hl with | [_, _], _ => rfl) (ok_crossed F12 T C8)
  have C13 := cal_of (st := s_is_class) (ps := ["one"]) F13 (He.glo_ok X G (d.fact 12 (f := .glo "is_class") rfl)) (fun _ _ _ _ _ _ us hl => match us, hl with | [_], _ => rfl) (ok_is_class (P := P) (w := w) (base := base) F13 T)
  have C14 := cal_of (st := s_are_apart) (ps := ["one", "other"]) F14 (He.glo_ok X G (d.fact 13 (f := .glo "are_apart") rfl)) (fun _ _ _ _ _ _ us hl => match us, hl with | [_, _], _ => rfl) (ok_apart (P := P) (w := w) (base := base) F14 T)
  have G15 := ok_tinit F15 T UC C13 C14
  have b15 : Binds K fd15 ["self", "start", "end", "classes"] [] := bindsF (st := s_Times_init) F15 (fun _ _ _ _ _ _ us hl => match us, hl with | [_, _, _, _], _ => rfl)
  have M16 := calm_of (st := s_is_within) (ps := ["self", "minute"]) F16 UC.cl (He.meth_ok (d.fact 65 (f := .meth "Times" "is_within") rfl)) (fun _ _ _ _ _ _ us hl => match us, hl with | [_, _], _ => rfl) (ok_within (P := P) (w := w) (mg := mg) (base := base) F16 UC)
  have M17 := calm_of (st := s_next_from) (ps := ["self", "minute"]) F17 UC.cl (He.meth_ok (d.fact 66 (f := .meth "Times" "next_from") rfl)) (fun _ _ _ _ _ _ us hl => match us, hl with | [_, _], _ => rfl) (ok_next F17 T UC M16)
  have C18 := cal_of (st := s_at_point) (ps := ["table", "ball", "point"]) F18 (He.glo_ok X G (d.fact 15 (f := .glo "at_point") rfl)) (fun _ _ _ _ _ _ us hl => match us, hl with | [_, _, _], _ => rfl) (ok_at_point F18 T TC C6 M3 C11 C12 (He.glo_ok X G (d.fact 14 (f := .glo "Times") rfl)) (He.mkr_ok (d.fact 56 (f := .mkr "Times") rfl)) b15 G15)
  have C19 := cal_of (st := s_fall_of) (ps := ["table", "ball"]) F19 (He.glo_ok X G (d.fact 16 (f := .glo "fall_of") rfl)) (fun _ _ _ _ _ _ us hl => match us, hl with | [_, _], _ => rfl) (ok_fall F19 TC C6 C18 M17)
  have C20 := cal_of (st := s_phase_of) (ps := ["size", "place", "step"]) F20 (He.glo_ok X G (d.fact 17 (f := .glo "phase_of") rfl)) (fun _ _ _ _ _ _ us hl => match us, hl with | [_, _, _], _ => rfl) (ok_phase (P := P) (w := w) (mg := mg) (base := base) F20)
  have C21 := cal_of (st := s_fold) (ps := ["size", "phase"]) F21 (He.glo_ok X G (d.fact 18 (f := .glo "fold") rfl)) (fun _ _ _ _ _ _ us hl => match us, hl with | [_, _], _ => rfl) (ok_fold (P := P) (w := w) (base := base) F21 T)
  have C22 := cal_of (st := s_part_at) (ps := ["size", "place", "step", "passed"]) F22 (He.glo_ok X G (d.fact 19 (f := .glo "part_at") rfl)) (fun _ _ _ _ _ _ us hl => match us, hl with | [_, _, _, _], _ => rfl) (ok_part F22 C21 C20)
  have C23 := cal_of (st := s_parts_of) (ps := ["table", "ball"]) F23 (He.glo_ok X G (d.fact 20 (f := .glo "parts_of") rfl)) (fun _ _ _ _ _ _ us hl => match us, hl with | [_, _], _ => rfl) (ok_parts (P := P) (w := w) (mg := mg) (base := base) F23 TC)
  have C24 := cal_of (st := s_place_at) (ps := ["table", "ball", "minute"]) F24 (He.glo_ok X G (d.fact 21 (f := .glo "place_at") rfl)) (fun _ _ _ _ _ _ us hl => match us, hl with | [_, _, _], _ => rfl) (ok_place F24 T C6 C23 C22)
  have C25 := cal_of (st := s_row) (ps := ["_law_cell", "_law_many"]) F25 (He.glo_ok X G (d.fact 22 (f := .glo "_law_row") rfl)) (fun _ _ _ _ _ _ us hl => match us, hl with | [_, _], _ => rfl) (ok_row (P := P) (w := w) (base := base) F25 T)
  have C26 := cal_of (st := s_numbers) (ps := ["_law_script", "_law_many"]) F26 (He.glo_ok X G (d.fact 23 (f := .glo "_law_numbers") rfl)) (fun _ _ _ _ _ _ us hl => match us, hl with | [_, _], _ => rfl) (ok_numbers F26 T C25)
  have C27 := cal_of (st := s_great) (ps := ["_law_numbers_here", "_law_at"]) F27 (He.glo_ok X G (d.fact 24 (f := .glo "_law_great") rfl)) (fun _ _ _ _ _ _ us hl => match us, hl with | [_, _], _ => rfl) (ok_great (P := P) (w := w) (base := base) F27 T)
  have C28 := cal_of (st := s_directions) (ps := []) F28 (He.glo_ok X G (d.fact 25 (f := .glo "_law_directions") rfl)) (fun _ _ _ _ _ _ us hl => match us, hl with | [], _ => rfl) (ok_dirs (P := P) (w := w) (mg := mg) (base := base) F28)
  have C29 := cal_of (st := s_gcd) (ps := ["_law_one", "_law_other"]) F29 (He.glo_ok X G (d.fact 26 (f := .glo "_law_gcd") rfl)) (fun _ _ _ _ _ _ us hl => match us, hl with | [_, _], _ => rfl) (ok_gcd (P := P) (w := w) (base := base) F29 T)
  have C30 := cal_of (st := s_linverse) (ps := ["_law_one", "_law_modulus"]) F30 (He.glo_ok X G (d.fact 27 (f := .glo "_law_inverse") rfl)) (fun _ _ _ _ _ _ us hl => match us, hl with | [_, _], _ => rfl) (ok_linv (P := P) (w := w) (base := base) F30 T)
  have C31 := cal_of (st := s_agreed) (ps := ["_law_one", "_law_other"]) F31 (He.glo_ok X G (d.fact 28 (f := .glo "_law_agreed") rfl)) (fun _ _ _ _ _ _ us hl => match us, hl with | [_, _], _ => rfl) (ok_agreed F31 T C29 C30)
  have C32 := cal_of (st := s_part_classes) (ps := ["_law_size", "_law_place", "_law_step", "_law_goal"]) F32 (He.glo_ok X G (d.fact 29 (f := .glo "_law_part_classes") rfl)) (fun _ _ _ _ _ _ us hl => match us, hl with | [_, _, _, _], _ => rfl) (ok_lpc (P := P) (w := w) (base := base) F32 T)
  have C33 := cal_of (st := s_first_at) (ps := ["_law_width", "_law_height", "_law_ball", "_law_point"]) F33 (He.glo_ok X G (d.fact 30 (f := .glo "_law_first_at") rfl)) (fun _ _ _ _ _ _ us hl => match us, hl with | [_, _, _, _], _ => rfl) (ok_first F33 C32 C31)
  have C34 := cal_of (st := s_great_table) (ps := ["_law_numbers_here", "_law_at"]) F34 (He.glo_ok X G (d.fact 31 (f := .glo "_law_great_table") rfl)) (fun _ _ _ _ _ _ us hl => match us, hl with | [_, _], _ => rfl) (ok_gtab F34 T C27)
  have C35 := cal_of (st := s_lfold) (ps := ["_law_size", "_law_number"]) F35 (He.glo_ok X G (d.fact 32 (f := .glo "_law_fold") rfl)) (fun _ _ _ _ _ _ us hl => match us, hl with | [_, _], _ => rfl) (ok_lfold (P := P) (w := w) (base := base) F35 T)
  have C36 := cal_of (st := s_ball_of) (ps := ["_law_numbers_here", "_law_at", "_law_width", "_law_height", "_law_pockets"]) F36 (He.glo_ok X G (d.fact 33 (f := .glo "_law_ball_of") rfl)) (fun _ _ _ _ _ _ us hl => match us, hl with | [_, _, _, _, _], _ => rfl) (ok_bof F36 T C27 C28 C35)
  have G1 := ok_tabinit F1 T TC C0 M2
  have b1 : Binds K fd1 ["self", "width", "height", "pockets"] [] := by
    obtain ⟨ds, v, b⟩ := FunD.binds1 (ps := ["self", "width", "height", "pockets"]) F1 4 1 (by intro q; cases q) rfl (fun Td kV doc pm an cdv ct us its hu hi => match us, hu, its, hi with
      | [_, _, _, _], _, [_], _ => ⟨_, rfl, rfl⟩)
    cases v
    exact b
  exact run_law F37 T C26 C34 C36 C33 (He.glo_ok X G (d.fact 1 (f := .glo "Table") rfl)) (He.mkr_ok (d.fact 55 (f := .mkr "Table") rfl)) b1 G1 C19 C35 C24 rfl ⟨rfl, by decide, by decide⟩ e0 (bindsF (st := s_law) F37 (ps := ["_law_script"]) (fun _ _ _ _ _ _ us hl => match us, hl with | [_], _ => rfl) s [.ref a] (e0.mod.kin.keeps fun b o q => (e0.bs b o q).1) rfl) (.cons rfl .nil) hS hlen
end
end K34
end
section
set_option Elab.async false
set_option linter.all false
set_option maxRecDepth 100000
set_option maxHeartbeats 0
open PySem PySem.W PySem.Calls PyProof.Rows
theorem PySem.Challenge.cw_cushioned_k34_whole_falls_on_great_table_holds : PySem.Challenge.rw_cushioned_k34_whole_falls_on_great_table.Holds := by
  refine K34.end_ ?_
  intro q loose XP
  refine Att.attach_call (l := PySem.Challenge.rw_cushioned_k34_whole_falls_on_great_table) (n := 63) rfl (by kernel_rfl) fun w s₀ s₁ mg mb fa o pm cd doc a vs ns G Y ho hd hcd hmg0 hobj hints hlen hg => ?_
  obtain ⟨K, KX, c⟩ := Y
  have named : (HandSHeadRun.topDef K34.R.prog 54).name = ("law" : PySem.Str) := by kernel_rfl
  have law_is : mg "law" = some (.ref fa) := (congrArg mg named).symm.trans hmg0
  exact K34.law_at ⟨KX, G.T.g, ⟨mb, G.T.b, G.T.builtins⟩, G.T.nolimit, hg⟩ hobj hints hlen fun base H kb nb e0 hS => K34.whole_run c KX G.T.g law_is base e0 hS hlen
end
