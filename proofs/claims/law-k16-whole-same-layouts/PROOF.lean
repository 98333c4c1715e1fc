import PyProof.Rows.All
import Wide.All
import OpenK.AllK
import Wide.FinOn
import HandS.ForMost
import HandS.IsInst
import HandS.Gcd
import HandS.Wide
import HandS.Flow
import HandS.Style
import HandS.Star
import HandS.Sort
import HandS.SortKw
import HandS.Conv
import HandS.Zip
import HandS.NoneIn
import HandS.Small
import HandS.Exc
import HandS.ExcInit
import HandS.ExcSuper
import HandS.TryMany
import HandS.WordsExc
import HandS.Defaults
import HandS.TupLe
import HandS.Walk
import KE.KExcSuper
import HandS.ExcField
import HandS.ExcOwn
import KE.KDictWalk
import KE.KDictCopyH
import PySem.Challenge.RW_claimduel_k16_whole_same_layouts
set_option Elab.async false
set_option linter.all false
set_option maxRecDepth 100000
set_option maxHeartbeats 4000000
namespace K16
/-! rows of steps -/
structure Rw where
  f : Option Int
  l : Option Int
  s : Int
  deriving DecidableEq

def Rw.base (r : Rw) : Int := match r.f with
  | some f => f
  | none => r.l.getD 0
def Rw.rest (r : Rw) : Int := r.base % r.s
def Rw.Ok (r : Rw) : Prop := 0 < r.s ∧ (r.f ≠ none ∨ r.l ≠ none) ∧ ∀ f l, r.f = some f → r.l = some l → f ≤ l ∧ (l - f) % r.s = 0
def Rw.Mem (r : Rw) (x : Int) : Prop := x % r.s = r.rest ∧ (∀ f, r.f = some f → f ≤ x) ∧ (∀ l, r.l = some l → x ≤ l)
def Rw.mem (r : Rw) (x : Int) : Bool := decide (x % r.s = r.rest) && (r.f.all fun f => decide (f ≤ x)) && (r.l.all fun l => decide (x ≤ l))
theorem Rw.mem_iff (r : Rw) (x : Int) : r.mem x = true ↔ r.Mem x := by
  obtain ⟨f, l, s⟩ := r
  unfold Rw.mem Rw.Mem
  cases f <;> cases l <;> simp [and_assoc]
def Disj (a b : Rw) : Prop := ∀ x, ¬ (a.Mem x ∧ b.Mem x)
theorem Disj.symm {a b : Rw} (h : Disj a b) : Disj b a := fun x ⟨p, q⟩ => h x ⟨q, p⟩
def Nums (A : List Rw) (x : Int) : Prop := ∃ r, r ∈ A ∧ r.Mem x
def SameN (A B : List Rw) : Prop := ∀ x, Nums A x ↔ Nums B x
theorem SameN.refl (A : List Rw) : SameN A A := fun _ => Iff.rfl
theorem SameN.symm {A B : List Rw} (h : SameN A B) : SameN B A := fun x => (h x).symm
theorem SameN.trans {A B C : List Rw} (h : SameN A B) (k : SameN B C) : SameN A C := fun x => (h x).trans (k x)

/-! numbers that leave two rests -/
theorem emod_uniq {x r m : Int} (h0 : 0 ≤ r) (h1 : r < m) (h : (x - r) % m = 0) : x % m = r := by
  have e : x % m = r % m := Int.emod_eq_emod_iff_emod_sub_eq_zero.mpr h
  rw [e]; exact Int.emod_eq_of_lt h0 h1
theorem sub_dvd {x r m : Int} (h : x % m = r) : m ∣ x - r := by
  subst h
  exact Int.dvd_iff_emod_eq_zero.mpr (by rw [Int.sub_emod]; simp)

/-- what root_in hands back -/
def Root (factor number m : Int) : Option Int → Prop
  | none => ∀ x, ¬ m ∣ factor * x + number
  | some x => 0 ≤ x ∧ x < m ∧ m ∣ factor * x + number
def Both (r m r' m' : Int) : Option (Int × Int) → Prop
  | none => ∀ x, ¬ (x % m = r ∧ x % m' = r')
  | some (q, M) => 0 < M ∧ M ≤ m * m' ∧ 0 ≤ q ∧ q < M ∧ ∀ x, x % M = q ↔ (x % m = r ∧ x % m' = r')

theorem both_none {r m r' m' : Int} (hr0 : 0 ≤ r) (h : Root m (r - r') m' none) : Both r m r' m' none := by
  intro x ⟨h1, h2⟩
  obtain ⟨c, hc⟩ := sub_dvd h1
  obtain ⟨d, hd⟩ := sub_dvd h2
  refine h c ⟨d, ?_⟩
  omega
theorem both_some {r m r' m' t : Int} (hm : 0 < m) (hm' : 0 < m') (hr0 : 0 ≤ r) (hr1 : r < m) (hr0' : 0 ≤ r') (hr1' : r' < m') (h : Root m (r - r') m' (some t)) {M : Int} (hM : M = (Nat.lcm m.natAbs m'.natAbs : Nat)) :
    Both r m r' m' (some ((r + m * t) % M, M)) := by
  obtain ⟨_, _, k, hk⟩ := h
  have e1 : (m.natAbs : Int) = m := by omega
  have e2 : (m'.natAbs : Int) = m' := by omega
  have d1 : m ∣ M := by rw [hM, ← e1]; exact Int.ofNat_dvd.mpr (Nat.dvd_lcm_left _ _)
  have d2 : m' ∣ M := by rw [hM, ← e2]; exact Int.ofNat_dvd.mpr (Nat.dvd_lcm_right _ _)
  have hpos : 0 < M := by
    rw [hM]
    exact Int.ofNat_lt.mpr (Nat.lcm_pos (by omega) (by omega))
  have hle : M ≤ m * m' := by
    have q : Nat.lcm m.natAbs m'.natAbs ≤ m.natAbs * m'.natAbs := Nat.le_of_dvd (Nat.mul_pos (by omega) (by omega)) (Nat.lcm_dvd (Nat.dvd_mul_right _ _) (Nat.dvd_mul_left _ _))
    have q2 : ((Nat.lcm m.natAbs m'.natAbs : Nat) : Int) ≤ ((m.natAbs * m'.natAbs : Nat) : Int) := Int.ofNat_le.mpr q
    rw [Int.natCast_mul, e1, e2] at q2
    rw [hM]; exact q2
  refine ⟨hpos, hle, Int.emod_nonneg _ (Int.ne_of_gt hpos), Int.emod_lt_of_pos _ hpos, fun x => ?_⟩
  have a1 : (r + m * t) % m = r := by
    rw [Int.add_mul_emod_self_left]; exact Int.emod_eq_of_lt hr0 hr1
  have a2 : (r + m * t) % m' = r' := by
    have e : r + m * t = r' + m' * k := by omega
    rw [e, Int.add_mul_emod_self_left]; exact Int.emod_eq_of_lt hr0' hr1'
  constructor
  · intro h
    constructor
    · rw [← Int.emod_emod_of_dvd x d1, h, Int.emod_emod_of_dvd _ d1, a1]
    · rw [← Int.emod_emod_of_dvd x d2, h, Int.emod_emod_of_dvd _ d2, a2]
  · rintro ⟨h1, h2⟩
    have c1 : m ∣ x - (r + m * t) := Int.dvd_iff_emod_eq_zero.mpr (Int.emod_eq_emod_iff_emod_sub_eq_zero.mp (h1.trans a1.symm))
    have c2 : m' ∣ x - (r + m * t) := Int.dvd_iff_emod_eq_zero.mpr (Int.emod_eq_emod_iff_emod_sub_eq_zero.mp (h2.trans a2.symm))
    have c3 : M ∣ x - (r + m * t) := by
      rw [hM]
      refine Int.natAbs_dvd_natAbs.mp ?_
      exact Nat.lcm_dvd (Int.natAbs_dvd_natAbs.mpr c1) (Int.natAbs_dvd_natAbs.mpr c2)
    exact Int.emod_eq_emod_iff_emod_sub_eq_zero.mpr (Int.dvd_iff_emod_eq_zero.mp c3)

/-! the loop of inverse_in -/
structure InvL (number m left rest one other : Int) : Prop where
  l0 : 0 < left
  r0 : 0 ≤ rest
  rl : rest < left
  lm : left ≤ m
  c1 : m ∣ left - one * number
  c2 : m ∣ rest - other * number
  g : ∀ d : Int, d ∣ left → d ∣ rest → d ∣ m ∧ d ∣ number
  b1 : one.natAbs ≤ m.natAbs
  b2 : other.natAbs ≤ m.natAbs
  b3 : other.natAbs * left.natAbs + one.natAbs * rest.natAbs ≤ m.natAbs
theorem InvL.start {number m : Int} (hm : 0 < m) : InvL number m m (number % m) 0 1 := by
  refine ⟨hm, Int.emod_nonneg _ (Int.ne_of_gt hm), Int.emod_lt_of_pos _ hm, Int.le_refl _, ⟨1, by omega⟩, ?_, fun d h1 h2 => ⟨h1, ?_⟩, by simp, by omega, by simp⟩
  · obtain ⟨k, hk⟩ := sub_dvd (rfl : number % m = number % m)
    exact ⟨-k, by rw [Int.mul_neg]; omega⟩
  · have e : number = number % m + m * (number / m) := (Int.emod_add_mul_ediv number m).symm
    rw [e]
    exact Int.dvd_add h2 (Int.dvd_trans h1 (Int.dvd_mul_right _ _))
theorem InvL.turn {number m left rest one other : Int} (h : InvL number m left rest one other) (hr : rest ≠ 0) :
    InvL number m rest (left - left / rest * rest) other (one - left / rest * other) := by
  have r0 : 0 < rest := by have := h.r0; omega
  have em : left - left / rest * rest = left % rest := by
    have := Int.emod_add_mul_ediv left rest
    rw [Int.mul_comm] at this; omega
  have t0 : 0 ≤ left / rest := Int.ediv_nonneg (Int.le_of_lt h.l0) h.r0
  have hb : (one - left / rest * other).natAbs * rest.natAbs + other.natAbs * (left - left / rest * rest).natAbs ≤ m.natAbs := by
    have a1 : (one - left / rest * other).natAbs ≤ one.natAbs + (left / rest).natAbs * other.natAbs := by
      have := Int.natAbs_sub_le one (left / rest * other)
      rwa [Int.natAbs_mul] at this
    have a2 : (left - left / rest * rest).natAbs + (left / rest).natAbs * rest.natAbs = left.natAbs := by
      have q0 : 0 ≤ left % rest := Int.emod_nonneg _ hr
      have q1 : left % rest + rest * (left / rest) = left := Int.emod_add_mul_ediv left rest
      rw [em]
      have q2 : (left / rest).natAbs * rest.natAbs = (rest * (left / rest)).natAbs := by rw [Int.natAbs_mul, Nat.mul_comm]
      have q3 : 0 ≤ rest * (left / rest) := Int.mul_nonneg h.r0 t0
      rw [q2]; omega
    have a3 : (one - left / rest * other).natAbs * rest.natAbs ≤ one.natAbs * rest.natAbs + (left / rest).natAbs * other.natAbs * rest.natAbs := by
      rw [← Nat.add_mul]; exact Nat.mul_le_mul_right _ a1
    have a4 : other.natAbs * left.natAbs = other.natAbs * (left - left / rest * rest).natAbs + (left / rest).natAbs * other.natAbs * rest.natAbs := by
      rw [← a2, Nat.mul_add]
      congr 1
      rw [Nat.mul_comm (left / rest).natAbs other.natAbs, Nat.mul_assoc]
    have := h.b3
    omega
  refine ⟨r0, ?_, ?_, by have := h.rl; have := h.lm; omega, h.c2, ?_, fun d h1 h2 => ?_, h.b2, ?_, hb⟩
  · rw [em]; exact Int.emod_nonneg _ hr
  · rw [em]; exact Int.emod_lt_of_pos _ r0
  · have e : left - left / rest * rest - (one - left / rest * other) * number = (left - one * number) - left / rest * (rest - other * number) := by
      rw [Int.sub_mul, Int.mul_sub, Int.mul_assoc]; omega
    rw [e]
    exact Int.dvd_sub h.c1 (Int.dvd_trans h.c2 (Int.dvd_mul_left _ _))
  · refine h.g d ?_ h1
    have e : left = (left - left / rest * rest) + left / rest * rest := by omega
    rw [e]
    exact Int.dvd_add h2 (Int.dvd_trans h1 (Int.dvd_mul_left _ _))
  · have a : (one - left / rest * other).natAbs * 1 ≤ (one - left / rest * other).natAbs * rest.natAbs := Nat.mul_le_mul_left _ (by omega)
    omega
theorem InvL.done {number m left one other : Int} (h : InvL number m left 0 one other) (cop : ∀ d : Int, d ∣ m → d ∣ number → d ∣ 1) : m ∣ number * (one % m) - 1 := by
  have l1 : left = 1 := by
    obtain ⟨a, b⟩ := h.g left (Int.dvd_refl _) ⟨0, by simp⟩
    have := Int.le_of_dvd (by decide) (cop left a b)
    have := h.l0; omega
  subst l1
  have e : number * (one % m) - 1 = -(1 - one * number) - number * (one - one % m) := by
    rw [Int.mul_sub, Int.mul_comm number one]; omega
  rw [e]
  exact Int.dvd_sub (Int.dvd_neg.mpr h.c1) (Int.dvd_trans (sub_dvd rfl) (Int.dvd_mul_left _ _))
/-- root_in -/
theorem root_none {factor number m : Int} (h : number % (Nat.gcd factor.natAbs m.natAbs : Nat) ≠ 0) : Root factor number m none := by
  intro x hx
  refine h (Int.dvd_iff_emod_eq_zero.mp ?_)
  have d1 : ((Nat.gcd factor.natAbs m.natAbs : Nat) : Int) ∣ factor := Int.natAbs_dvd_natAbs.mp (Nat.gcd_dvd_left _ _)
  have d2 : ((Nat.gcd factor.natAbs m.natAbs : Nat) : Int) ∣ m := Int.natAbs_dvd_natAbs.mp (Nat.gcd_dvd_right _ _)
  have e : number = (factor * x + number) - factor * x := by omega
  rw [e]
  exact Int.dvd_sub (Int.dvd_trans d2 hx) (Int.dvd_trans d1 (Int.dvd_mul_right _ _))
theorem root_parts {factor m : Int} (hm : 0 < m) : 0 < ((Nat.gcd factor.natAbs m.natAbs : Nat) : Int) ∧ 0 < m / (Nat.gcd factor.natAbs m.natAbs : Nat) ∧ m / (Nat.gcd factor.natAbs m.natAbs : Nat) ≤ m ∧
    ∀ d : Int, d ∣ m / (Nat.gcd factor.natAbs m.natAbs : Nat) → d ∣ factor / (Nat.gcd factor.natAbs m.natAbs : Nat) → d ∣ 1 := by
  have g0 : 0 < Nat.gcd factor.natAbs m.natAbs := Nat.gcd_pos_of_pos_right _ (by omega)
  have d1 : ((Nat.gcd factor.natAbs m.natAbs : Nat) : Int) ∣ factor := Int.natAbs_dvd_natAbs.mp (Nat.gcd_dvd_left _ _)
  have d2 : ((Nat.gcd factor.natAbs m.natAbs : Nat) : Int) ∣ m := Int.natAbs_dvd_natAbs.mp (Nat.gcd_dvd_right _ _)
  have g0' : 0 < ((Nat.gcd factor.natAbs m.natAbs : Nat) : Int) := Int.ofNat_lt.mpr g0
  refine ⟨g0', Int.ediv_pos_of_pos_of_dvd hm (Int.le_of_lt g0') d2, Int.ediv_le_self _ (Int.le_of_lt hm), fun d h1 h2 => ?_⟩
  have hc := Nat.coprime_div_gcd_div_gcd (m := factor.natAbs) (n := m.natAbs) g0
  have ea : (factor / (Nat.gcd factor.natAbs m.natAbs : Nat)).natAbs = factor.natAbs / Nat.gcd factor.natAbs m.natAbs := by
    rw [Int.natAbs_ediv_of_dvd d1]; rfl
  have eb : (m / (Nat.gcd factor.natAbs m.natAbs : Nat)).natAbs = m.natAbs / Nat.gcd factor.natAbs m.natAbs := by
    rw [Int.natAbs_ediv_of_dvd d2]; rfl
  refine Int.natAbs_dvd_natAbs.mp ?_
  have k := Nat.dvd_gcd (Int.natAbs_dvd_natAbs.mpr h2) (Int.natAbs_dvd_natAbs.mpr h1)
  rw [ea, eb, hc] at k
  exact k
theorem root_some {factor number m i : Int} (hm : 0 < m) (h : number % (Nat.gcd factor.natAbs m.natAbs : Nat) = 0)
    (hi : m / (Nat.gcd factor.natAbs m.natAbs : Nat) ∣ factor / (Nat.gcd factor.natAbs m.natAbs : Nat) * i - 1) :
    Root factor number m (some ((-number / (Nat.gcd factor.natAbs m.natAbs : Nat) * i) % (m / (Nat.gcd factor.natAbs m.natAbs : Nat)))) := by
  obtain ⟨g0, l0, lm, _⟩ := root_parts (factor := factor) hm
  have d1 : ((Nat.gcd factor.natAbs m.natAbs : Nat) : Int) ∣ factor := Int.natAbs_dvd_natAbs.mp (Nat.gcd_dvd_left _ _)
  have d2 : ((Nat.gcd factor.natAbs m.natAbs : Nat) : Int) ∣ m := Int.natAbs_dvd_natAbs.mp (Nat.gcd_dvd_right _ _)
  have d3 := Int.dvd_iff_emod_eq_zero.mpr h
  generalize ((Nat.gcd factor.natAbs m.natAbs : Nat) : Int) = G at *
  have ea := Int.mul_ediv_cancel' d1
  have eb := Int.mul_ediv_cancel' d2
  have ec := Int.mul_ediv_cancel' d3
  have en : -number / G = -(number / G) := by
    have : -number = G * (-(number / G)) := by rw [Int.mul_neg, ec]
    rw [this]; exact Int.mul_ediv_cancel_left _ (Int.ne_of_gt g0)
  rw [en]
  generalize factor / G = a at *
  generalize m / G = b at *
  generalize number / G = c at *
  refine ⟨Int.emod_nonneg _ (Int.ne_of_gt l0), Int.lt_of_lt_of_le (Int.emod_lt_of_pos _ l0) lm, ?_⟩
  obtain ⟨k, hk⟩ := hi
  obtain ⟨j, hj⟩ := sub_dvd (rfl : (-c * i) % b = (-c * i) % b)
  generalize (-c * i) % b = x at *
  refine ⟨-(a * j) - k * c, ?_⟩
  have e1 : x = -c * i - b * j := by omega
  rw [← ea, ← eb, ← ec, e1]
  have e2 : a * i = b * k + 1 := by omega
  have e3 : G * a * (-c * i - b * j) = G * (-(c * (a * i)) - a * (b * j)) := by
    rw [Int.mul_assoc, Int.mul_sub]
    congr 2
    rw [Int.neg_mul, Int.mul_neg, ← Int.mul_assoc, ← Int.mul_assoc, Int.mul_comm a c]
  rw [e3, e2, Int.mul_assoc, ← Int.mul_add]
  congr 1
  rw [Int.mul_sub, Int.mul_neg, Int.mul_add]
  have e4 : a * (b * j) = b * (a * j) := by rw [← Int.mul_assoc, ← Int.mul_assoc, Int.mul_comm a b]
  have e5 : c * (b * k) = b * (k * c) := by rw [← Int.mul_assoc, Int.mul_comm c b, Int.mul_assoc, Int.mul_comm c k]
  rw [e4, e5]; omega
/-! bounds, shared, clipped -/
def lowOf (a b : Rw) : Option Int := match a.f, b.f with
  | none, none => none
  | none, some y => some y
  | some x, none => some x
  | some x, some y => some (if x ≤ y then y else x)
def highOf (a b : Rw) : Option Int := match a.l, b.l with
  | none, none => none
  | none, some y => some y
  | some x, none => some x
  | some x, some y => some (if x ≤ y then x else y)
theorem mem_both {a b : Rw} {x : Int} : (a.Mem x ∧ b.Mem x) ↔ (x % a.s = a.rest ∧ x % b.s = b.rest) ∧ (∀ lo, lowOf a b = some lo → lo ≤ x) ∧ (∀ hi, highOf a b = some hi → x ≤ hi) := by
  obtain ⟨f, l, s⟩ := a
  obtain ⟨f', l', s'⟩ := b
  unfold Rw.Mem lowOf highOf
  constructor
  · rintro ⟨⟨h1, h2, h3⟩, h4, h5, h6⟩
    refine ⟨⟨h1, h4⟩, fun lo h => ?_, fun hi h => ?_⟩
    · cases f <;> cases f' <;> simp_all <;> split at h <;> omega
    · cases l <;> cases l' <;> simp_all <;> split at h <;> omega
  · rintro ⟨⟨h1, h4⟩, h2, h3⟩
    refine ⟨⟨h1, fun g h => ?_, fun g h => ?_⟩, h4, fun g h => ?_, fun g h => ?_⟩
    · cases f <;> cases f' <;> simp_all
      split at h2 <;> omega
    · cases l <;> cases l' <;> simp_all
      split at h3 <;> omega
    · cases f <;> cases f' <;> simp_all
      split at h2 <;> omega
    · cases l <;> cases l' <;> simp_all
      split at h3 <;> omega
theorem step_to {lo q M : Int} (hM : 0 < M) (h0 : 0 ≤ q) (h1 : q < M) : (lo + (q - lo) % M) % M = q ∧ lo ≤ lo + (q - lo) % M ∧ lo + (q - lo) % M < lo + M := by
  refine ⟨?_, ?_, ?_⟩
  · rw [Int.add_emod_emod]
    have e : lo + (q - lo) = q := by omega
    rw [e]; exact Int.emod_eq_of_lt h0 h1
  · have := Int.emod_nonneg (q - lo) (Int.ne_of_gt hM); omega
  · have := Int.emod_lt_of_pos (q - lo) hM; omega
theorem step_back {hi q M : Int} (hM : 0 < M) (h0 : 0 ≤ q) (h1 : q < M) : (hi - (hi - q) % M) % M = q ∧ hi - (hi - q) % M ≤ hi ∧ hi - M < hi - (hi - q) % M := by
  refine ⟨?_, ?_, ?_⟩
  · rw [Int.sub_emod_emod] <;> skip
    have e : hi - (hi - q) = q := by omega
    rw [e]; exact Int.emod_eq_of_lt h0 h1
  · have := Int.emod_nonneg (hi - q) (Int.ne_of_gt hM); omega
  · have := Int.emod_lt_of_pos (hi - q) hM; omega
theorem Rw.rest0 {r : Rw} (h : 0 < r.s) : 0 ≤ r.rest := Int.emod_nonneg _ (Int.ne_of_gt h)
theorem Rw.rest1 {r : Rw} (h : 0 < r.s) : r.rest < r.s := Int.emod_lt_of_pos _ h

/-- what is_shared hands back -/
def sharedB (a b : Rw) (o : Option (Int × Int)) : Bool := match lowOf a b, highOf a b with
  | some lo, some hi => if hi < lo then false else match o with
    | none => false
    | some (q, M) => decide (lo + (q - lo) % M ≤ hi)
  | _, _ => o.isSome
theorem shared_false {a b : Rw} {o : Option (Int × Int)} (ho : Both a.rest a.s b.rest b.s o) (hd : Disj a b) : sharedB a b o = false := by
  cases o with
  | none => unfold sharedB; split <;> simp
  | some p =>
    obtain ⟨q, M⟩ := p
    obtain ⟨hM, _, h0, h1, hx⟩ := ho
    have key : ∀ x, x % M = q → (∀ lo, lowOf a b = some lo → lo ≤ x) → (∀ hi, highOf a b = some hi → x ≤ hi) → False := fun x e1 e2 e3 =>
      hd x (mem_both.mpr ⟨(hx x).mp e1, e2, e3⟩)
    unfold sharedB
    cases el : lowOf a b with
    | none =>
      exfalso
      cases eh : highOf a b with
      | none => exact key q (Int.emod_eq_of_lt h0 h1) (fun lo h => by rw [el] at h; cases h) (fun hi h => by rw [eh] at h; cases h)
      | some hi =>
        obtain ⟨s1, s2, _⟩ := step_back (hi := hi) hM h0 h1
        exact key _ s1 (fun lo h => by rw [el] at h; cases h) (fun hi' h => by rw [eh] at h; cases h; exact s2)
    | some lo =>
      obtain ⟨s1, s2, _⟩ := step_to (lo := lo) hM h0 h1
      cases eh : highOf a b with
      | none =>
        exfalso
        exact key _ s1 (fun lo' h => by rw [el] at h; cases h; exact s2) (fun hi h => by rw [eh] at h; cases h)
      | some hi =>
        show (if hi < lo then false else decide (lo + (q - lo) % M ≤ hi)) = false
        split
        · rfl
        · refine decide_eq_false fun hle => key _ s1 (fun lo' h => by rw [el] at h; cases h; exact s2) (fun hi' h => by rw [eh] at h; cases h; exact hle)

def clipF (r : Rw) (lo : Int) : Int := match r.f with
  | some f => if f < lo then lo + (r.rest - lo) % r.s else f
  | none => lo + (r.rest - lo) % r.s
def clipL (r : Rw) (hi : Int) : Int := match r.l with
  | some l => if hi < l then hi - (hi - r.rest) % r.s else l
  | none => hi - (hi - r.rest) % r.s
def clip (r : Rw) (lo hi : Int) : Option Rw := if clipF r lo ≤ clipL r hi then some ⟨some (clipF r lo), some (clipL r hi), r.s⟩ else none
theorem Rw.Ok.restF {r : Rw} (h : r.Ok) {f : Int} (e : r.f = some f) : f % r.s = r.rest := by
  unfold Rw.rest Rw.base; rw [e]
theorem Rw.Ok.restL {r : Rw} (h : r.Ok) {l : Int} (e : r.l = some l) : l % r.s = r.rest := by
  cases q : r.f with
  | none => unfold Rw.rest Rw.base; rw [q, e]; rfl
  | some f =>
    rw [← h.restF q]
    exact Int.emod_eq_emod_iff_emod_sub_eq_zero.mpr (h.2.2 f l q e).2
theorem clipF_rest {r : Rw} (h : r.Ok) (lo : Int) : clipF r lo % r.s = r.rest := by
  unfold clipF
  have s := (step_to (lo := lo) h.1 (Rw.rest0 h.1) (Rw.rest1 h.1)).1
  cases q : r.f with
  | none => exact s
  | some f => simp only []; split; exact s; exact h.restF q
theorem clipL_rest {r : Rw} (h : r.Ok) (hi : Int) : clipL r hi % r.s = r.rest := by
  unfold clipL
  have s := (step_back (hi := hi) h.1 (Rw.rest0 h.1) (Rw.rest1 h.1)).1
  cases q : r.l with
  | none => exact s
  | some f => simp only []; split; exact s; exact h.restL q
theorem near_eq {x y M : Int} (hM : 0 < M) (h : x % M = y % M) (h1 : x < y + M) (h2 : y ≤ x) : x = y := by
  have d : M ∣ x - y := Int.dvd_iff_emod_eq_zero.mpr (Int.emod_eq_emod_iff_emod_sub_eq_zero.mp h)
  obtain ⟨k, hk⟩ := d
  have k0 : 0 ≤ k := by
    rcases (show k < 0 ∨ 0 ≤ k by omega) with q | q
    · have : M * k ≤ M * (-1) := Int.mul_le_mul_of_nonneg_left (by omega) (Int.le_of_lt hM)
      omega
    · exact q
  have k1 : k < 1 := by
    rcases (show k < 1 ∨ 1 ≤ k by omega) with q | q
    · exact q
    · have : M * 1 ≤ M * k := Int.mul_le_mul_of_nonneg_left q (Int.le_of_lt hM)
      omega
  have : k = 0 := by omega
  subst this
  omega
theorem le_step {x lo q M : Int} (hM : 0 < M) (h0 : 0 ≤ q) (h1 : q < M) (hx : x % M = q) (hl : lo ≤ x) : lo + (q - lo) % M ≤ x := by
  obtain ⟨s1, s2, s3⟩ := step_to (lo := lo) hM h0 h1
  rcases (show x < lo + (q - lo) % M ∨ lo + (q - lo) % M ≤ x by omega) with c | c
  · have := near_eq hM (s1.trans hx.symm) (by omega) (Int.le_of_lt c)
    omega
  · exact c
theorem le_back {x hi q M : Int} (hM : 0 < M) (h0 : 0 ≤ q) (h1 : q < M) (hx : x % M = q) (hl : x ≤ hi) : x ≤ hi - (hi - q) % M := by
  obtain ⟨s1, s2, s3⟩ := step_back (hi := hi) hM h0 h1
  rcases (show hi - (hi - q) % M < x ∨ x ≤ hi - (hi - q) % M by omega) with c | c
  · have := near_eq hM (hx.trans s1.symm) (by omega) (Int.le_of_lt c)
    omega
  · exact c
theorem clipF_le {r : Rw} (h : r.Ok) {lo x : Int} (hx : x % r.s = r.rest) : clipF r lo ≤ x ↔ lo ≤ x ∧ ∀ f, r.f = some f → f ≤ x := by
  unfold clipF
  have s := step_to (lo := lo) h.1 (Rw.rest0 h.1) (Rw.rest1 h.1)
  have k := fun (c : lo ≤ x) => le_step h.1 (Rw.rest0 h.1) (Rw.rest1 h.1) hx c
  cases q : r.f with
  | none =>
    simp only []
    exact ⟨fun c => ⟨by omega, fun f e => by cases e⟩, fun c => k c.1⟩
  | some f =>
    simp only []
    split
    · exact ⟨fun c => ⟨by omega, fun g e => by cases e; omega⟩, fun c => k c.1⟩
    · exact ⟨fun c => ⟨by omega, fun g e => by cases e; omega⟩, fun c => c.2 f rfl⟩
theorem le_clipL {r : Rw} (h : r.Ok) {hi x : Int} (hx : x % r.s = r.rest) : x ≤ clipL r hi ↔ x ≤ hi ∧ ∀ l, r.l = some l → x ≤ l := by
  unfold clipL
  have s := step_back (hi := hi) h.1 (Rw.rest0 h.1) (Rw.rest1 h.1)
  have k := fun (c : x ≤ hi) => le_back h.1 (Rw.rest0 h.1) (Rw.rest1 h.1) hx c
  cases q : r.l with
  | none =>
    simp only []
    exact ⟨fun c => ⟨by omega, fun f e => by cases e⟩, fun c => k c.1⟩
  | some f =>
    simp only []
    split
    · exact ⟨fun c => ⟨by omega, fun g e => by cases e; omega⟩, fun c => k c.1⟩
    · exact ⟨fun c => ⟨by omega, fun g e => by cases e; omega⟩, fun c => c.2 f rfl⟩
theorem clip_none {r : Rw} (h : r.Ok) {lo hi : Int} (e : clip r lo hi = none) {x : Int} (h1 : lo ≤ x) (h2 : x ≤ hi) : ¬ r.Mem x := by
  intro ⟨m1, m2, m3⟩
  unfold clip at e
  split at e
  · cases e
  · rename_i c
    have a := (clipF_le h m1).mpr ⟨h1, m2⟩
    have b := (le_clipL h m1).mpr ⟨h2, m3⟩
    omega
/-- a row with both ends -/
def Fin (r : Rw) : Prop := r.Ok ∧ ∃ f l, r.f = some f ∧ r.l = some l
theorem clip_some {r r' : Rw} (h : r.Ok) {lo hi : Int} (e : clip r lo hi = some r') : Fin r' ∧ r'.s = r.s ∧ (∀ x, r'.Mem x ↔ r.Mem x ∧ lo ≤ x ∧ x ≤ hi) := by
  unfold clip at e
  split at e
  · rename_i c
    cases e
    have hr : (⟨some (clipF r lo), some (clipL r hi), r.s⟩ : Rw).rest = r.rest := clipF_rest h lo
    refine ⟨⟨⟨h.1, .inl (by simp), fun f l e1 e2 => ?_⟩, _, _, rfl, rfl⟩, rfl, fun x => ?_⟩
    · cases e1; cases e2
      exact ⟨c, Int.emod_eq_emod_iff_emod_sub_eq_zero.mp ((clipL_rest h hi).trans (clipF_rest h lo).symm)⟩
    · constructor
      · rintro ⟨m1, m2, m3⟩
        rw [hr] at m1
        have a := (clipF_le h m1).mp (m2 _ rfl)
        have b := (le_clipL h m1).mp (m3 _ rfl)
        exact ⟨⟨m1, a.2, b.2⟩, a.1, b.1⟩
      · rintro ⟨⟨m1, m2, m3⟩, a, b⟩
        exact ⟨by rw [hr]; exact m1, fun f e => by cases e; exact (clipF_le h m1).mpr ⟨a, m2⟩, fun f e => by cases e; exact (le_clipL h m1).mpr ⟨b, m3⟩⟩
  · cases e
/-! counting -/
def cnt (p : Int → Bool) (lo : Int) (n : Nat) : Nat := (List.range n).countP fun (k : Nat) => p (lo + (k : Int))
theorem cnt_zero (p : Int → Bool) (lo : Int) : cnt p lo 0 = 0 := rfl
theorem cnt_succ (p : Int → Bool) (lo : Int) (n : Nat) : cnt p lo (n + 1) = cnt p lo n + if p (lo + (n : Int)) = true then 1 else 0 := by
  unfold cnt
  rw [List.range_succ, List.countP_append, List.countP_cons, List.countP_nil]
  simp
theorem cnt_congr {p q : Int → Bool} {lo : Int} : ∀ {n : Nat}, (∀ x, lo ≤ x → x < lo + n → p x = q x) → cnt p lo n = cnt q lo n
  | 0, _ => rfl
  | n + 1, h => by
    rw [cnt_succ, cnt_succ, cnt_congr (n := n) fun x h1 h2 => h x h1 (by omega), h (lo + n) (by omega) (by omega)]
theorem cnt_none {p : Int → Bool} {lo : Int} : ∀ {n : Nat}, (∀ x, lo ≤ x → x < lo + n → p x = false) → cnt p lo n = 0
  | 0, _ => rfl
  | n + 1, h => by
    rw [cnt_succ, cnt_none (n := n) fun x h1 h2 => h x h1 (by omega), h (lo + n) (by omega) (by omega)]
    rfl
theorem cnt_split (p : Int → Bool) (lo : Int) (k : Nat) : ∀ m : Nat, cnt p lo (k + m) = cnt p lo k + cnt p (lo + k) m
  | 0 => by rw [cnt_zero]; rfl
  | m + 1 => by
    show cnt p lo ((k + m) + 1) = _
    rw [cnt_succ, cnt_succ, cnt_split p lo k m]
    have e : lo + ((k + m : Nat) : Int) = lo + (k : Int) + (m : Int) := by omega
    rw [e]; omega
/-- what lies without counts nothing -/
theorem cnt_within {p : Int → Bool} {lo a : Int} {n m : Nat} (h1 : lo ≤ a) (h2 : a + m ≤ lo + n) (h : ∀ x, p x = true → a ≤ x ∧ x < a + m) : cnt p lo n = cnt p a m := by
  obtain ⟨k, hk⟩ : ∃ k : Nat, a = lo + k := ⟨(a - lo).toNat, by omega⟩
  obtain ⟨j, hj⟩ : ∃ j : Nat, n = (k + m) + j := ⟨n - (k + m), by omega⟩
  subst hj
  rw [cnt_split, cnt_split, ← hk]
  rw [cnt_none (n := k), cnt_none (n := j)]
  · omega
  · intro x g1 g2
    cases e : p x with
    | false => rfl
    | true => have := h x e; omega
  · intro x g1 g2
    cases e : p x with
    | false => rfl
    | true => have := h x e; omega
theorem ediv_succ {a M : Int} (hM : 0 < M) : (a + 1) / M = a / M + if (a + 1) % M = 0 then 1 else 0 := by
  have e1 := Int.emod_add_mul_ediv a M
  have r0 := Int.emod_nonneg a (Int.ne_of_gt hM)
  have r1 := Int.emod_lt_of_pos a hM
  have f1 := Int.emod_add_mul_ediv (a + 1) M
  have s0 := Int.emod_nonneg (a + 1) (Int.ne_of_gt hM)
  have s1 := Int.emod_lt_of_pos (a + 1) hM
  generalize a / M = q at *
  generalize a % M = r at *
  generalize (a + 1) / M = q' at *
  generalize (a + 1) % M = r' at *
  have e : M * (q' - q) = r + 1 - r' := by rw [Int.mul_sub]; omega
  have b1 : q' - q < 2 := by
    rcases (show q' - q < 2 ∨ 2 ≤ q' - q by omega) with c | c
    · exact c
    · have : M * 2 ≤ M * (q' - q) := Int.mul_le_mul_of_nonneg_left c (Int.le_of_lt hM)
      omega
  have b0 : 0 ≤ q' - q := by
    rcases (show 0 ≤ q' - q ∨ q' - q ≤ -1 by omega) with c | c
    · exact c
    · have : M * (q' - q) ≤ M * (-1) := Int.mul_le_mul_of_nonneg_left c (Int.le_of_lt hM)
      omega
  rcases (show q' - q = 0 ∨ q' - q = 1 by omega) with c | c
  · rw [c] at e
    split <;> omega
  · rw [c] at e
    split <;> omega
/-- the numbers of one rest between two bounds -/
def apCount (q M lo hi : Int) : Int := if hi < lo + (q - lo) % M then 0 else (hi - (lo + (q - lo) % M)) / M + 1
theorem cnt_ap {q M : Int} (hM : 0 < M) (h0 : 0 ≤ q) (h1 : q < M) (lo : Int) : ∀ n : Nat, (cnt (fun x => decide (x % M = q)) lo n : Int) = apCount q M lo (lo + n - 1)
  | 0 => by
    have := Int.emod_nonneg (q - lo) (Int.ne_of_gt hM)
    unfold apCount
    rw [if_pos (by omega)]
    rfl
  | n + 1 => by
    rw [cnt_succ, Int.natCast_add, cnt_ap hM h0 h1 lo n]
    obtain ⟨s1, s2, s3⟩ := step_to (lo := lo) hM h0 h1
    have m1 : ∀ x, x % M = q ↔ (x - (lo + (q - lo) % M)) % M = 0 := fun x => by
      rw [← Int.emod_eq_emod_iff_emod_sub_eq_zero, s1]
    unfold apCount
    generalize lo + (q - lo) % M = first at *
    have e : lo + ((n + 1 : Nat) : Int) - 1 = lo + n := by omega
    rw [e]
    rcases (show lo + (n : Int) < first ∨ lo + (n : Int) = first ∨ first < lo + (n : Int) by omega) with c | c | c
    · rw [if_pos (show lo + (n : Int) - 1 < first by omega), if_pos c]
      have : ¬ (lo + (n : Int)) % M = q := fun h => by
        have := near_eq hM (s1.trans h.symm) (by omega) (Int.le_of_lt c)
        omega
      simp [this]
    · rw [if_pos (show lo + (n : Int) - 1 < first by omega), if_neg (show ¬ lo + (n : Int) < first by omega)]
      have : (lo + (n : Int)) % M = q := by rw [c]; exact s1
      rw [if_pos (decide_eq_true this), c]
      simp
    · rw [if_neg (show ¬ lo + (n : Int) - 1 < first by omega), if_neg (show ¬ lo + (n : Int) < first by omega)]
      have d := ediv_succ (a := lo + n - 1 - first) hM
      have e2 : lo + (n : Int) - 1 - first + 1 = lo + n - first := by omega
      rw [e2] at d
      rw [d]
      have k := m1 (lo + n)
      by_cases z : (lo + (n : Int)) % M = q
      · rw [if_pos (k.mp z)]; simp [z]
      · rw [if_neg (fun y => z (k.mpr y))]; simp [z]
/-- how many -/
def manyIn (r : Rw) : Int := (r.l.getD 0 - r.f.getD 0) / r.s + 1
theorem fin_mem {r : Rw} {f l x : Int} (ef : r.f = some f) (el : r.l = some l) : r.Mem x ↔ x % r.s = r.rest ∧ f ≤ x ∧ x ≤ l := by
  unfold Rw.Mem
  rw [ef, el]
  simp
theorem manyIn_cnt {r : Rw} (h : Fin r) {f l : Int} (ef : r.f = some f) (el : r.l = some l) {lo : Int} {n : Nat} (h1 : lo ≤ f) (h2 : l < lo + n) : manyIn r = (cnt r.mem lo n : Int) := by
  obtain ⟨ok, _⟩ := h
  have hfl := (ok.2.2 f l ef el).1
  have e1 : cnt r.mem lo n = cnt r.mem f (l - f + 1).toNat := cnt_within h1 (by omega) fun x hx => by
    have := (fin_mem ef el).mp ((r.mem_iff x).mp hx)
    omega
  have e2 : cnt r.mem f (l - f + 1).toNat = cnt (fun x => decide (x % r.s = r.rest)) f (l - f + 1).toNat := cnt_congr fun x a b => by
    refine Bool.eq_iff_iff.mpr ?_
    rw [r.mem_iff, fin_mem ef el, decide_eq_true_iff]
    exact ⟨fun h => h.1, fun h => ⟨h, by omega, by omega⟩⟩
  rw [e1, e2, cnt_ap ok.1 (Rw.rest0 ok.1) (Rw.rest1 ok.1)]
  have z : (r.rest - f) % r.s = 0 := by
    rw [← ok.restF ef]
    exact Int.emod_eq_emod_iff_emod_sub_eq_zero.mp (Int.emod_emod_of_dvd f (Int.dvd_refl _))
  unfold apCount manyIn
  rw [z, ef, el, if_neg (by omega)]
  simp only [Option.getD_some]
  congr 2
  omega
/-- what many_shared hands back -/
def manyShared (a b : Rw) (o : Option (Int × Int)) : Int := match lowOf a b, highOf a b with
  | some lo, some hi => if hi < lo then 0 else match o with
    | none => 0
    | some (q, M) => apCount q M lo hi
  | _, _ => 0
/-- .. as a count -/
def cntS (a b : Rw) : Int := (cnt (fun x => a.mem x && b.mem x) (a.f.getD 0) (a.l.getD 0 - a.f.getD 0 + 1).toNat : Int)
theorem cntS_eq {a b : Rw} {f l : Int} (ef : a.f = some f) (el : a.l = some l) (hfl : f ≤ l) {lo : Int} {n : Nat} (h1 : lo ≤ f) (h2 : l < lo + n) : cntS a b = (cnt (fun x => a.mem x && b.mem x) lo n : Int) := by
  unfold cntS
  rw [ef, el]
  simp only [Option.getD_some]
  rw [cnt_within (p := fun x => a.mem x && b.mem x) (lo := lo) (a := f) (n := n) (m := (l - f + 1).toNat) h1 (by omega) ?_]
  intro x hx
  have := (fin_mem ef el).mp ((a.mem_iff x).mp (by simp at hx; exact hx.1))
  omega
theorem manyShared_cnt {a b : Rw} (ha : Fin a) (hb : Fin b) {o : Option (Int × Int)} (ho : Both a.rest a.s b.rest b.s o) : manyShared a b o = cntS a b := by
  obtain ⟨oa, f, l, ef, el⟩ := ha
  obtain ⟨ob, f', l', ef', el'⟩ := hb
  have hfl := (oa.2.2 f l ef el).1
  have mb : ∀ x, (a.mem x && b.mem x) = true ↔ ((x % a.s = a.rest ∧ x % b.s = b.rest) ∧ (f ≤ x ∧ x ≤ l) ∧ (f' ≤ x ∧ x ≤ l')) := fun x => by
    rw [Bool.and_eq_true, a.mem_iff, b.mem_iff, fin_mem ef el, fin_mem ef' el']
    constructor
    · rintro ⟨⟨p1, p2⟩, p3, p4⟩; exact ⟨⟨p1, p3⟩, p2, p4⟩
    · rintro ⟨⟨p1, p3⟩, p2, p4⟩; exact ⟨⟨p1, p2⟩, p3, p4⟩
  have elo : lowOf a b = some (if f ≤ f' then f' else f) := by unfold lowOf; rw [ef, ef']
  have ehi : highOf a b = some (if l ≤ l' then l else l') := by unfold highOf; rw [el, el']
  have zero : (∀ x, (a.mem x && b.mem x) = false) → cntS a b = 0 := fun z => by
    unfold cntS
    rw [cnt_none fun x _ _ => z x]
    rfl
  unfold manyShared
  rw [elo, ehi]
  simp only []
  have hlo : f ≤ (if f ≤ f' then f' else f) ∧ f' ≤ (if f ≤ f' then f' else f) ∧ ((if f ≤ f' then f' else f) = f ∨ (if f ≤ f' then f' else f) = f') := by split <;> omega
  have hhi : (if l ≤ l' then l else l') ≤ l ∧ (if l ≤ l' then l else l') ≤ l' ∧ ((if l ≤ l' then l else l') = l ∨ (if l ≤ l' then l else l') = l') := by split <;> omega
  generalize (if f ≤ f' then f' else f) = lo at *
  generalize (if l ≤ l' then l else l') = hi at *
  split
  · rename_i c
    refine (zero fun x => ?_).symm
    cases e : (a.mem x && b.mem x) with
    | false => rfl
    | true => have := (mb x).mp e; omega
  · rename_i c
    cases o with
    | none =>
      refine (zero fun x => ?_).symm
      cases e : (a.mem x && b.mem x) with
      | false => rfl
      | true => exact absurd ((mb x).mp e).1 (ho x)
    | some p =>
      obtain ⟨q, M⟩ := p
      obtain ⟨hM, _, h0, h1, hx⟩ := ho
      show apCount q M lo hi = _
      unfold cntS
      rw [ef, el]
      simp only [Option.getD_some]
      rw [cnt_within (p := fun x => a.mem x && b.mem x) (lo := f) (a := lo) (n := (l - f + 1).toNat) (m := (hi - lo + 1).toNat) (by omega) (by omega) fun x h => by have := (mb x).mp h; omega]
      rw [cnt_congr (q := fun x => decide (x % M = q)) fun x g1 g2 => by
        refine Bool.eq_iff_iff.mpr ?_
        rw [mb x, decide_eq_true_iff, hx x]
        exact ⟨fun h => h.1, fun h => ⟨h, by omega, by omega⟩⟩]
      rw [cnt_ap hM h0 h1]
      congr 1
      omega
/-! sums of counts -/
def sumI (l : List Int) : Int := l.sum
theorem cnt_or {p q : Int → Bool} {lo : Int} : ∀ {n : Nat}, (∀ x, ¬ (p x = true ∧ q x = true)) → cnt (fun x => p x || q x) lo n = cnt p lo n + cnt q lo n
  | 0, _ => rfl
  | n + 1, h => by
    rw [cnt_succ, cnt_succ, cnt_succ, cnt_or (n := n) h]
    have := h (lo + n)
    cases e1 : p (lo + n) <;> cases e2 : q (lo + n) <;> simp_all <;> omega
def anyM (A : List Rw) (x : Int) : Bool := A.any fun r => r.mem x
theorem anyM_iff {A : List Rw} {x : Int} : anyM A x = true ↔ Nums A x := by
  unfold anyM Nums
  rw [List.any_eq_true]
  exact ⟨fun ⟨r, h1, h2⟩ => ⟨r, h1, (r.mem_iff x).mp h2⟩, fun ⟨r, h1, h2⟩ => ⟨r, h1, (r.mem_iff x).mpr h2⟩⟩
theorem cnt_any {lo : Int} {n : Nat} (p : Int → Bool) : ∀ {A : List Rw}, A.Pairwise Disj → (A.map fun r => (cnt (fun x => p x && r.mem x) lo n : Int)).sum = (cnt (fun x => p x && anyM A x) lo n : Int)
  | [], _ => by
    rw [cnt_none fun x _ _ => by simp [anyM]]
    rfl
  | r :: A, h => by
    obtain ⟨h1, h2⟩ := List.pairwise_cons.mp h
    have hd : ∀ x, ¬ ((p x && r.mem x) = true ∧ (p x && anyM A x) = true) := fun x ⟨a, b⟩ => by
      simp only [Bool.and_eq_true] at a b
      obtain ⟨r', m1, m2⟩ := anyM_iff.mp b.2
      exact h1 r' m1 x ⟨(r.mem_iff x).mp a.2, m2⟩
    rw [List.map_cons, List.sum_cons, cnt_any p h2, ← Int.natCast_add, ← cnt_or hd]
    congr 1
    refine cnt_congr fun x _ _ => ?_
    simp only [anyM, List.any_cons]
    cases p x <;> simp
theorem cnt_sub {p q : Int → Bool} {lo : Int} : ∀ {n : Nat}, cnt (fun x => p x && q x) lo n ≤ cnt p lo n ∧ (cnt p lo n = cnt (fun x => p x && q x) lo n ↔ ∀ x, lo ≤ x → x < lo + n → p x = true → q x = true)
  | 0 => ⟨Nat.le_refl _, fun _ x h1 h2 => by omega, fun _ => rfl⟩
  | n + 1 => by
    obtain ⟨a, b⟩ := cnt_sub (p := p) (q := q) (lo := lo) (n := n)
    rw [cnt_succ, cnt_succ]
    have hl : ∀ x, lo ≤ x → x < lo + ((n + 1 : Nat) : Int) → x < lo + n ∨ x = lo + n := fun x _ _ => by omega
    cases e1 : p (lo + n) with
    | false =>
      simp only [Bool.false_and, Bool.false_eq_true, if_false, Nat.add_zero]
      refine ⟨a, b.trans ⟨fun h x h1 h2 hp => ?_, fun h x h1 h2 => h x h1 (by omega)⟩⟩
      rcases hl x h1 h2 with c | c
      · exact h x h1 c hp
      · rw [c, e1] at hp; cases hp
    | true =>
      cases e2 : q (lo + n) with
      | true =>
        simp only [Bool.true_and, if_true]
        refine ⟨by omega, Iff.trans (by omega) (b.trans ⟨fun h x h1 h2 hp => ?_, fun h x h1 h2 => h x h1 (by omega)⟩)⟩
        rcases hl x h1 h2 with c | c
        · exact h x h1 c hp
        · rw [c]; exact e2
      | false =>
        simp only [Bool.true_and, Bool.false_eq_true, if_true, if_false, Nat.add_zero]
        refine ⟨by omega, fun h => by omega, fun h => ?_⟩
        have := h (lo + n) (by omega) (by omega) e1
        rw [e2] at this; cases this
theorem sum_congr' {α : Type} {f g : α → Int} : ∀ {A : List α}, (∀ a ∈ A, f a = g a) → (A.map f).sum = (A.map g).sum
  | [], _ => rfl
  | a :: A, h => by
    rw [List.map_cons, List.map_cons, List.sum_cons, List.sum_cons, h a (by simp), sum_congr' fun b hb => h b (by simp [hb])]
/-- the same numbers, told by counts -/
theorem same_counts {A B : List Rw} (fa : ∀ r ∈ A, Fin r) (fb : ∀ r ∈ B, Fin r) (pa : A.Pairwise Disj) (pb : B.Pairwise Disj) {lo : Int} {n : Nat}
    (ca : ∀ r ∈ A, ∀ x, r.Mem x → lo ≤ x ∧ x < lo + n) (cb : ∀ r ∈ B, ∀ x, r.Mem x → lo ≤ x ∧ x < lo + n) :
    ((A.map manyIn).sum = (A.map fun a => (B.map fun b => cntS a b).sum).sum ∧ (B.map manyIn).sum = (A.map fun a => (B.map fun b => cntS a b).sum).sum) ↔ SameN A B := by
  have ends : ∀ r, Fin r → ∃ f l, r.f = some f ∧ r.l = some l ∧ f ≤ l ∧ r.Mem f ∧ r.Mem l := fun r ⟨ok, f, l, ef, el⟩ => by
    have := (ok.2.2 f l ef el).1
    exact ⟨f, l, ef, el, this, (fin_mem ef el).mpr ⟨ok.restF ef, by omega, by omega⟩, (fin_mem ef el).mpr ⟨ok.restL el, by omega, by omega⟩⟩
  have mA : ∀ r ∈ A, manyIn r = (cnt r.mem lo n : Int) := fun r hr => by
    obtain ⟨f, l, ef, el, _, mf, ml⟩ := ends r (fa r hr)
    exact manyIn_cnt (fa r hr) ef el (ca r hr f mf).1 (ca r hr l ml).2
  have mB : ∀ r ∈ B, manyIn r = (cnt r.mem lo n : Int) := fun r hr => by
    obtain ⟨f, l, ef, el, _, mf, ml⟩ := ends r (fb r hr)
    exact manyIn_cnt (fb r hr) ef el (cb r hr f mf).1 (cb r hr l ml).2
  have sA : (A.map manyIn).sum = (cnt (anyM A) lo n : Int) := by
    rw [sum_congr' mA]
    have := cnt_any (lo := lo) (n := n) (fun _ => true) pa
    simp only [Bool.true_and] at this
    exact this
  have sB : (B.map manyIn).sum = (cnt (anyM B) lo n : Int) := by
    rw [sum_congr' mB]
    have := cnt_any (lo := lo) (n := n) (fun _ => true) pb
    simp only [Bool.true_and] at this
    exact this
  have sS : (A.map fun a => (B.map fun b => cntS a b).sum).sum = (cnt (fun x => anyM B x && anyM A x) lo n : Int) := by
    rw [← cnt_any (anyM B) pa]
    refine sum_congr' fun a ha => ?_
    obtain ⟨f, l, ef, el, hfl, mf, ml⟩ := ends a (fa a ha)
    rw [sum_congr' (g := fun b => (cnt (fun x => a.mem x && b.mem x) lo n : Int)) fun b _ => cntS_eq ef el hfl (ca a ha f mf).1 (ca a ha l ml).2]
    rw [cnt_any a.mem pb]
    congr 1
    exact cnt_congr fun x _ _ => Bool.and_comm _ _
  have eS : cnt (fun x => anyM B x && anyM A x) lo n = cnt (fun x => anyM A x && anyM B x) lo n := cnt_congr fun x _ _ => Bool.and_comm _ _
  rw [sA, sB, sS]
  have k1 := (cnt_sub (p := anyM A) (q := anyM B) (lo := lo) (n := n)).2
  have k2 := (cnt_sub (p := anyM B) (q := anyM A) (lo := lo) (n := n)).2
  constructor
  · rintro ⟨h1, h2⟩
    have h1 := k1.mp (by rw [← eS]; exact Int.ofNat.inj h1)
    have h2 := k2.mp (Int.ofNat.inj h2)
    intro x
    constructor
    · rintro ⟨r, hr, hm⟩
      have := ca r hr x hm
      exact anyM_iff.mp (h1 x this.1 this.2 (anyM_iff.mpr ⟨r, hr, hm⟩))
    · rintro ⟨r, hr, hm⟩
      have := cb r hr x hm
      exact anyM_iff.mp (h2 x this.1 this.2 (anyM_iff.mpr ⟨r, hr, hm⟩))
  · intro h
    constructor
    · rw [eS, k1.mpr fun x _ _ hp => anyM_iff.mpr ((h x).mp (anyM_iff.mp hp))]
    · rw [k2.mpr fun x _ _ hp => anyM_iff.mpr ((h x).mpr (anyM_iff.mp hp))]
/-! far away -/
def within (A : List Rw) (lo hi : Int) : List Rw := A.filterMap fun r => clip r lo hi
def endsOf (r : Rw) : List Int := r.f.toList ++ r.l.toList
theorem within_mem {A : List Rw} (ok : ∀ r ∈ A, r.Ok) {lo hi x : Int} : Nums (within A lo hi) x ↔ Nums A x ∧ lo ≤ x ∧ x ≤ hi := by
  unfold within
  constructor
  · rintro ⟨r', hr', hm⟩
    obtain ⟨r, hr, e⟩ := List.mem_filterMap.mp hr'
    have := ((clip_some (ok r hr) e).2.2 x).mp hm
    exact ⟨⟨r, hr, this.1⟩, this.2⟩
  · rintro ⟨⟨r, hr, hm⟩, h1, h2⟩
    cases e : clip r lo hi with
    | none => exact absurd hm (clip_none (ok r hr) e h1 h2)
    | some r' => exact ⟨r', List.mem_filterMap.mpr ⟨r, hr, e⟩, ((clip_some (ok r hr) e).2.2 x).mpr ⟨hm, h1, h2⟩⟩
theorem within_fin {A : List Rw} (ok : ∀ r ∈ A, r.Ok) {lo hi : Int} : (∀ r ∈ within A lo hi, Fin r) ∧ (∀ r ∈ within A lo hi, ∀ x, r.Mem x → lo ≤ x ∧ x ≤ hi) := by
  unfold within
  constructor
  · intro r' hr'
    obtain ⟨r, hr, e⟩ := List.mem_filterMap.mp hr'
    exact (clip_some (ok r hr) e).1
  · intro r' hr' x hm
    obtain ⟨r, hr, e⟩ := List.mem_filterMap.mp hr'
    exact (((clip_some (ok r hr) e).2.2 x).mp hm).2
theorem within_disj {A : List Rw} (ok : ∀ r ∈ A, r.Ok) (p : A.Pairwise Disj) {lo hi : Int} : (within A lo hi).Pairwise Disj := by
  unfold within
  rw [List.pairwise_filterMap]
  refine (List.Pairwise.and_mem.mp p).imp ?_
  rintro a b ⟨ha, hb, d⟩ a' ea b' eb x ⟨m1, m2⟩
  exact d x ⟨(((clip_some (ok a ha) ea).2.2 x).mp m1).1, (((clip_some (ok b hb) eb).2.2 x).mp m2).1⟩
/-- beyond all ends the rests alone tell -/
theorem far_right {r : Rw} {L x y t : Int} (hL : r.s ∣ L) (e : ∀ z ∈ endsOf r, z ≤ t) (hx : t < x) (hy : t < y) (h : L ∣ x - y) (hm : r.Mem x) : r.Mem y := by
  obtain ⟨m1, m2, m3⟩ := hm
  refine ⟨?_, fun f ef => ?_, fun l el => ?_⟩
  · rw [← m1]
    exact (Int.emod_eq_emod_iff_emod_sub_eq_zero.mpr (Int.dvd_iff_emod_eq_zero.mp (Int.dvd_trans hL h))).symm
  · have := e f (by unfold endsOf; rw [ef]; simp)
    omega
  · have := e l (by unfold endsOf; rw [el]; simp)
    have := m3 l el
    omega
theorem far_left {r : Rw} {L x y t : Int} (hL : r.s ∣ L) (e : ∀ z ∈ endsOf r, t ≤ z) (hx : x < t) (hy : y < t) (h : L ∣ x - y) (hm : r.Mem x) : r.Mem y := by
  obtain ⟨m1, m2, m3⟩ := hm
  refine ⟨?_, fun f ef => ?_, fun l el => ?_⟩
  · rw [← m1]
    exact (Int.emod_eq_emod_iff_emod_sub_eq_zero.mpr (Int.dvd_iff_emod_eq_zero.mp (Int.dvd_trans hL h))).symm
  · have := e f (by unfold endsOf; rw [ef]; simp)
    have := m2 f ef
    omega
  · have := e l (by unfold endsOf; rw [el]; simp)
    omega
theorem same_near {A B : List Rw} {L mn mx : Int} (hL : 0 < L) (hmn : mn ≤ mx) (hd : ∀ r ∈ A ++ B, r.s ∣ L) (e1 : ∀ r ∈ A ++ B, ∀ z ∈ endsOf r, mn ≤ z ∧ z ≤ mx)
    (h : ∀ x, mn - L ≤ x → x ≤ mx + L → (Nums A x ↔ Nums B x)) : SameN A B := by
  have right : ∀ {C D : List Rw}, (∀ r ∈ C, r.s ∣ L) → (∀ r ∈ D, r.s ∣ L) → (∀ r ∈ C, ∀ z ∈ endsOf r, z ≤ mx) → (∀ r ∈ D, ∀ z ∈ endsOf r, z ≤ mx) → ∀ x, mx < x →
      (∀ y, mx < y → y ≤ mx + L → (Nums C y → Nums D y)) → Nums C x → Nums D x := by
    rintro C D hC hD eC eD x hx k ⟨r, hr, hm⟩
    have a0 := Int.emod_nonneg (x - (mx + 1)) (Int.ne_of_gt hL)
    have a1 := Int.emod_lt_of_pos (x - (mx + 1)) hL
    have dv : L ∣ x - (mx + 1 + (x - (mx + 1)) % L) := by
      have := sub_dvd (rfl : (x - (mx + 1)) % L = (x - (mx + 1)) % L)
      have e : x - (mx + 1 + (x - (mx + 1)) % L) = (x - (mx + 1)) - (x - (mx + 1)) % L := by omega
      rw [e]; exact this
    have dv' : L ∣ (mx + 1 + (x - (mx + 1)) % L) - x := by
      have := Int.dvd_neg.mpr dv
      rw [Int.neg_sub] at this
      exact this
    have y1 : mx < mx + 1 + (x - (mx + 1)) % L := by omega
    have y2 : mx + 1 + (x - (mx + 1)) % L ≤ mx + L := by omega
    generalize mx + 1 + (x - (mx + 1)) % L = y at *
    obtain ⟨r', hr', hm'⟩ := k y y1 y2 ⟨r, hr, far_right (hC r hr) (eC r hr) hx y1 dv hm⟩
    exact ⟨r', hr', far_right (hD r' hr') (eD r' hr') y1 hx dv' hm'⟩
  have left : ∀ {C D : List Rw}, (∀ r ∈ C, r.s ∣ L) → (∀ r ∈ D, r.s ∣ L) → (∀ r ∈ C, ∀ z ∈ endsOf r, mn ≤ z) → (∀ r ∈ D, ∀ z ∈ endsOf r, mn ≤ z) → ∀ x, x < mn →
      (∀ y, y < mn → mn - L ≤ y → (Nums C y → Nums D y)) → Nums C x → Nums D x := by
    rintro C D hC hD eC eD x hx k ⟨r, hr, hm⟩
    have a0 := Int.emod_nonneg (mn - 1 - x) (Int.ne_of_gt hL)
    have a1 := Int.emod_lt_of_pos (mn - 1 - x) hL
    have dv' : L ∣ (mn - 1 - (mn - 1 - x) % L) - x := by
      have := sub_dvd (rfl : (mn - 1 - x) % L = (mn - 1 - x) % L)
      have e : (mn - 1 - (mn - 1 - x) % L) - x = (mn - 1 - x) - (mn - 1 - x) % L := by omega
      rw [e]; exact this
    have dv : L ∣ x - (mn - 1 - (mn - 1 - x) % L) := by
      have := Int.dvd_neg.mpr dv'
      rw [Int.neg_sub] at this
      exact this
    have y1 : mn - 1 - (mn - 1 - x) % L < mn := by omega
    have y2 : mn - L ≤ mn - 1 - (mn - 1 - x) % L := by omega
    generalize mn - 1 - (mn - 1 - x) % L = y at *
    obtain ⟨r', hr', hm'⟩ := k y y1 y2 ⟨r, hr, far_left (hC r hr) (eC r hr) hx y1 dv hm⟩
    exact ⟨r', hr', far_left (hD r' hr') (eD r' hr') y1 hx dv' hm'⟩
  have dA : ∀ r ∈ A, r.s ∣ L := fun r hr => hd r (by simp [hr])
  have dB : ∀ r ∈ B, r.s ∣ L := fun r hr => hd r (by simp [hr])
  have eA : ∀ r ∈ A, ∀ z ∈ endsOf r, mn ≤ z ∧ z ≤ mx := fun r hr => e1 r (by simp [hr])
  have eB : ∀ r ∈ B, ∀ z ∈ endsOf r, mn ≤ z ∧ z ≤ mx := fun r hr => e1 r (by simp [hr])
  intro x
  rcases (show x < mn ∨ mx < x ∨ (mn ≤ x ∧ x ≤ mx) by omega) with c | c | ⟨c1, c2⟩
  · exact ⟨left dA dB (fun r hr z hz => (eA r hr z hz).1) (fun r hr z hz => (eB r hr z hz).1) x c fun y g1 g2 => (h y g2 (by omega)).mp,
      left dB dA (fun r hr z hz => (eB r hr z hz).1) (fun r hr z hz => (eA r hr z hz).1) x c fun y g1 g2 => (h y g2 (by omega)).mpr⟩
  · exact ⟨right dA dB (fun r hr z hz => (eA r hr z hz).2) (fun r hr z hz => (eB r hr z hz).2) x c fun y g1 g2 => (h y (by omega) g2).mp,
      right dB dA (fun r hr z hz => (eB r hr z hz).2) (fun r hr z hz => (eA r hr z hz).2) x c fun y g1 g2 => (h y (by omega) g2).mpr⟩
  · exact h x (by omega) (by omega)
/-- THE LAW of same -/
theorem same_law {A B : List Rw} (okA : ∀ r ∈ A, r.Ok) (okB : ∀ r ∈ B, r.Ok) (pA : A.Pairwise Disj) (pB : B.Pairwise Disj) {L mn mx : Int} (hL : 0 < L) (hmn : mn ≤ mx)
    (hd : ∀ r ∈ A ++ B, r.s ∣ L) (e1 : ∀ r ∈ A ++ B, ∀ z ∈ endsOf r, mn ≤ z ∧ z ≤ mx) :
    let A' := within A (mn - L) (mx + L)
    let B' := within B (mn - L) (mx + L)
    ((A'.map manyIn).sum = (A'.map fun a => (B'.map fun b => cntS a b).sum).sum ∧ (B'.map manyIn).sum = (A'.map fun a => (B'.map fun b => cntS a b).sum).sum) ↔ SameN A B := by
  intro A' B'
  obtain ⟨fa, ca⟩ := within_fin okA (lo := mn - L) (hi := mx + L)
  obtain ⟨fb, cb⟩ := within_fin okB (lo := mn - L) (hi := mx + L)
  have k := same_counts fa fb (within_disj okA pA) (within_disj okB pB) (lo := mn - L) (n := (mx + L - (mn - L) + 1).toNat)
    (fun r hr x hx => by have := ca r hr x hx; omega) (fun r hr x hx => by have := cb r hr x hx; omega)
  refine k.trans ⟨fun h => ?_, fun h x => ?_⟩
  · refine same_near hL hmn hd e1 fun x h1 h2 => ?_
    have := h x
    rw [within_mem okA, within_mem okB] at this
    exact ⟨fun q => (this.mp ⟨q, h1, h2⟩).1, fun q => (this.mpr ⟨q, h1, h2⟩).1⟩
  · rw [within_mem okA, within_mem okB, h x]
end K16
namespace K16
open PySem PySem.Spec PyProof.Rows L2
/-! the text by places -/
def top (i : Nat) : Stmt := PySem.Challenge.pw_claimduel_k16_whole_same_layouts.main.body.getD i (.Pass ⟨0, 0, 0, 0⟩)
abbrev sIsInt : Stmt := top 7
abbrev sIsWithin : Stmt := top 8
abbrev sFixed : Stmt := top 11
abbrev sLcm : Stmt := top 13
abbrev sInv : Stmt := top 14
abbrev sRoot : Stmt := top 15
abbrev sBoth : Stmt := top 16
abbrev sIsSteps : Stmt := top 19
abbrev sRest : Stmt := top 20
abbrev sBounds : Stmt := top 21
abbrev sShared : Stmt := top 22
abbrev sApart : Stmt := top 23
abbrev sTurn : Stmt := top 24
abbrev sManyIn : Stmt := top 25
abbrev sClipped : Stmt := top 26
abbrev sManyShared : Stmt := top 27
abbrev sInit : Stmt := inClass (top 28) 0
abbrev sSame : Stmt := inClass (top 28) 6
abbrev sNeed : Stmt := top 29
abbrev sWithin : Stmt := top 30
abbrev sQuilt : Stmt := top 32
abbrev sStitch : Stmt := top 33
abbrev sPatch : Stmt := top 34
abbrev sBroken : Stmt := top 35
abbrev sDrawn : Stmt := top 36
abbrev sPatched : Stmt := top 37
abbrev sChanged : Stmt := top 38
abbrev sOdd : Stmt := top 39
abbrev sUnlike : Stmt := top 40
abbrev sLaw : Stmt := top 41
/-! a def of the module by its name; a def that keeps a promise -/
structure Def (K : PySem.W.Frag) (mg : Str → Option Value) (x : Str) (st : Stmt) : Prop where
  ex : ∃ (f : Addr) (fd : FuncData), L2.Fun K x x st f fd ∧ mg x = some (.ref f)
structure Cal (P : Program) (w : World) (K : PySem.W.Frag) (mg : Str → Option Value) (base : Heap) (k : Nat) (x : Str) (sp : Sp) : Prop where
  ex : ∃ (f : Addr) (fd : FuncData) (ps : List Str), FnOk P w K mg base L2.CX0 k f fd ps sp ∧ mg x = some (.ref f) ∧ PySem.W.keepIn K (.ref f) = true ∧ Binds K fd ps []
section
variable {P : Program} {w : World} {K : PySem.W.Frag} {mg : Str → Option Value} {base : Heap}
theorem Cal.imp {k : Nat} {x : Str} {sp sp' : Sp} (c : Cal P w K mg base k x sp) (h : ∀ vs H Q E, sp' vs H Q E → sp vs H Q E) : Cal P w K mg base k x sp' := by
  obtain ⟨f, fd, ps, F, hm, kp, b⟩ := c.ex
  exact ⟨f, fd, ps, F.imp h, hm, kp, b⟩
theorem Cal.mono {k j : Nat} {x : Str} {sp : Sp} (c : Cal P w K mg base k x sp) (h : k ≤ j) : Cal P w K mg base j x sp := by
  obtain ⟨f, fd, ps, F, hm, kp, b⟩ := c.ex
  exact ⟨f, fd, ps, F.mono h, hm, kp, b⟩
theorem cal_of {x : Str} {st : Stmt} {N ps : List Str} {k : Nat} {sp : Sp} (D : Def K mg x st)
    (b : ∀ (kV doc pm : Value) (an : Option Addr) (cdv ct : Value) (us : List Value), us.length = ps.length → bindArgs (PySem.W.fnOf x x (defArgs st) (defBody st) (defScope st) .none kV doc pm an cdv ct) ⟨us, []⟩ = pure (ps.zip us))
    (S : FnScope N ps (defScope st)) (len : ∀ vs H Q E, sp vs H Q E → vs.length = ps.length)
    (hbody : ∀ (f : Addr) (cdv : Value) (A : Around) (outer : List Env) (s : Shared) (H : Hp) (vs : List V) (Q : VK) (E : XK), Room k (A.deeper (envOfC x (defScope st) s.heap.objs.size f cdv)) → sp vs H Q E →
      ∃ t, PSs (cxOf L2.CX0 P w K mg base N x (defScope st) f cdv A outer s H E).nox (defBody st) t ∧ t { nx := fun _ H' => Q .non H', rt := Q } (start N vs) H) : Cal P w K mg base (k + 1) x sp := by
  obtain ⟨f, fd, F, hm⟩ := D.ex
  exact ⟨f, fd, ps, F.ok S len (hbody f), hm, F.kp, F.binds b⟩
end
section
variable {X : Cx} {k j : Nat} {x : Str} {sp : Sp} {p pos : Pos} {e : Expr} {es : List Expr} {t : TA}
theorem pe_c (c : Cal X.prog X.w X.K X.mg X.base k x sp) (hr : Room j X.A) (hk : k ≤ j) (hg : Gl X x) (ha : PA X (e :: es) t)
    (hdb : (x == ("__debug__" : Str)) = false := by decide) (he : starEach (e :: es) X.env = (false, eval e X.env) :: starEach es X.env := by rfl) (hpl : (backTo pos (starEach es X.env)).any (·.1) = false := by rfl) :
    PE X (.Call (.Name x p) (e :: es) [] pos) (tCall sp [] E0 t) := by
  obtain ⟨f, fd, ps, F, hm, kp, b⟩ := c.ex
  exact pe_call F (hr.mono hk) hg hm kp b .nil pass0 ha hdb he hpl
end
theorem iteB {b : Bool} {A B : Prop} (h : b = true) (ha : A) : if b = true then A else B := by
  rw [if_pos h]
  exact ha
theorem iteN {b : Bool} {A B : Prop} (h : b = false) (hb : B) : if b = true then A else B := by
  rw [h]
  exact iteF hb
/-! rows in the heap -/
def oV : Option Int → V
  | none => .non
  | some i => .int i
def rwV (r : Rw) : List V := [oV r.f, oV r.l, .int r.s]
def RowAt (H : Hp) (v : V) (r : Rw) : Prop := ∃ t, v = .ref t ∧ H t = some (.tup (rwV r))
def RowsAt (H : Hp) (vs : List V) (rs : List Rw) : Prop := Paired (RowAt H) vs rs
theorem RowAt.same {H H' : Hp} {v : V} {r : Rw} (e : Same H H') (h : RowAt H v r) : RowAt H' v r := by
  obtain ⟨t, a, b⟩ := h
  exact ⟨t, a, e _ _ b⟩
theorem RowsAt.same {H H' : Hp} {vs : List V} {rs : List Rw} (e : Same H H') (h : RowsAt H vs rs) : RowsAt H' vs rs := Paired.mapP h fun _ _ q => q.same e
theorem pairedLen {α β : Type} {F : α → β → Prop} : ∀ {xs : List α} {ys : List β}, Paired F xs ys → xs.length = ys.length
  | _, _, .nil => rfl
  | _, _, .cons _ t => by rw [List.length_cons, List.length_cons, pairedLen t]
theorem pairedGet {α β : Type} {F : α → β → Prop} : ∀ {xs : List α} {ys : List β} {i : Nat} {x : α}, Paired F xs ys → xs[i]? = some x → ∃ y, ys[i]? = some y ∧ F x y
  | _, _, i, x, .nil, h => by simp at h
  | _, _, 0, x, .cons h _, e => by
    simp at e; subst e
    exact ⟨_, rfl, h⟩
  | _, _, i + 1, x, .cons _ t, e => by
    obtain ⟨y, h1, h2⟩ := pairedGet (i := i) t (by simpa using e)
    exact ⟨y, by simpa using h1, h2⟩
theorem pairedApp {α β : Type} {F : α → β → Prop} : ∀ {xs xs' : List α} {ys ys' : List β}, Paired F xs ys → Paired F xs' ys' → Paired F (xs ++ xs') (ys ++ ys')
  | _, _, _, _, .nil, h => h
  | _, _, _, _, .cons a t, h => .cons a (pairedApp t h)
theorem pairedSnoc {α β : Type} {F : α → β → Prop} {xs : List α} {ys : List β} {x : α} {y : β} (h : Paired F xs ys) (q : F x y) : Paired F (xs ++ [x]) (ys ++ [y]) := pairedApp h (.cons q .nil)
theorem same_upd {H : Hp} {p : Addr} {o : HO} (h : H p = none) : Same H (upd H p o) := fun b x e => by
  rw [upd_ne (ne_of_none e h)]
  exact e
/-- what the walk asks of built-in names -/
structure Bi (mg : Str → Option Value) : Prop where
  isinstance : mg "isinstance" = none
  int : mg "int" = none
  bool : mg "bool" = none
  list : mg "list" = none
  tuple : mg "tuple" = none
  len : mg "len" = none
  max : mg "max" = none
  min : mg "min" = none
  any : mg "any" = none
  all : mg "all" = none
  zip : mg "zip" = none
  enumerate : mg "enumerate" = none
  sorted : mg "sorted" = none
  sum : mg "sum" = none
  range : mg "range" = none
  abs : mg "abs" = none
  super : mg "super" = none
  gcd : mg "gcd" = some (.builtin "math.gcd")
end K16
namespace K16
open PySem PySem.Spec PyProof.Rows L2
section
variable {P : Program} {w : World} {K : PySem.W.Frag} {mg : Str → Option Value} {base : Heap}
/-! is_integer -/
theorem scIsInt : FnScope ["value"] ["value"] (defScope sIsInt) := ⟨rfl, rfl, rfl, by decide +kernel, rfl, by decide +kernel, by decide +kernel⟩
def spIsInt : Sp := fun vs H Q _ => ∃ o : Option Int, vs = [oV o] ∧ Q (.bl o.isSome) H
theorem cal_isInt (T : Bi mg) (D : Def K mg "is_integer" sIsInt) : Cal P w K mg base 1 "is_integer" spIsInt := by
  refine cal_of D (ps := ["value"]) (fun _ _ _ _ _ _ us hl => match us, hl with | [_], _ => rfl) scIsInt (fun vs H Q E h => ?_) (fun f cdv A outer s H vs Q E hr h => ?_)
  · obtain ⟨o, rfl, _⟩ := h
    rfl
  · obtain ⟨o, rfl, k⟩ := h
    refine ⟨_, pss_one (ps_ret (pe_and (pe_callB call_isi (by rfl) T.isinstance boot_isinstance (pa_cons (pv 0) (pa_cons (pe_bltn (v := .ty "int") (by rfl) T.int boot_int rfl) pa_nil)))
      (pe_one (pe_not (pe_callB call_isi (by rfl) T.isinstance boot_isinstance (pa_cons (pv 0) (pa_cons (pe_bltn (v := .ty "bool") (by rfl) T.bool boot_bool rfl) pa_nil))))))), ?_⟩
    cases o with
    | none => exact ⟨_, rfl, _, _, _, _, _, rfl, .ty "int", .base .non, kit_ty (by decide +kernel), false, rfl, iteF k⟩
    | some i => exact ⟨_, rfl, _, _, _, _, _, rfl, .ty "int", .base (.int i), kit_ty (by decide +kernel), true, rfl, iteT ⟨_, rfl, _, _, _, _, _, rfl, .ty "bool", .base (.int i), kit_ty (by decide +kernel), false, rfl, k⟩⟩
/-! is_within(value, 1, None) -/
theorem scIsWithin : FnScope ["value", "least", "most"] ["value", "least", "most"] (defScope sIsWithin) := ⟨rfl, rfl, rfl, by decide +kernel, rfl, by decide +kernel, by decide +kernel⟩
def spIsWithin : Sp := fun vs H Q _ => ∃ i : Int, vs = [.int i, .int 1, .non] ∧ 1 ≤ i ∧ Q (.bl true) H
theorem cal_isWithin (D : Def K mg "is_within" sIsWithin) (c1 : Cal P w K mg base 1 "is_integer" spIsInt) : Cal P w K mg base 2 "is_within" spIsWithin := by
  refine cal_of D (ps := ["value", "least", "most"]) (fun _ _ _ _ _ _ us hl => match us, hl with | [_, _, _], _ => rfl) scIsWithin (fun vs H Q E h => ?_) (fun f cdv A outer s H vs Q E hr h => ?_)
  · obtain ⟨o, rfl, _⟩ := h
    rfl
  · obtain ⟨i, rfl, hi, k⟩ := h
    refine ⟨_, pss_cons (ps_if (pt_not (pt_val (pe_c c1 hr (by decide) (by rfl) (pa_cons (pv 0) pa_nil)))) (pss_one (ps_ret pe_bl)) pss_nil)
      (pss_one (ps_ret (pe_and (pe_or (pe_cmp (pc_isN (pv 1)) rfl) (pe_one (pe_cmpR op_ge (pv 0) (pv 1) (nomark _)))) (pe_one (pe_or (pe_cmp (pc_isN (pv 2)) rfl) (pe_one (pe_cmpR op_le (pv 0) (pv 2) (nomark _)))))))), ?_⟩
    refine ⟨_, rfl, some i, rfl, true, rfl, iteF ?_⟩
    refine ⟨_, rfl, false, rfl, iteF ⟨_, rfl, _, rfl, _, _, rfl, rfl, true, congrArg V.bl (decide_eq_true hi), iteT ⟨_, rfl, true, rfl, iteT k⟩⟩⟩
/-! rest_in -/
theorem scRest : FnScope ["row"] ["row"] (defScope sRest) := ⟨rfl, rfl, rfl, by decide +kernel, rfl, by decide +kernel, by decide +kernel⟩
def spRest : Sp := fun vs H Q _ => ∃ (v : V) (r : Rw), vs = [v] ∧ RowAt H v r ∧ r.Ok ∧ Q (.int r.rest) H
theorem cal_rest (T : Bi mg) (D : Def K mg "rest_in" sRest) : Cal P w K mg base 1 "rest_in" spRest := by
  refine cal_of D (ps := ["row"]) (fun _ _ _ _ _ _ us hl => match us, hl with | [_], _ => rfl) scRest (fun vs H Q E h => ?_) (fun f cdv A outer s H vs Q E hr h => ?_)
  · obtain ⟨v, r, rfl, _⟩ := h
    rfl
  · obtain ⟨v, r, rfl, ⟨t, rfl, ht⟩, ok, k⟩ := h
    refine ⟨_, pss_one (ps_ret (pe_op op_mod (pe_callTy call_int1 (by rfl) T.int boot_int (pa_cons (pe_ifExp (pt_cmp (pc_isN (pe_ix ix_tup (pv 0) pe_int (fun _ _ => rfl)))) (pe_ix ix_tup (pv 0) pe_int (fun _ _ => rfl)) (pe_ix ix_tup (pv 0) pe_int (fun _ _ => rfl))) pa_nil))
      (pe_ix ix_tup (pv 0) pe_int (fun _ _ => rfl)))), ?_⟩
    obtain ⟨f, l, st⟩ := r
    refine ⟨_, rfl, t, _, _, _, rfl, rfl, SqT.of ht, atI_nat (j := 0) rfl, ?_⟩
    cases f with
    | none =>
      cases l with
      | none => exact (ok.2.1.elim (fun h => h rfl) (fun h => h rfl)).elim
      | some l => exact ⟨true, rfl, iteT ⟨_, rfl, t, _, _, _, rfl, rfl, SqT.of ht, atI_nat (j := 1) rfl, .inl ⟨_, rfl, _, rfl, t, _, _, _, rfl, rfl, SqT.of ht, atI_nat (j := 2) rfl, _, _, rfl, rfl, ok.1, k⟩⟩⟩
    | some f => exact ⟨false, rfl, iteF ⟨_, rfl, t, _, _, _, rfl, rfl, SqT.of ht, atI_nat (j := 0) rfl, .inl ⟨_, rfl, _, rfl, t, _, _, _, rfl, rfl, SqT.of ht, atI_nat (j := 2) rfl, _, _, rfl, rfl, ok.1, k⟩⟩⟩
/-! lcm_in -/
def lcmI (a n : Int) : Int := a / (Nat.gcd a.natAbs n.natAbs : Nat) * n
def lcmL (ns : List Int) : Int := ns.foldl lcmI 1
theorem lcmI_eq {a n : Int} (ha : 0 < a) (hn : 0 < n) : lcmI a n = (Nat.lcm a.natAbs n.natAbs : Nat) := by
  have d : Nat.gcd a.natAbs n.natAbs ∣ a.natAbs := Nat.gcd_dvd_left _ _
  unfold lcmI Nat.lcm
  rw [Nat.mul_comm, Nat.mul_div_assoc _ d, Nat.mul_comm, Int.natCast_mul, Int.natCast_ediv]
  have e1 : (a.natAbs : Int) = a := by omega
  have e2 : (n.natAbs : Int) = n := by omega
  rw [e1, e2]
theorem lcmI_pos {a n : Int} (ha : 0 < a) (hn : 0 < n) : 0 < lcmI a n := by
  rw [lcmI_eq ha hn]
  exact Int.ofNat_lt.mpr (Nat.lcm_pos (by omega) (by omega))
theorem lcmI_dvd1 {a n : Int} (ha : 0 < a) (hn : 0 < n) : a ∣ lcmI a n := by
  rw [lcmI_eq ha hn]
  refine Int.natAbs_dvd_natAbs.mp ?_
  rw [Int.natAbs_natCast]
  exact Nat.dvd_lcm_left _ _
theorem lcmI_dvd2 {a n : Int} (ha : 0 < a) (hn : 0 < n) : n ∣ lcmI a n := by
  rw [lcmI_eq ha hn]
  refine Int.natAbs_dvd_natAbs.mp ?_
  rw [Int.natAbs_natCast]
  exact Nat.dvd_lcm_right _ _
theorem lcmI_lt {a n : Int} {x y : Nat} (ha : a.natAbs < 2 ^ x) (hn : n.natAbs < 2 ^ y) : (lcmI a n).natAbs < 2 ^ (x + y) := by
  unfold lcmI
  refine wide_lt (Nat.lt_of_le_of_lt (Int.natAbs_ediv_le_natAbs _ _) ha) hn
theorem foldl_lcm : ∀ (ns : List Int) (a : Int), 0 < a → (∀ n ∈ ns, 0 < n) → 0 < ns.foldl lcmI a ∧ a ∣ ns.foldl lcmI a ∧ ∀ n ∈ ns, n ∣ ns.foldl lcmI a
  | [], a, ha, _ => ⟨ha, Int.dvd_refl _, fun n h => by simp at h⟩
  | m :: ns, a, ha, h => by
    have hm := h m (by simp)
    obtain ⟨h1, h2, h3⟩ := foldl_lcm ns (lcmI a m) (lcmI_pos ha hm) fun n hn => h n (by simp [hn])
    refine ⟨h1, Int.dvd_trans (lcmI_dvd1 ha hm) h2, fun n hn => ?_⟩
    rcases List.mem_cons.mp hn with e | hn
    · rw [e]; exact Int.dvd_trans (lcmI_dvd2 ha hm) h2
    · exact h3 n hn
theorem foldl_lt : ∀ (ns : List Int) (a : Int) (x : Nat), a.natAbs < 2 ^ x → (∀ n ∈ ns, n.natAbs < 2 ^ 64) → (ns.foldl lcmI a).natAbs < 2 ^ (x + 64 * ns.length)
  | [], a, x, ha, _ => ha
  | m :: ns, a, x, ha, h => by
    have q := foldl_lt ns (lcmI a m) (x + 64) (lcmI_lt ha (h m (by simp))) fun n hn => h n (by simp [hn])
    have e : x + 64 * (m :: ns).length = x + 64 + 64 * ns.length := by rw [List.length_cons]; omega
    rw [e]; exact q
theorem lcmL_pos {ns : List Int} (h : ∀ n ∈ ns, 0 < n) : 0 < lcmL ns := (foldl_lcm ns 1 (by decide) h).1
theorem lcmL_dvd {ns : List Int} (h : ∀ n ∈ ns, 0 < n) : ∀ n ∈ ns, n ∣ lcmL ns := (foldl_lcm ns 1 (by decide) h).2.2
theorem lcmL_lt {ns : List Int} (h : ∀ n ∈ ns, n.natAbs < 2 ^ 64) : (lcmL ns).natAbs < 2 ^ (1 + 64 * ns.length) := foldl_lt ns 1 1 (by decide) h
theorem lcmL_two {m m' : Int} (hm : 0 < m) (hm' : 0 < m') : lcmL [m, m'] = (Nat.lcm m.natAbs m'.natAbs : Nat) := by
  show lcmI (lcmI 1 m) m' = _
  have e : lcmI 1 m = m := by
    unfold lcmI
    simp
  rw [e, lcmI_eq hm hm']
theorem intGet {ns : List Int} {i : Nat} {x : V} (h : (ns.map V.int)[i]? = some x) : ∃ n, ns[i]? = some n ∧ x = .int n := by
  rw [List.getElem?_map] at h
  cases e : ns[i]? with
  | none => rw [e] at h; cases h
  | some n => rw [e] at h; exact ⟨n, rfl, (Option.some.inj h).symm⟩
theorem scLcm : FnScope ["numbers", "found", "number"] ["numbers"] (defScope sLcm) := ⟨rfl, rfl, rfl, by decide +kernel, rfl, by decide +kernel, by decide +kernel⟩
def spLcm (K : PySem.W.Frag) : Sp := fun vs H Q _ => ∃ (a : Addr) (ns : List Int), vs = [.ref a] ∧ SqL K H a (ns.map V.int) ∧ ns.length ≤ 2000 ∧ (∀ n ∈ ns, 0 < n ∧ n.natAbs < 2 ^ 64) ∧ Q (.int (lcmL ns)) H
theorem cal_lcm (T : Bi mg) (D : Def K mg "lcm_in" sLcm) : Cal P w K mg base 1 "lcm_in" (spLcm K) := by
  refine cal_of D (ps := ["numbers"]) (fun _ _ _ _ _ _ us hl => match us, hl with | [_], _ => rfl) scLcm (fun vs H Q E h => ?_) (fun f cdv A outer s H vs Q E hr h => ?_)
  · obtain ⟨v, r, rfl, _⟩ := h
    rfl
  · obtain ⟨a, ns, rfl, hS, hlen, hb, k⟩ := h
    refine ⟨_, pss_cons (ps_set (i := 1) scLcm.nd rfl (.inl rfl) pe_int)
      (pss_cons (ps_for PassesOwn.never rfl (pi_list (pv 0)) (pg_name (i := 2) scLcm.nd rfl (.inl rfl))
        (pss_one (ps_set (i := 1) scLcm.nd rfl (.inl rfl) (pe_op op_mulW (pe_op op_fdivW (pv 1) (pe_callBfun cr_gcd (by rfl) T.gcd (pa_cons (pv 1) (pa_cons (pv 2) pa_nil)))) (pv 2)))))
      (pss_one (ps_ret (pv 1)))), ?_⟩
    refine ⟨_, rfl, a, rfl, ⟨_, hS⟩, for_list (K := K) (a := a) (xs := ns.map V.int) (fun i σ H' => ∃ v, σ = [some (.ref a), some (.int (lcmL (ns.take i))), v] ∧ H' = H)
      ⟨none, rfl, rfl⟩ (fun i σ H' _ ⟨_, _, e⟩ => by rw [e]; exact hS) ?_ ?_⟩
    · rintro i x σ H' hi ⟨v, rfl, rfl⟩
      obtain ⟨n, hn, rfl⟩ := intGet hi
      have hm := List.mem_of_getElem? hn
      have hil : i < ns.length := (List.getElem?_eq_some_iff.mp hn).1
      have tp : ∀ m ∈ ns.take i, 0 < m := fun m h => (hb m (List.mem_of_mem_take h)).1
      have tb : ∀ m ∈ ns.take i, m.natAbs < 2 ^ 64 := fun m h => (hb m (List.mem_of_mem_take h)).2
      have lp := lcmL_pos tp
      have lb := lcmL_lt tb
      have gp : 0 < Nat.gcd (lcmL (ns.take i)).natAbs n.natAbs := Nat.gcd_pos_of_pos_left _ (by omega)
      have gle : Nat.gcd (lcmL (ns.take i)).natAbs n.natAbs ≤ n.natAbs := Nat.gcd_le_right _ (by have := (hb n hm).1; omega)
      have e : lcmL (ns.take (i + 1)) = lcmI (lcmL (ns.take i)) n := by
        unfold lcmL
        rw [List.take_add_one, hn, List.foldl_append]
        rfl
      refine ⟨_, rfl, _, rfl, _, rfl, _, _, rfl, _, _, rfl, rfl, ?_, _, rfl, _, _, rfl, rfl, ?_, ?_⟩
      · exact wide_div (b := 64) (Int.ofNat_lt.mpr gp) (by rw [Int.natAbs_natCast]; exact Nat.lt_of_le_of_lt gle (hb n hm).2) (by decide) (by decide)
      · refine wide_mul (a := 1 + 64 * (ns.take i).length) (b := 64) (Nat.lt_of_le_of_lt (Int.natAbs_ediv_le_natAbs _ _) lb) (hb n hm).2 (by omega) (by decide) ?_
        rw [List.length_take]; omega
      · exact ⟨some (.int n), by rw [e]; rfl, rfl⟩
    · rintro σ H' ⟨v, rfl, rfl⟩
      refine ⟨_, rfl, ?_⟩
      have e : ns.take (ns.map V.int).length = ns := by rw [List.length_map]; exact List.take_length
      rw [e]; exact k
end
end K16
namespace K16
open PySem PySem.Spec PyProof.Rows L2
section
variable {P : Program} {w : World} {K : PySem.W.Frag} {mg : Str → Option Value} {base : Heap}
/-! inverse_in -/
theorem scInv : FnScope ["number", "m", "left", "rest", "one", "other", "times"] ["number", "m"] (defScope sInv) := ⟨rfl, rfl, rfl, by decide +kernel, rfl, by decide +kernel, by decide +kernel⟩
def spInv : Sp := fun vs H Q _ => ∃ number m : Int, vs = [.int number, .int m] ∧ 0 < m ∧ m.natAbs < 2 ^ 64 ∧ (∀ d : Int, d ∣ m → d ∣ number → d ∣ 1) ∧
  ∀ (i : Int) (H' : Hp), Same H H' → 0 ≤ i → i < m → m ∣ number * i - 1 → Q (.int i) H'
theorem cal_inv (T : Bi mg) (D : Def K mg "inverse_in" sInv) : Cal P w K mg base 1 "inverse_in" spInv := by
  refine cal_of D (ps := ["number", "m"]) (fun _ _ _ _ _ _ us hl => match us, hl with | [_, _], _ => rfl) scInv (fun vs H Q E h => ?_) (fun f cdv A outer s H vs Q E hr h => ?_)
  · obtain ⟨_, _, rfl, _⟩ := h
    rfl
  · obtain ⟨number, m, rfl, hm, hb, cop, k⟩ := h
    refine ⟨_, pss_cons (ps_asg (pe_tup (pa_cons (pv 1) (pa_cons (pe_op op_mod (pe_callTy call_int1 (by rfl) T.int boot_int (pa_cons (pv 0) pa_nil)) (pv 1)) (pa_cons pe_int (pa_cons pe_int pa_nil)))))
        (pg_tup rfl (pgs_cons (pg_name (i := 2) scInv.nd rfl (.inl rfl)) (pgs_cons (pg_name (i := 3) scInv.nd rfl (.inl rfl)) (pgs_cons (pg_name (i := 4) scInv.nd rfl (.inl rfl)) (pgs_cons (pg_name (i := 5) scInv.nd rfl (.inl rfl)) pgs_nil))))))
      (pss_cons (ps_while PassesOwn.never (pt_cmpR op_ne (pv 3) pe_int (nomark _))
        (pss_cons (ps_set (i := 6) scInv.nd rfl (.inl rfl) (pe_op op_fdivW (pv 2) (pv 3)))
        (pss_one (ps_asg (pe_tup (pa_cons (pv 3) (pa_cons (pe_op op_sub (pv 2) (pe_op op_mulW (pv 6) (pv 3))) (pa_cons (pv 5) (pa_cons (pe_op op_sub (pv 4) (pe_op op_mulW (pv 6) (pv 5))) pa_nil)))))
          (pg_tup rfl (pgs_cons (pg_name (i := 2) scInv.nd rfl (.inl rfl)) (pgs_cons (pg_name (i := 3) scInv.nd rfl (.inl rfl)) (pgs_cons (pg_name (i := 4) scInv.nd rfl (.inl rfl)) (pgs_cons (pg_name (i := 5) scInv.nd rfl (.inl rfl)) pgs_nil))))))))
      )
      (pss_one (ps_ret (pe_op op_mod (pe_callTy call_int1 (by rfl) T.int boot_int (pa_cons (pv 4) pa_nil)) (pv 1))))), ?_⟩
    refine ⟨_, rfl, _, rfl, .inl ⟨_, rfl, _, rfl, _, _, rfl, rfl, hm, by show 4 ≤ sizeLine; decide, fun p np => ?_⟩⟩
    refine ⟨p, _, rfl, SqT.of upd_same, rfl, _, _, rfl, _, _, rfl, _, _, rfl, _, _, rfl, rfl, ?_⟩
    refine while_by (fun σ H' => ∃ (left rest one other : Int) (v : Option V), σ = [some (.int number), some (.int m), some (.int left), some (.int rest), some (.int one), some (.int other), v] ∧ Same H H' ∧ InvL number m left rest one other)
      (fun σ _ => match σ with | [_, _, _, some (.int rest), _, _, _] => rest.toNat | _ => 0) ⟨m, number % m, 0, 1, none, rfl, same_upd np, InvL.start hm⟩ ?_ ?_
    · rintro σ H' ⟨left, rest, one, other, v, rfl, sm, I⟩
      refine ⟨_, rfl, rfl, _, rfl, ?_⟩
      by_cases hz : rest = 0
      · subst hz
        refine iteNS rfl ?_
        refine ⟨_, rfl, .inl ⟨_, rfl, _, rfl, _, _, rfl, rfl, hm, ?_⟩⟩
        exact k _ _ sm (Int.emod_nonneg _ (Int.ne_of_gt hm)) (Int.emod_lt_of_pos _ hm) (I.done cop)
      · have hd : (!decide (V.int rest = V.int 0)) = true := by simp [hz]
        have r0 : 0 < rest := by have := I.r0; omega
        have hl := I.lm
        have hl0 := I.l0
        have hrl := I.rl
        have b1 := I.b1
        have b2 := I.b2
        have ht : (left / rest).natAbs < 2 ^ 64 := Nat.lt_of_le_of_lt (Int.natAbs_ediv_le_natAbs _ _) (by omega)
        refine iteB hd ?_
        refine ⟨_, rfl, _, rfl, _, _, rfl, rfl, wide_div (b := 64) r0 (by omega) (by decide) (by decide), ?_⟩
        refine ⟨_, rfl, _, rfl, _, rfl, _, rfl, _, _, rfl, rfl, wide_mul (a := 64) (b := 64) ht (by omega) (by decide) (by decide) (by decide), _, _, rfl, rfl, _, rfl, _, rfl, _, rfl, _, rfl, _, _, rfl, rfl,
          wide_mul (a := 64) (b := 64) ht (by omega) (by decide) (by decide) (by decide), _, _, rfl, rfl, by show 4 ≤ sizeLine; decide, fun p2 np2 => ?_⟩
        refine ⟨p2, _, rfl, SqT.of upd_same, rfl, _, _, rfl, _, _, rfl, _, _, rfl, _, _, rfl, rfl, ?_⟩
        have J := I.turn hz
        refine ⟨⟨rest, left - left / rest * rest, other, one - left / rest * other, _, rfl, sm.trans (same_upd np2), J⟩, ?_⟩
        have := J.rl
        have := J.r0
        show (left - left / rest * rest).toNat < rest.toNat
        omega
    · rintro σ H' Q1 Q2 hq ⟨v, e1, e2, b, e3, q⟩
      exact ⟨v, e1, e2, b, e3, hq _ _ q⟩
/-! root_in -/
theorem scRoot : FnScope ["factor", "number", "m", "common", "less"] ["factor", "number", "m"] (defScope sRoot) := ⟨rfl, rfl, rfl, by decide +kernel, rfl, by decide +kernel, by decide +kernel⟩
def spRoot : Sp := fun vs H Q _ => ∃ factor number m : Int, vs = [.int factor, .int number, .int m] ∧ 0 < m ∧ m.natAbs < 2 ^ 64 ∧ number.natAbs < 2 ^ 64 ∧
  ∀ (o : Option Int) (H' : Hp), Same H H' → Root factor number m o → Q (oV o) H'
theorem cal_root (T : Bi mg) (D : Def K mg "root_in" sRoot) (c1 : Cal P w K mg base 1 "inverse_in" spInv) : Cal P w K mg base 2 "root_in" spRoot := by
  refine cal_of D (ps := ["factor", "number", "m"]) (fun _ _ _ _ _ _ us hl => match us, hl with | [_, _, _], _ => rfl) scRoot (fun vs H Q E h => ?_) (fun f cdv A outer s H vs Q E hr h => ?_)
  · obtain ⟨_, _, _, rfl, _⟩ := h
    rfl
  · obtain ⟨factor, number, m, rfl, hm, hb, hn, k⟩ := h
    refine ⟨_, pss_cons (ps_set (i := 3) scRoot.nd rfl (.inl rfl) (pe_callBfun cr_gcd (by rfl) T.gcd (pa_cons (pv 0) (pa_cons (pv 2) pa_nil))))
      (pss_cons (ps_if (pt_cmpR op_ne (pe_op op_mod (pe_callTy call_int1 (by rfl) T.int boot_int (pa_cons (pv 1) pa_nil)) (pv 3)) pe_int (nomark _)) (pss_one (ps_ret pe_non)) pss_nil)
      (pss_cons (ps_set (i := 4) scRoot.nd rfl (.inl rfl) (pe_op op_fdivW (pv 2) (pv 3)))
      (pss_one (ps_ret (pe_op op_mod (pe_callTy call_int1 (by rfl) T.int boot_int (pa_cons
        (pe_op op_mulW (pe_op op_fdivW (pe_un un_neg (pv 1)) (pv 3)) (pe_c c1 hr (by decide) (by rfl) (pa_cons (pe_op op_fdivW (pv 0) (pv 3)) (pa_cons (pv 4) pa_nil)))) pa_nil)) (pv 4)))))), ?_⟩
    obtain ⟨g0, l0, lm, cop⟩ := root_parts (factor := factor) hm
    have gle : Nat.gcd factor.natAbs m.natAbs ≤ m.natAbs := Nat.gcd_le_right _ (by omega)
    have gb : ((Nat.gcd factor.natAbs m.natAbs : Nat) : Int).natAbs < 2 ^ 64 := by rw [Int.natAbs_natCast]; omega
    refine ⟨_, rfl, _, rfl, _, _, rfl, ?_⟩
    refine ⟨_, rfl, .inl ⟨_, rfl, _, rfl, _, _, rfl, rfl, g0, rfl, _, rfl, ?_⟩⟩
    by_cases hz : number % (Nat.gcd factor.natAbs m.natAbs : Nat) = 0
    · have hd : (!decide (V.int (number % (Nat.gcd factor.natAbs m.natAbs : Nat)) = V.int 0)) = false := by simp [hz]
      refine iteN hd ?_
      refine ⟨_, rfl, _, rfl, _, _, rfl, rfl, wide_div (b := 64) g0 gb (by decide) (by decide), ?_⟩
      refine ⟨_, rfl, _, rfl, _, rfl, _, _, rfl, rfl, wide_div (b := 64) g0 gb (by decide) (by decide), _, rfl, _, rfl, _, _, rfl, rfl, wide_div (b := 64) g0 gb (by decide) (by decide), _, rfl, ?_⟩
      refine ⟨_, _, rfl, l0, by omega, cop, fun i H' sm i0 il hi => ?_⟩
      refine ⟨_, _, rfl, rfl, wide_mul (a := 64) (b := 64) (Nat.lt_of_le_of_lt (Int.natAbs_ediv_le_natAbs _ _) (by rw [Int.natAbs_neg]; exact hn)) (by omega) (by decide) (by decide) (by decide), ?_⟩
      refine .inl ⟨_, rfl, _, rfl, _, _, rfl, rfl, l0, ?_⟩
      exact k (some _) H' sm (root_some hm hz hi)
    · have hd : (!decide (V.int (number % (Nat.gcd factor.natAbs m.natAbs : Nat)) = V.int 0)) = true := by simp [hz]
      refine iteB hd ?_
      exact k none H (Same.refl _) (root_none hz)
/-! both_in -/
theorem scBoth : FnScope ["one", "other", "rest", "m", "its_rest", "its_m", "turns", "many"] ["one", "other"] (defScope sBoth) := ⟨rfl, rfl, rfl, by decide +kernel, rfl, by decide +kernel, by decide +kernel⟩
def BothV (H : Hp) (v : V) : Option (Int × Int) → Prop
  | none => v = .non
  | some (q, M) => ∃ t, v = .ref t ∧ H t = some (.tup [.int q, .int M])
def spBoth : Sp := fun vs H Q _ => ∃ (p1 p2 : Addr) (r m r' m' : Int), vs = [.ref p1, .ref p2] ∧ H p1 = some (.tup [.int r, .int m]) ∧ H p2 = some (.tup [.int r', .int m']) ∧ 0 ≤ r ∧ r < m ∧ 0 ≤ r' ∧ r' < m' ∧ m.natAbs < 2 ^ 64 ∧ m'.natAbs < 2 ^ 64 ∧
  ∀ (o : Option (Int × Int)) (v : V) (H' : Hp), Same H H' → Both r m r' m' o → BothV H' v o → Q v H'
theorem cal_both (T : Bi mg) (D : Def K mg "both_in" sBoth) (c1 : Cal P w K mg base 2 "root_in" spRoot) (c2 : Cal P w K mg base 1 "lcm_in" (spLcm K)) : Cal P w K mg base 3 "both_in" spBoth := by
  refine cal_of D (ps := ["one", "other"]) (fun _ _ _ _ _ _ us hl => match us, hl with | [_, _], _ => rfl) scBoth (fun vs H Q E h => ?_) (fun f cdv A outer s H vs Q E hr h => ?_)
  · obtain ⟨_, _, _, _, _, _, rfl, _⟩ := h
    rfl
  · obtain ⟨p1, p2, r, m, r', m', rfl, h1, h2, hr0, hrm, hr0', hrm', hb, hb', k⟩ := h
    refine ⟨_, pss_cons (ps_asg (pe_tup (pa_cons (pv 0) (pa_cons (pv 1) pa_nil))) (pg_tup rfl
        (pgs_cons (pg_tup rfl (pgs_cons (pg_name (i := 2) scBoth.nd rfl (.inl rfl)) (pgs_cons (pg_name (i := 3) scBoth.nd rfl (.inl rfl)) pgs_nil)))
        (pgs_cons (pg_tup rfl (pgs_cons (pg_name (i := 4) scBoth.nd rfl (.inl rfl)) (pgs_cons (pg_name (i := 5) scBoth.nd rfl (.inl rfl)) pgs_nil))) pgs_nil))))
      (pss_cons (ps_set (i := 6) scBoth.nd rfl (.inl rfl) (pe_c c1 hr (by decide) (by rfl) (pa_cons (pv 3) (pa_cons (pe_op op_sub (pv 2) (pv 4)) (pa_cons (pv 5) pa_nil)))))
      (pss_cons (ps_if (pt_cmp (pc_isN (pv 6))) (pss_one (ps_ret pe_non)) pss_nil)
      (pss_cons (ps_set (i := 7) scBoth.nd rfl (.inl rfl) (pe_c c2 hr (by decide) (by rfl) (pa_cons (pe_lst (pa_cons (pv 3) (pa_cons (pv 5) pa_nil))) pa_nil)))
      (pss_one (ps_ret (pe_tup (pa_cons (pe_op op_mod (pe_callTy call_int1 (by rfl) T.int boot_int (pa_cons (pe_op op_add (pv 2) (pe_op op_mulW (pv 3) (pv 6))) pa_nil)) (pv 7)) (pa_cons (pv 7) pa_nil)))))))), ?_⟩
    have m0 : 0 < m := by omega
    have m0' : 0 < m' := by omega
    refine ⟨_, rfl, _, rfl, by show 2 ≤ sizeLine; decide, fun p np => ?_⟩
    have s1 : Same H _ := same_upd (o := .tup [.ref p1, .ref p2]) np
    refine ⟨p, _, rfl, SqT.of upd_same, rfl, _, _, rfl, ⟨p1, _, rfl, SqT.of (s1 _ _ h1), rfl, _, _, rfl, _, _, rfl, rfl, ?_⟩⟩
    refine ⟨_, _, rfl, ⟨p2, _, rfl, SqT.of (s1 _ _ h2), rfl, _, _, rfl, _, _, rfl, rfl, rfl, ?_⟩⟩
    refine ⟨_, rfl, _, rfl, _, rfl, _, _, rfl, rfl, _, rfl, _, _, _, rfl, m0', hb', by omega, fun o H2 s2 ho => ?_⟩
    have s12 := s1.trans s2
    cases o with
    | none => exact ⟨_, rfl, true, rfl, iteT (k none .non H2 s12 (both_none hr0 ho) rfl)⟩
    | some t =>
      obtain ⟨t0, tm, td⟩ := id ho
      refine ⟨_, rfl, false, rfl, iteF ?_⟩
      refine ⟨_, rfl, _, rfl, by show 2 ≤ sizeLine; decide, fun q nq => ?_⟩
      refine ⟨q, [m, m'], rfl, SqL.of upd_same, by show 2 ≤ 2000; decide, fun n hn => ?_, ?_⟩
      · simp at hn
        rcases hn with rfl | rfl
        · exact ⟨m0, hb⟩
        · exact ⟨m0', hb'⟩
      · have eM := lcmL_two m0 m0'
        have hM : 0 < lcmL [m, m'] := lcmL_pos fun n hn => by
          simp at hn
          rcases hn with rfl | rfl
          · exact m0
          · exact m0'
        refine ⟨_, rfl, _, rfl, _, rfl, _, _, rfl, rfl, wide_mul (a := 64) (b := 64) hb (by omega) (by decide) (by decide) (by decide), _, _, rfl, rfl, .inl ⟨_, rfl, _, rfl, _, _, rfl, rfl, hM, _, rfl, by show 2 ≤ sizeLine; decide, fun z nz => ?_⟩⟩
        exact k (some (_, _)) (.ref z) _ ((s12.trans (same_upd nq)).trans (same_upd nz)) (both_some m0 m0' hr0 hrm hr0' hrm' ho eM) ⟨z, rfl, upd_same⟩
end
end K16
namespace K16
open PySem PySem.Spec PyProof.Rows L2
/-! xs == [], xs != [] -/
section
variable {X : Cx}
def rEqN (K : PySem.W.Frag) : R2 := fun x y H Q => ∃ (a b : Addr) (xs : List V), x = .ref a ∧ y = .ref b ∧ SqL K H a xs ∧ SqL K H b [] ∧ Q (.bl xs.isEmpty) H
def rNeN (K : PySem.W.Frag) : R2 := fun x y H Q => ∃ (a b : Addr) (xs : List V), x = .ref a ∧ y = .ref b ∧ SqL K H a xs ∧ SqL K H b [] ∧ Q (.bl (!xs.isEmpty)) H
theorem op_eqN (hu : X.A.units + 1 < cLine) : OpR X (compareOp .Eq) (rEqN X.K) := by
  intro pins s σ H x y v u Q I rx ry h
  obtain ⟨a, b, xs, rfl, rfl, ha, hb, q⟩ := h
  cases rx; cases ry
  obtain ⟨its, rv, pl, _⟩ := I.list ha
  obtain ⟨its2, rv2, pl2, _⟩ := I.list hb
  cases rv2
  cases rv with
  | nil => exact PySem.SeqAt.eq_listAt (e := fun _ => true) pl.isList pl2.isList rfl (by omega) (fun j h1 => absurd h1 (by simp)) ⟨.bl _, H, I, rfl, q⟩
  | cons r t => exact PySem.SeqAt.eq_list_lengthsAt pl.isList pl2.isList (by simp) (by omega) ⟨.bl _, H, I, rfl, q⟩
theorem op_neN (hu : X.A.units + 1 < cLine) : OpR X (compareOp .NotEq) (rNeN X.K) := by
  intro pins s σ H x y v u Q I rx ry h
  obtain ⟨a, b, xs, rfl, rfl, ha, hb, q⟩ := h
  cases rx; cases ry
  obtain ⟨its, rv, pl, _⟩ := I.list ha
  obtain ⟨its2, rv2, pl2, _⟩ := I.list hb
  cases rv2
  cases rv with
  | nil => exact PySem.SeqAt.RcNeAt.lists (e := fun _ => true) pl.isList pl2.isList rfl (by omega) (fun j h1 => absurd h1 (by simp)) _ _ _ _ ⟨.bl _, H, I, rfl, q⟩
  | cons r t => exact PySem.SeqAt.RcNeAt.lists_lengths pl.isList pl2.isList (by simp) (by omega) _ _ _ _ ⟨.bl _, H, I, rfl, q⟩
end
section
variable {P : Program} {w : World} {K : PySem.W.Frag} {mg : Str → Option Value} {base : Heap}
/-! bounds_of -/
theorem scBounds : FnScope ["row", "other", "firsts", "lasts", "each"] ["row", "other"] (defScope sBounds) := ⟨rfl, rfl, rfl, by decide +kernel, rfl, by decide +kernel, by decide +kernel⟩
def spBounds : Sp := fun vs H Q _ => ∃ (v1 v2 : V) (a b : Rw), vs = [v1, v2] ∧ RowAt H v1 a ∧ RowAt H v2 b ∧
  ∀ (t : Addr) (H' : Hp), Same H H' → H' t = some (.tup [oV (lowOf a b), oV (highOf a b)]) → Q (.ref t) H'
def someL (os : List (Option Int)) : List Int := os.filterMap id
theorem someL_snoc (os : List (Option Int)) (o : Option Int) : someL (os ++ [o]) = someL os ++ o.toList := by
  unfold someL
  rw [List.filterMap_append]
  cases o <;> rfl
theorem low_some {a b : Rw} {m : Int} (hm : m ∈ someL [a.f, b.f]) (hle : ∀ y, y ∈ someL [a.f, b.f] → y ≤ m) : oV (lowOf a b) = .int m := by
  obtain ⟨f, l, s⟩ := a
  obtain ⟨f', l', s'⟩ := b
  unfold someL at hm hle
  unfold lowOf
  cases f <;> cases f' <;> simp [oV] at hm hle ⊢ <;> first | omega | (split <;> omega)
theorem high_some {a b : Rw} {m : Int} (hm : m ∈ someL [a.l, b.l]) (hle : ∀ y, y ∈ someL [a.l, b.l] → m ≤ y) : oV (highOf a b) = .int m := by
  obtain ⟨f, l, s⟩ := a
  obtain ⟨f', l', s'⟩ := b
  unfold someL at hm hle
  unfold highOf
  cases l <;> cases l' <;> simp [oV] at hm hle ⊢ <;> first | omega | (split <;> omega)
theorem low_none {a b : Rw} (h : someL [a.f, b.f] = []) : oV (lowOf a b) = .non := by
  obtain ⟨f, l, s⟩ := a
  obtain ⟨f', l', s'⟩ := b
  unfold someL at h
  unfold lowOf
  cases f <;> cases f' <;> simp [oV] at h ⊢
theorem high_none {a b : Rw} (h : someL [a.l, b.l] = []) : oV (highOf a b) = .non := by
  obtain ⟨f, l, s⟩ := a
  obtain ⟨f', l', s'⟩ := b
  unfold someL at h
  unfold highOf
  cases l <;> cases l' <;> simp [oV] at h ⊢
theorem Paired.one {α β : Type} {F : α → β → Prop} {x : α} {y : β} (h : F x y) : Paired F [x] [y] := .cons h .nil
theorem cal_bounds (T : Bi mg) (D : Def K mg "bounds_of" sBounds) : Cal P w K mg base 1 "bounds_of" spBounds := by
  refine cal_of D (ps := ["row", "other"]) (fun _ _ _ _ _ _ us hl => match us, hl with | [_, _], _ => rfl) scBounds (fun vs H Q E h => ?_) (fun f cdv A outer s H vs Q E hr h => ?_)
  · obtain ⟨_, _, _, _, rfl, _⟩ := h
    rfl
  · obtain ⟨v1, v2, a, b, rfl, ⟨p1, rfl, h1⟩, ⟨p2, rfl, h2⟩, k⟩ := h
    refine ⟨_, pss_cons (ps_setLc (i := 2) (own := [("each", 4)]) (g := gName 4) rfl scBounds.nd rfl rfl (sw_true rfl rfl rfl (by decide +kernel)) (pi_tup (pe_tup (pa_cons (pv 0) (pa_cons (pv 1) pa_nil))))
        (blkOk_by (N := ["row", "other", "firsts", "lasts", "each"]) (sc := defScope sBounds) (by decide +kernel)) (fun _ _ _ _ _ => pg_name (i := 4) scBounds.nd rfl (Or.inl rfl))
        (fun _ _ _ _ _ => pts_one (pt_cmp (pc_notN (pe_ix (r := rIxT K) ix_tup (pv 4) pe_int (fun _ _ => rfl))))) (fun _ _ _ _ _ => pe_ix (r := rIxT K) ix_tup (pv 4) pe_int (fun _ _ => rfl)))
      (pss_cons (ps_setLc (i := 3) (own := [("each", 4)]) (g := gName 4) rfl scBounds.nd rfl rfl (sw_true rfl rfl rfl (by decide +kernel)) (pi_tup (pe_tup (pa_cons (pv 0) (pa_cons (pv 1) pa_nil))))
        (blkOk_by (N := ["row", "other", "firsts", "lasts", "each"]) (sc := defScope sBounds) (by decide +kernel)) (fun _ _ _ _ _ => pg_name (i := 4) scBounds.nd rfl (Or.inl rfl))
        (fun _ _ _ _ _ => pts_one (pt_cmp (pc_notN (pe_ix (r := rIxT K) ix_tup (pv 4) pe_int (fun _ _ => rfl))))) (fun _ _ _ _ _ => pe_ix (r := rIxT K) ix_tup (pv 4) pe_int (fun _ _ => rfl)))
      (pss_one (ps_ret (pe_tup (pa_cons
        (pe_ifExp (pt_cmpR (op_neN (hu_of hr)) (pv 2) (pe_lst pa_nil) (nomark _)) (pe_callB (cr_max rfl) (by rfl) T.max (by decide +kernel) (pa_cons (pv 2) pa_nil)) pe_non) (pa_cons
        (pe_ifExp (pt_cmpR (op_neN (hu_of hr)) (pv 3) (pe_lst pa_nil) (nomark _)) (pe_callB (cr_min rfl) (by rfl) T.min (by decide +kernel) (pa_cons (pv 3) pa_nil)) pe_non) pa_nil)))))), ?_⟩
    -- firsts
    refine ⟨_, rfl, _, rfl, by show 2 ≤ sizeLine; decide, fun p np => ?_⟩
    have s1 : Same H (upd H p (.tup [.ref p1, .ref p2])) := same_upd np
    refine ⟨p, rfl, ⟨_, SqT.of upd_same⟩, fun D nD => ?_⟩
    have pD : p ≠ D := fun e => by rw [← e, upd_same] at nD; cases nD
    have at_ : ∀ {i : Nat} {x : V}, ([V.ref p1, V.ref p2] : List V)[i]? = some x → ∃ (r : Rw) (t : Addr), ([a, b] : List Rw)[i]? = some r ∧ x = .ref t ∧ H t = some (.tup (rwV r)) := fun {i x} hi => by
      match i, hi with
      | 0, hi => simp at hi; subst hi; exact ⟨a, p1, rfl, rfl, h1⟩
      | 1, hi => simp at hi; subst hi; exact ⟨b, p2, rfl, rfl, h2⟩
      | i + 2, hi => simp at hi
    refine lc_tup (K := K) (a := p) (xs := [.ref p1, .ref p2]) (fun i H' => Same H H' ∧ H' p = some (.tup [.ref p1, .ref p2]) ∧ H' D = some (.lst ((someL ((([a, b] : List Rw).take i).map (·.f))).map V.int)))
      ⟨s1.trans (same_upd nD), by rw [upd_ne pD]; exact upd_same, upd_same⟩ (fun i H' _ ⟨_, hp, _⟩ => SqT.of hp) ?_ ?_
    · rintro i x H' hi ⟨sm, hp, hD⟩
      obtain ⟨r, t, hr', rfl, ht⟩ := at_ hi
      have ht' := sm _ _ ht
      have et : ((([a, b] : List Rw).take (i + 1)).map (·.f)) = ((([a, b] : List Rw).take i).map (·.f)) ++ [r.f] := by
        rw [List.take_add_one, hr', List.map_append]; rfl
      refine ⟨rfl, _, rfl, t, _, _, _, rfl, rfl, SqT.of ht', atI_nat (j := 0) rfl, ?_⟩
      have hil : i < 2 := (List.getElem?_eq_some_iff.mp hi).1
      cases hf : r.f with
      | none =>
        refine ⟨false, rfl, iteF ⟨sm, hp, ?_⟩⟩
        rw [hD, et, hf, someL_snoc]
        simp
      | some z =>
        refine ⟨true, rfl, iteT ⟨_, rfl, t, _, _, _, rfl, rfl, SqT.of ht', atI_nat (j := 0) rfl, _, hD, ?_, ?_, ?_, ?_⟩⟩
        · rw [List.length_map]
          refine small1000 (Nat.le_trans (List.length_filterMap_le _ _) ?_)
          rw [List.length_map, List.length_take]
          omega
        · intro c o hc
          rw [upd_ne (ne_of_none hc (s1.free nD))]
          exact sm _ _ hc
        · rw [upd_ne pD]; exact hp
        · rw [upd_same, et, hf, someL_snoc, List.map_append]
          rfl
    · rintro H1 ⟨sm1, hp1, hD1⟩
      have hD1 : H1 D = some (.lst ((someL [a.f, b.f]).map V.int)) := hD1
      -- lasts
      refine ⟨_, rfl, _, rfl, by show 2 ≤ sizeLine; decide, fun p' np' => ?_⟩
      have t1 : Same H1 (upd H1 p' (.tup [.ref p1, .ref p2])) := same_upd np'
      refine ⟨p', rfl, ⟨_, SqT.of upd_same⟩, fun D' nD' => ?_⟩
      have pD' : p' ≠ D' := fun e => by rw [← e, upd_same] at nD'; cases nD'
      refine lc_tup (K := K) (a := p') (xs := [.ref p1, .ref p2]) (fun i H' => Same H1 H' ∧ H' p' = some (.tup [.ref p1, .ref p2]) ∧ H' D' = some (.lst ((someL ((([a, b] : List Rw).take i).map (·.l))).map V.int)))
        ⟨t1.trans (same_upd nD'), by rw [upd_ne pD']; exact upd_same, upd_same⟩ (fun i H' _ ⟨_, hp, _⟩ => SqT.of hp) ?_ ?_
      · rintro i x H' hi ⟨sm, hp, hD⟩
        obtain ⟨r, t, hr', rfl, ht⟩ := at_ hi
        have ht' := sm _ _ (sm1 _ _ ht)
        have et : ((([a, b] : List Rw).take (i + 1)).map (·.l)) = ((([a, b] : List Rw).take i).map (·.l)) ++ [r.l] := by
          rw [List.take_add_one, hr', List.map_append]; rfl
        refine ⟨rfl, _, rfl, t, _, _, _, rfl, rfl, SqT.of ht', atI_nat (j := 1) rfl, ?_⟩
        have hil : i < 2 := (List.getElem?_eq_some_iff.mp hi).1
        cases hf : r.l with
        | none =>
          refine ⟨false, rfl, iteF ⟨sm, hp, ?_⟩⟩
          rw [hD, et, hf, someL_snoc]
          simp
        | some z =>
          refine ⟨true, rfl, iteT ⟨_, rfl, t, _, _, _, rfl, rfl, SqT.of ht', atI_nat (j := 1) rfl, _, hD, ?_, ?_, ?_, ?_⟩⟩
          · rw [List.length_map]
            refine small1000 (Nat.le_trans (List.length_filterMap_le _ _) ?_)
            rw [List.length_map, List.length_take]
            omega
          · intro c o hc
            rw [upd_ne (ne_of_none hc (t1.free nD'))]
            exact sm _ _ hc
          · rw [upd_ne pD']; exact hp
          · rw [upd_same, et, hf, someL_snoc, List.map_append]
            rfl
      · rintro H2 ⟨sm2, hp2, hD2⟩
        have hD2 : H2 D' = some (.lst ((someL [a.l, b.l]).map V.int)) := hD2
        have hD : H2 D = some (.lst ((someL [a.f, b.f]).map V.int)) := sm2 _ _ hD1
        have smH : Same H H2 := sm1.trans sm2
        -- the end: from the two values
        have fin : ∀ (x y : V) (H' : Hp), Same H2 H' → x = oV (lowOf a b) → y = oV (highOf a b) → ([x, y] : List V).length ≤ sizeLine ∧ ∀ q, H' q = none → Q (.ref q) (upd H' q (.tup [x, y])) := fun x y H' s' ex ey => by
          subst ex ey
          exact ⟨by show 2 ≤ sizeLine; decide, fun q nq => k q _ ((smH.trans s').trans (same_upd nq)) upd_same⟩
        refine ⟨_, rfl, Nat.zero_le _, fun q nq => ⟨D, q, _, rfl, rfl, SqL.of ((same_upd nq) _ _ hD), SqL.of upd_same, _, rfl, ?_⟩⟩
        have sq : Same H2 (upd H2 q (.lst [])) := same_upd nq
        have second : ∀ (x : V), x = oV (lowOf a b) → (tIf (tTest (tOp (rNeN K) (tVar 3) (tLst tNil))) (tCB (rMin K) (tCons (tVar 3) tNil)) (tC .non))
            [some (.ref p1), some (.ref p2), some (.ref D), some (.ref D'), none] (upd H2 q (.lst [])) (fun y H' => ([x, y] : List V).length ≤ sizeLine ∧ ∀ z, H' z = none → Q (.ref z) (upd H' z (.tup [x, y]))) := fun x ex => by
          refine ⟨_, rfl, Nat.zero_le _, fun q2 nq2 => ⟨D', q2, _, rfl, rfl, SqL.of ((same_upd nq2) _ _ (sq _ _ hD2)), SqL.of upd_same, _, rfl, ?_⟩⟩
          have sq2 : Same H2 (upd (upd H2 q (.lst [])) q2 (.lst [])) := sq.trans (same_upd nq2)
          cases e : someL [a.l, b.l] with
          | nil => exact iteN rfl (fin _ _ _ sq2 ex (high_none e).symm)
          | cons z zs =>
            refine iteB rfl ⟨_, rfl, D', someL [a.l, b.l], rfl, SqL.of (sq2 _ _ hD2), by rw [e]; exact Nat.succ_pos _, fun m hm hle => ?_⟩
            exact fin _ _ _ sq2 ex (high_some hm hle).symm
        cases e : someL [a.f, b.f] with
        | nil => exact iteN rfl (second _ (low_none e).symm)
        | cons z zs =>
          refine iteB rfl ⟨_, rfl, D, someL [a.f, b.f], rfl, SqL.of (sq _ _ hD), by rw [e]; exact Nat.succ_pos _, fun m hm hle => ?_⟩
          exact second _ (low_some hm hle).symm
end
end K16
namespace K16
open PySem PySem.Spec PyProof.Rows L2
section
variable {P : Program} {w : World} {K : PySem.W.Frag} {mg : Str → Option Value} {base : Heap}
/-- a step that both_in can take -/
def StepOk (r : Rw) : Prop := r.Ok ∧ r.s.natAbs < 2 ^ 64
/-! is_shared -/
theorem scShared : FnScope ["one", "other", "low", "high", "both"] ["one", "other"] (defScope sShared) := ⟨rfl, rfl, rfl, by decide +kernel, rfl, by decide +kernel, by decide +kernel⟩
def spShared : Sp := fun vs H Q _ => ∃ (v1 v2 : V) (a b : Rw), vs = [v1, v2] ∧ RowAt H v1 a ∧ RowAt H v2 b ∧ StepOk a ∧ StepOk b ∧
  ∀ (c : Bool) (H' : Hp), Same H H' → (Disj a b → c = false) → Q (.bl c) H'
theorem cal_shared (T : Bi mg) (D : Def K mg "is_shared" sShared) (c1 : Cal P w K mg base 1 "bounds_of" spBounds) (c2 : Cal P w K mg base 1 "rest_in" spRest) (c3 : Cal P w K mg base 3 "both_in" spBoth) : Cal P w K mg base 4 "is_shared" spShared := by
  refine cal_of D (ps := ["one", "other"]) (fun _ _ _ _ _ _ us hl => match us, hl with | [_, _], _ => rfl) scShared (fun vs H Q E h => ?_) (fun f cdv A outer s H vs Q E hr h => ?_)
  · obtain ⟨_, _, _, _, rfl, _⟩ := h
    rfl
  · obtain ⟨v1, v2, a, b, rfl, h1, h2, ⟨oa, sa⟩, ⟨ob, sb⟩, k⟩ := h
    refine ⟨_, pss_cons (ps_asg (pe_c c1 hr (by decide) (by rfl) (pa_cons (pv 0) (pa_cons (pv 1) pa_nil))) (pg_tup rfl (pgs_cons (pg_name (i := 2) scShared.nd rfl (.inl rfl)) (pgs_cons (pg_name (i := 3) scShared.nd rfl (.inl rfl)) pgs_nil))))
      (pss_cons (ps_if (PW.pt (pw_and (pt_cmp (pc_notN (pv 2))) (pw_and (pt_cmp (pc_notN (pv 3))) (pw_and1 (pt_cmpR op_gt (pv 2) (pv 3) (nomark _)))))) (pss_one (ps_ret pe_bl)) pss_nil)
      (pss_cons (ps_set (i := 4) scShared.nd rfl (.inl rfl) (pe_c c3 hr (by decide) (by rfl) (pa_cons (pe_tup (pa_cons (pe_c c2 hr (by decide) (by rfl) (pa_cons (pv 0) pa_nil)) (pa_cons (pe_ix ix_tup (pv 0) pe_int (fun _ _ => rfl)) pa_nil)))
        (pa_cons (pe_tup (pa_cons (pe_c c2 hr (by decide) (by rfl) (pa_cons (pv 1) pa_nil)) (pa_cons (pe_ix ix_tup (pv 1) pe_int (fun _ _ => rfl)) pa_nil))) pa_nil))))
      (pss_cons (ps_if (pt_cmp (pc_isN (pv 4))) (pss_one (ps_ret pe_bl)) pss_nil)
      (pss_one (ps_ret (pe_or (pe_cmp (pc_isN (pv 2)) rfl) (pe_or (pe_cmp (pc_isN (pv 3)) rfl) (pe_one (pe_cmpR op_le (pe_op op_add (pv 2) (pe_op op_mod (pe_callTy call_int1 (by rfl) T.int boot_int (pa_cons (pe_op op_sub (pe_ix ix_tup (pv 4) pe_int (fun _ _ => rfl)) (pv 2)) pa_nil)) (pe_ix ix_tup (pv 4) pe_int (fun _ _ => rfl)))) (pv 3) (nomark _)))))))))), ?_⟩
    refine ⟨_, rfl, _, rfl, v1, v2, a, b, rfl, h1, h2, fun t H1 s1 ht => ?_⟩
    refine ⟨t, _, rfl, SqT.of ht, rfl, _, _, rfl, _, _, rfl, rfl, ?_⟩
    -- the first test
    have test : ∀ (H : Hp) (Q : Bool → Hp → Prop) (lo hi : Option Int), Q (match lo, hi with | some lo, some hi => decide (hi < lo) | _, _ => false) H →
        (tAnd (tB (tNotN (tVar 2))) (tAnd (tB (tNotN (tVar 3))) (tTest (tOp (rI0 fun i j => .bl (decide (j < i))) (tVar 2) (tVar 3))))) [some v1, some v2, some (oV lo), some (oV hi), none] H Q := fun H Q lo hi hq => by
      cases lo with
      | none => exact ⟨_, rfl, false, rfl, iteF hq⟩
      | some lo =>
        refine ⟨_, rfl, true, rfl, iteT ?_⟩
        cases hi with
        | none => exact ⟨_, rfl, false, rfl, iteF hq⟩
        | some hi => exact ⟨_, rfl, true, rfl, iteT ⟨_, rfl, _, rfl, _, _, rfl, rfl, _, rfl, hq⟩⟩
    refine test _ _ (lowOf a b) (highOf a b) ?_
    by_cases hc : (match lowOf a b, highOf a b with | some lo, some hi => decide (hi < lo) | _, _ => false) = true
    · refine iteB hc ?_
      refine k false H1 s1 fun _ => rfl
    · refine iteN (by simpa using hc) ?_
      obtain ⟨t1, rfl, ht1⟩ := h1.same s1
      obtain ⟨t2, rfl, ht2⟩ := h2.same s1
      refine ⟨_, rfl, .ref t1, a, rfl, ⟨t1, rfl, ht1⟩, oa, _, rfl, t1, _, _, _, rfl, rfl, SqT.of ht1, atI_nat (j := 2) rfl, by show 2 ≤ sizeLine; decide, fun p np => ?_⟩
      have s2 : Same H1 _ := same_upd (o := .tup [.int a.rest, .int a.s]) np
      refine ⟨_, rfl, .ref t2, b, rfl, ⟨t2, rfl, s2 _ _ ht2⟩, ob, _, rfl, t2, _, _, _, rfl, rfl, SqT.of (s2 _ _ ht2), atI_nat (j := 2) rfl, by show 2 ≤ sizeLine; decide, fun p' np' => ?_⟩
      have s3 : Same (upd H1 p (.tup [.int a.rest, .int a.s])) _ := same_upd (o := .tup [.int b.rest, .int b.s]) np'
      refine ⟨p, p', a.rest, a.s, b.rest, b.s, rfl, s3 _ _ upd_same, upd_same, Rw.rest0 oa.1, Rw.rest1 oa.1, Rw.rest0 ob.1, Rw.rest1 ob.1, sa, sb, fun o v H2 s4 ho hv => ?_⟩
      have sAll : Same H H2 := s1.trans (s2.trans (s3.trans s4))
      cases o with
      | none =>
        cases (show v = .non from hv)
        exact ⟨_, rfl, true, rfl, iteT (k false H2 sAll fun _ => rfl)⟩
      | some qM =>
        obtain ⟨q, M⟩ := qM
        obtain ⟨z, rfl, hz⟩ := hv
        have hsh := fun hd => shared_false ho hd
        refine ⟨_, rfl, false, rfl, iteF ?_⟩
        refine ⟨_, rfl, ?_⟩
        unfold sharedB at hsh
        cases el : lowOf a b with
        | none =>
          rw [el] at hsh
          exact ⟨true, rfl, iteT (k true H2 sAll hsh)⟩
        | some lo =>
          refine ⟨false, rfl, iteF ⟨_, rfl, ?_⟩⟩
          cases eh : highOf a b with
          | none =>
            rw [el, eh] at hsh
            exact ⟨true, rfl, iteT (k true H2 sAll hsh)⟩
          | some hi =>
            rw [el, eh] at hsh hc
            have hc' : ¬ hi < lo := by simpa using hc
            refine ⟨false, rfl, iteF ⟨_, rfl, _, rfl, z, _, _, _, rfl, rfl, SqT.of hz, atI_nat (j := 0) rfl, _, rfl, _, _, rfl, rfl, .inl ⟨_, rfl, _, rfl, z, _, _, _, rfl, rfl, SqT.of hz, atI_nat (j := 1) rfl, _, _, rfl, rfl, ho.1, _, _, rfl, rfl, _, rfl, _, _, rfl, rfl, ?_⟩⟩⟩
            refine k _ H2 sAll fun hd => ?_
            have := hsh hd
            simp only [if_neg hc'] at this
            exact this
/-! many_in -/
theorem scManyIn : FnScope ["row"] ["row"] (defScope sManyIn) := ⟨rfl, rfl, rfl, by decide +kernel, rfl, by decide +kernel, by decide +kernel⟩
def spManyIn : Sp := fun vs H Q _ => ∃ (v : V) (r : Rw), vs = [v] ∧ RowAt H v r ∧ Fin r ∧ r.s.natAbs < 2 ^ 64 ∧ Q (.int (manyIn r)) H
theorem cal_manyIn (D : Def K mg "many_in" sManyIn) : Cal P w K mg base 1 "many_in" spManyIn := by
  refine cal_of D (ps := ["row"]) (fun _ _ _ _ _ _ us hl => match us, hl with | [_], _ => rfl) scManyIn (fun vs H Q E h => ?_) (fun f cdv A outer s H vs Q E hr h => ?_)
  · obtain ⟨_, _, rfl, _⟩ := h
    rfl
  · obtain ⟨v, r, rfl, ⟨t, rfl, ht⟩, ⟨ok, fi, la, ef, el⟩, hb, k⟩ := h
    refine ⟨_, pss_one (ps_ret (pe_op op_add (pe_op op_fdivW (pe_op op_sub (pe_ix ix_tup (pv 0) pe_int (fun _ _ => rfl)) (pe_ix ix_tup (pv 0) pe_int (fun _ _ => rfl))) (pe_ix ix_tup (pv 0) pe_int (fun _ _ => rfl))) pe_int)), ?_⟩
    obtain ⟨f0, l0, st⟩ := r
    cases (show f0 = some fi from ef)
    cases (show l0 = some la from el)
    exact ⟨_, rfl, t, _, _, _, rfl, rfl, SqT.of ht, atI_nat (j := 1) rfl, _, rfl, t, _, _, _, rfl, rfl, SqT.of ht, atI_nat (j := 0) rfl, _, _, rfl, rfl, _, rfl, t, _, _, _, rfl, rfl, SqT.of ht, atI_nat (j := 2) rfl, _, _, rfl, rfl, wide_div (b := 64) ok.1 hb (by decide) (by decide), _, _, rfl, rfl, k⟩
/-! turn_of -/
theorem scTurn : FnScope ["row"] ["row"] (defScope sTurn) := ⟨rfl, rfl, rfl, by decide +kernel, rfl, by decide +kernel, by decide +kernel⟩
def spTurn : Sp := fun vs H Q _ => ∃ (v : V) (r : Rw), vs = [v] ∧ RowAt H v r ∧ r.Ok ∧ ∀ (i j : Int) (p : Addr), H p = none → Q (.ref p) (upd H p (.tup [.int i, .int j]))
theorem cal_turn (D : Def K mg "turn_of" sTurn) : Cal P w K mg base 1 "turn_of" spTurn := by
  refine cal_of D (ps := ["row"]) (fun _ _ _ _ _ _ us hl => match us, hl with | [_], _ => rfl) scTurn (fun vs H Q E h => ?_) (fun f cdv A outer s H vs Q E hr h => ?_)
  · obtain ⟨_, _, rfl, _⟩ := h
    rfl
  · obtain ⟨v, r, rfl, ⟨t, rfl, ht⟩, ok, k⟩ := h
    refine ⟨_, pss_one (ps_ret (pe_ifExp (pt_cmp (pc_isN (pe_ix ix_tup (pv 0) pe_int (fun _ _ => rfl)))) (pe_tup (pa_cons pe_int (pa_cons (pe_ix ix_tup (pv 0) pe_int (fun _ _ => rfl)) pa_nil))) (pe_tup (pa_cons pe_int (pa_cons (pe_ix ix_tup (pv 0) pe_int (fun _ _ => rfl)) pa_nil))))), ?_⟩
    obtain ⟨f0, l0, st⟩ := r
    refine ⟨_, rfl, t, _, _, _, rfl, rfl, SqT.of ht, atI_nat (j := 0) rfl, ?_⟩
    cases f0 with
    | none =>
      cases l0 with
      | none => exact (ok.2.1.elim (fun h => h rfl) (fun h => h rfl)).elim
      | some l => exact ⟨true, rfl, iteT ⟨_, rfl, t, _, _, _, rfl, rfl, SqT.of ht, atI_nat (j := 1) rfl, by show 2 ≤ sizeLine; decide, fun p np => k _ _ p np⟩⟩
    | some f => exact ⟨false, rfl, iteF ⟨_, rfl, t, _, _, _, rfl, rfl, SqT.of ht, atI_nat (j := 0) rfl, by show 2 ≤ sizeLine; decide, fun p np => k _ _ p np⟩⟩
/-! clipped -/
theorem scClipped : FnScope ["row", "low", "high", "rest", "first", "last"] ["row", "low", "high"] (defScope sClipped) := ⟨rfl, rfl, rfl, by decide +kernel, rfl, by decide +kernel, by decide +kernel⟩
def spClipped : Sp := fun vs H Q _ => ∃ (v : V) (r : Rw) (lo hi : Int), vs = [v, .int lo, .int hi] ∧ RowAt H v r ∧ r.Ok ∧
  ∀ (v' : V) (H' : Hp), Same H H' → (match clip r lo hi with | none => v' = .non | some r' => RowAt H' v' r') → Q v' H'
theorem cal_clipped (T : Bi mg) (D : Def K mg "clipped" sClipped) (c2 : Cal P w K mg base 1 "rest_in" spRest) : Cal P w K mg base 2 "clipped" spClipped := by
  refine cal_of D (ps := ["row", "low", "high"]) (fun _ _ _ _ _ _ us hl => match us, hl with | [_, _, _], _ => rfl) scClipped (fun vs H Q E h => ?_) (fun f cdv A outer s H vs Q E hr h => ?_)
  · obtain ⟨_, _, _, _, rfl, _⟩ := h
    rfl
  · obtain ⟨v, r, lo, hi, rfl, ⟨t, rfl, ht⟩, ok, k⟩ := h
    refine ⟨_, pss_cons (ps_set (i := 3) scClipped.nd rfl (.inl rfl) (pe_c c2 hr (by decide) (by rfl) (pa_cons (pv 0) pa_nil)))
      (pss_cons (ps_set (i := 4) scClipped.nd rfl (.inl rfl) (pe_ifExp (PW.pt (pw_or (pt_cmp (pc_isN (pe_ix ix_tup (pv 0) pe_int (fun _ _ => rfl)))) (pw_or1 (pt_cmpR op_lt (pe_ix ix_tup (pv 0) pe_int (fun _ _ => rfl)) (pv 1) (nomark _)))))
        (pe_op op_add (pv 1) (pe_op op_mod (pe_callTy call_int1 (by rfl) T.int boot_int (pa_cons (pe_op op_sub (pv 3) (pv 1)) pa_nil)) (pe_ix ix_tup (pv 0) pe_int (fun _ _ => rfl)))) (pe_ix ix_tup (pv 0) pe_int (fun _ _ => rfl))))
      (pss_cons (ps_set (i := 5) scClipped.nd rfl (.inl rfl) (pe_ifExp (PW.pt (pw_or (pt_cmp (pc_isN (pe_ix ix_tup (pv 0) pe_int (fun _ _ => rfl)))) (pw_or1 (pt_cmpR op_gt (pe_ix ix_tup (pv 0) pe_int (fun _ _ => rfl)) (pv 2) (nomark _)))))
        (pe_op op_sub (pv 2) (pe_op op_mod (pe_callTy call_int1 (by rfl) T.int boot_int (pa_cons (pe_op op_sub (pv 2) (pv 3)) pa_nil)) (pe_ix ix_tup (pv 0) pe_int (fun _ _ => rfl)))) (pe_ix ix_tup (pv 0) pe_int (fun _ _ => rfl))))
      (pss_one (ps_ret (pe_ifExp (pt_cmpR op_le (pv 4) (pv 5) (nomark _)) (pe_tup (pa_cons (pv 4) (pa_cons (pv 5) (pa_cons (pe_ix ix_tup (pv 0) pe_int (fun _ _ => rfl)) pa_nil)))) pe_non))))), ?_⟩
    refine ⟨_, rfl, .ref t, r, rfl, ⟨t, rfl, ht⟩, ok, ?_⟩
    obtain ⟨f0, l0, st⟩ := r
    have step1 : ∀ (Q1 : VK), Q1 (.int (clipF ⟨f0, l0, st⟩ lo)) H →
        (tIf (tOr (tB (tIsN (tOp (rIxT K) (tVar 0) (tC (.int 0))))) (tTest (tOp (rI0 fun i j => .bl (decide (i < j))) (tOp (rIxT K) (tVar 0) (tC (.int 0))) (tVar 1))))
          (tOp (rI0 fun i j => .int (i + j)) (tVar 1) (tOp (rI (fun _ j => 0 < j) fun i j => .int (i % j)) (tCB (fun xs H Q => (∃ i, xs = [.int i] ∧ Q (.int i) H) ∨ ∃ k, xs = [.bl k] ∧ Q (.int (if k then 1 else 0)) H) (tCons (tOp (rI0 fun i j => .int (i - j)) (tVar 3) (tVar 1)) tNil)) (tOp (rIxT K) (tVar 0) (tC (.int 2)))))
          (tOp (rIxT K) (tVar 0) (tC (.int 0)))) [some (.ref t), some (.int lo), some (.int hi), some (.int (Rw.rest ⟨f0, l0, st⟩)), none, none] H Q1 := fun Q1 hq => by
      have up : clipF ⟨f0, l0, st⟩ lo = lo + (Rw.rest ⟨f0, l0, st⟩ - lo) % st → (tOp (rI0 fun i j => .int (i + j)) (tVar 1) (tOp (rI (fun _ j => 0 < j) fun i j => .int (i % j)) (tCB (fun xs H Q => (∃ i, xs = [.int i] ∧ Q (.int i) H) ∨ ∃ k, xs = [.bl k] ∧ Q (.int (if k then 1 else 0)) H) (tCons (tOp (rI0 fun i j => .int (i - j)) (tVar 3) (tVar 1)) tNil)) (tOp (rIxT K) (tVar 0) (tC (.int 2)))))
          [some (.ref t), some (.int lo), some (.int hi), some (.int (Rw.rest ⟨f0, l0, st⟩)), none, none] H Q1 := fun e => by
        rw [e] at hq
        exact ⟨_, rfl, _, rfl, _, rfl, _, _, rfl, rfl, .inl ⟨_, rfl, _, rfl, t, _, _, _, rfl, rfl, SqT.of ht, atI_nat (j := 2) rfl, _, _, rfl, rfl, ok.1, _, _, rfl, rfl, hq⟩⟩
      refine ⟨_, rfl, t, _, _, _, rfl, rfl, SqT.of ht, atI_nat (j := 0) rfl, ?_⟩
      cases f0 with
      | none => exact ⟨true, rfl, iteT (iteT (up rfl))⟩
      | some f =>
        refine ⟨false, rfl, iteF ⟨_, rfl, t, _, _, _, rfl, rfl, SqT.of ht, atI_nat (j := 0) rfl, _, rfl, _, _, rfl, rfl, _, rfl, ?_⟩⟩
        by_cases c : f < lo
        · refine iteB (decide_eq_true c) (up ?_)
          show (if f < lo then _ else f) = _
          rw [if_pos c]
        · refine iteN (decide_eq_false c) ⟨_, rfl, t, _, _, _, rfl, rfl, SqT.of ht, atI_nat (j := 0) rfl, ?_⟩
          have e : clipF ⟨some f, l0, st⟩ lo = f := by
            show (if f < lo then _ else f) = _
            rw [if_neg c]
          rw [e] at hq
          exact hq
    have step2 : ∀ (Q1 : VK), Q1 (.int (clipL ⟨f0, l0, st⟩ hi)) H →
        (tIf (tOr (tB (tIsN (tOp (rIxT K) (tVar 0) (tC (.int 1))))) (tTest (tOp (rI0 fun i j => .bl (decide (j < i))) (tOp (rIxT K) (tVar 0) (tC (.int 1))) (tVar 2))))
          (tOp (rI0 fun i j => .int (i - j)) (tVar 2) (tOp (rI (fun _ j => 0 < j) fun i j => .int (i % j)) (tCB (fun xs H Q => (∃ i, xs = [.int i] ∧ Q (.int i) H) ∨ ∃ k, xs = [.bl k] ∧ Q (.int (if k then 1 else 0)) H) (tCons (tOp (rI0 fun i j => .int (i - j)) (tVar 2) (tVar 3)) tNil)) (tOp (rIxT K) (tVar 0) (tC (.int 2)))))
          (tOp (rIxT K) (tVar 0) (tC (.int 1)))) [some (.ref t), some (.int lo), some (.int hi), some (.int (Rw.rest ⟨f0, l0, st⟩)), some (.int (clipF ⟨f0, l0, st⟩ lo)), none] H Q1 := fun Q1 hq => by
      have up : clipL ⟨f0, l0, st⟩ hi = hi - (hi - Rw.rest ⟨f0, l0, st⟩) % st → (tOp (rI0 fun i j => .int (i - j)) (tVar 2) (tOp (rI (fun _ j => 0 < j) fun i j => .int (i % j)) (tCB (fun xs H Q => (∃ i, xs = [.int i] ∧ Q (.int i) H) ∨ ∃ k, xs = [.bl k] ∧ Q (.int (if k then 1 else 0)) H) (tCons (tOp (rI0 fun i j => .int (i - j)) (tVar 2) (tVar 3)) tNil)) (tOp (rIxT K) (tVar 0) (tC (.int 2)))))
          [some (.ref t), some (.int lo), some (.int hi), some (.int (Rw.rest ⟨f0, l0, st⟩)), some (.int (clipF ⟨f0, l0, st⟩ lo)), none] H Q1 := fun e => by
        rw [e] at hq
        exact ⟨_, rfl, _, rfl, _, rfl, _, _, rfl, rfl, .inl ⟨_, rfl, _, rfl, t, _, _, _, rfl, rfl, SqT.of ht, atI_nat (j := 2) rfl, _, _, rfl, rfl, ok.1, _, _, rfl, rfl, hq⟩⟩
      refine ⟨_, rfl, t, _, _, _, rfl, rfl, SqT.of ht, atI_nat (j := 1) rfl, ?_⟩
      cases l0 with
      | none => exact ⟨true, rfl, iteT (iteT (up rfl))⟩
      | some f =>
        refine ⟨false, rfl, iteF ⟨_, rfl, t, _, _, _, rfl, rfl, SqT.of ht, atI_nat (j := 1) rfl, _, rfl, _, _, rfl, rfl, _, rfl, ?_⟩⟩
        by_cases c : hi < f
        · refine iteB (decide_eq_true c) (up ?_)
          show (if hi < f then _ else f) = _
          rw [if_pos c]
        · refine iteN (decide_eq_false c) ⟨_, rfl, t, _, _, _, rfl, rfl, SqT.of ht, atI_nat (j := 1) rfl, ?_⟩
          have e : clipL ⟨f0, some f, st⟩ hi = f := by
            show (if hi < f then _ else f) = _
            rw [if_neg c]
          rw [e] at hq
          exact hq
    refine step1 _ ?_
    refine step2 _ ?_
    refine ⟨_, rfl, _, rfl, _, _, rfl, rfl, _, rfl, ?_⟩
    by_cases c : clipF ⟨f0, l0, st⟩ lo ≤ clipL ⟨f0, l0, st⟩ hi
    · refine iteB (decide_eq_true c) ⟨_, rfl, _, rfl, _, rfl, t, _, _, _, rfl, rfl, SqT.of ht, atI_nat (j := 2) rfl, by show 3 ≤ sizeLine; decide, fun p np => ?_⟩
      refine k _ _ (same_upd np) ?_
      unfold clip
      rw [if_pos c]
      exact ⟨p, rfl, upd_same⟩
    · refine iteN (decide_eq_false c) ?_
      refine k .non H (Same.refl _) ?_
      unfold clip
      rw [if_neg c]
end
end K16
namespace K16
open PySem PySem.Spec PyProof.Rows L2
section
variable {P : Program} {w : World} {K : PySem.W.Frag} {mg : Str → Option Value} {base : Heap}
theorem cntS_zero {a b : Rw} (ha : Fin a) (hb : Fin b) {lo hi : Int} (el : lowOf a b = some lo) (eh : highOf a b = some hi) (c : hi < lo) : cntS a b = 0 := by
  unfold cntS
  rw [cnt_none fun x _ _ => ?_]
  · rfl
  · cases e : (a.mem x && b.mem x) with
    | false => rfl
    | true =>
      rw [Bool.and_eq_true, a.mem_iff, b.mem_iff] at e
      obtain ⟨_, h1, h2⟩ := mem_both.mp e
      have := h1 lo el
      have := h2 hi eh
      omega
theorem fin_low {a b : Rw} (ha : Fin a) (hb : Fin b) : ∃ lo hi, lowOf a b = some lo ∧ highOf a b = some hi := by
  obtain ⟨_, f, l, ef, el⟩ := ha
  obtain ⟨_, f', l', ef', el'⟩ := hb
  exact ⟨_, _, by unfold lowOf; rw [ef, ef'], by unfold highOf; rw [el, el']⟩
/-! many_shared -/
theorem scManyShared : FnScope ["one", "other", "low", "high", "both", "first"] ["one", "other"] (defScope sManyShared) := ⟨rfl, rfl, rfl, by decide +kernel, rfl, by decide +kernel, by decide +kernel⟩
def spManyShared : Sp := fun vs H Q _ => ∃ (v1 v2 : V) (a b : Rw), vs = [v1, v2] ∧ RowAt H v1 a ∧ RowAt H v2 b ∧ Fin a ∧ Fin b ∧ a.s.natAbs < 2 ^ 64 ∧ b.s.natAbs < 2 ^ 64 ∧
  ∀ (H' : Hp), Same H H' → Q (.int (cntS a b)) H'
theorem cal_manyShared (T : Bi mg) (D : Def K mg "many_shared" sManyShared) (c1 : Cal P w K mg base 1 "bounds_of" spBounds) (c2 : Cal P w K mg base 1 "rest_in" spRest) (c3 : Cal P w K mg base 3 "both_in" spBoth) : Cal P w K mg base 4 "many_shared" spManyShared := by
  refine cal_of D (ps := ["one", "other"]) (fun _ _ _ _ _ _ us hl => match us, hl with | [_, _], _ => rfl) scManyShared (fun vs H Q E h => ?_) (fun f cdv A outer s H vs Q E hr h => ?_)
  · obtain ⟨_, _, _, _, rfl, _⟩ := h
    rfl
  · obtain ⟨v1, v2, a, b, rfl, h1, h2, fa, fb, sa, sb, k⟩ := h
    have oa := fa.1
    have ob := fb.1
    refine ⟨_, pss_cons (ps_asg (pe_c c1 hr (by decide) (by rfl) (pa_cons (pv 0) (pa_cons (pv 1) pa_nil))) (pg_tup rfl (pgs_cons (pg_name (i := 2) scManyShared.nd rfl (.inl rfl)) (pgs_cons (pg_name (i := 3) scManyShared.nd rfl (.inl rfl)) pgs_nil))))
      (pss_cons (ps_set (i := 4) scManyShared.nd rfl (.inl rfl) (pe_ifExp (pt_cmpR op_le (pv 2) (pv 3) (nomark _)) (pe_c c3 hr (by decide) (by rfl) (pa_cons (pe_tup (pa_cons (pe_c c2 hr (by decide) (by rfl) (pa_cons (pv 0) pa_nil)) (pa_cons (pe_ix ix_tup (pv 0) pe_int (fun _ _ => rfl)) pa_nil)))
        (pa_cons (pe_tup (pa_cons (pe_c c2 hr (by decide) (by rfl) (pa_cons (pv 1) pa_nil)) (pa_cons (pe_ix ix_tup (pv 1) pe_int (fun _ _ => rfl)) pa_nil))) pa_nil))) pe_non))
      (pss_cons (ps_if (pt_cmp (pc_isN (pv 4))) (pss_one (ps_ret pe_int)) pss_nil)
      (pss_cons (ps_set (i := 5) scManyShared.nd rfl (.inl rfl) (pe_op op_add (pv 2) (pe_op op_mod (pe_callTy call_int1 (by rfl) T.int boot_int (pa_cons (pe_op op_sub (pe_ix ix_tup (pv 4) pe_int (fun _ _ => rfl)) (pv 2)) pa_nil)) (pe_ix ix_tup (pv 4) pe_int (fun _ _ => rfl)))))
      (pss_one (ps_ret (pe_ifExp (pt_cmpR op_gt (pv 5) (pv 3) (nomark _)) pe_int (pe_op op_add (pe_op op_fdivW (pe_op op_sub (pv 3) (pv 5)) (pe_ix ix_tup (pv 4) pe_int (fun _ _ => rfl))) pe_int))))))), ?_⟩
    obtain ⟨lo, hi, elo, ehi⟩ := fin_low fa fb
    refine ⟨_, rfl, _, rfl, v1, v2, a, b, rfl, h1, h2, fun t H1 s1 ht => ?_⟩
    rw [elo, ehi] at ht
    refine ⟨t, _, rfl, SqT.of ht, rfl, _, _, rfl, _, _, rfl, rfl, ?_⟩
    refine ⟨_, rfl, _, rfl, _, _, rfl, rfl, _, rfl, ?_⟩
    by_cases hc : lo ≤ hi
    · refine iteB (decide_eq_true hc) ?_
      obtain ⟨t1, rfl, ht1⟩ := h1.same s1
      obtain ⟨t2, rfl, ht2⟩ := h2.same s1
      refine ⟨_, rfl, .ref t1, a, rfl, ⟨t1, rfl, ht1⟩, oa, _, rfl, t1, _, _, _, rfl, rfl, SqT.of ht1, atI_nat (j := 2) rfl, by show 2 ≤ sizeLine; decide, fun p np => ?_⟩
      have s2 : Same H1 _ := same_upd (o := .tup [.int a.rest, .int a.s]) np
      refine ⟨_, rfl, .ref t2, b, rfl, ⟨t2, rfl, s2 _ _ ht2⟩, ob, _, rfl, t2, _, _, _, rfl, rfl, SqT.of (s2 _ _ ht2), atI_nat (j := 2) rfl, by show 2 ≤ sizeLine; decide, fun p' np' => ?_⟩
      have s3 : Same (upd H1 p (.tup [.int a.rest, .int a.s])) _ := same_upd (o := .tup [.int b.rest, .int b.s]) np'
      refine ⟨p, p', a.rest, a.s, b.rest, b.s, rfl, s3 _ _ upd_same, upd_same, Rw.rest0 oa.1, Rw.rest1 oa.1, Rw.rest0 ob.1, Rw.rest1 ob.1, sa, sb, fun o v H2 s4 ho hv => ?_⟩
      have sAll : Same H H2 := s1.trans (s2.trans (s3.trans s4))
      have hk := manyShared_cnt fa fb ho
      unfold manyShared at hk
      rw [elo, ehi] at hk
      simp only [if_neg (show ¬ hi < lo by omega)] at hk
      cases o with
      | none =>
        cases (show v = .non from hv)
        refine ⟨_, rfl, true, rfl, iteT ?_⟩
        have q := k H2 sAll
        rw [← hk] at q
        exact q
      | some qM =>
        obtain ⟨q, M⟩ := qM
        obtain ⟨z, rfl, hz⟩ := hv
        have Mb : M.natAbs < 2 ^ 128 := by
          have h1 := ho.1
          have h2 := ho.2.1
          have h3 : (a.s * b.s).natAbs < 2 ^ (64 + 64) := wide_lt sa sb
          omega
        refine ⟨_, rfl, false, rfl, iteF ?_⟩
        refine ⟨_, rfl, _, rfl, z, _, _, _, rfl, rfl, SqT.of hz, atI_nat (j := 0) rfl, _, rfl, _, _, rfl, rfl, .inl ⟨_, rfl, _, rfl, z, _, _, _, rfl, rfl, SqT.of hz, atI_nat (j := 1) rfl, _, _, rfl, rfl, ho.1, _, _, rfl, rfl, ?_⟩⟩
        refine ⟨_, rfl, _, rfl, _, _, rfl, rfl, _, rfl, ?_⟩
        have q2 := k H2 sAll
        rw [← hk] at q2
        simp only [apCount] at q2
        by_cases c : hi < lo + (q - lo) % M
        · rw [if_pos c] at q2
          exact iteB (decide_eq_true c) q2
        · rw [if_neg c] at q2
          exact iteN (decide_eq_false c) ⟨_, rfl, _, rfl, _, _, rfl, rfl, _, rfl, z, _, _, _, rfl, rfl, SqT.of hz, atI_nat (j := 1) rfl, _, _, rfl, rfl, wide_div (b := 128) ho.1 Mb (by decide) (by decide), _, _, rfl, rfl, q2⟩
    · refine iteN (decide_eq_false hc) ?_
      refine ⟨_, rfl, true, rfl, iteT ?_⟩
      have q := k H1 s1
      rw [cntS_zero fa fb elo ehi (by omega)] at q
      exact q
/-! within -/
theorem scWithin : FnScope ["rows", "low", "high", "found", "row"] ["rows", "low", "high"] (defScope sWithin) := ⟨rfl, rfl, rfl, by decide +kernel, rfl, by decide +kernel, by decide +kernel⟩
def spWithin (K : PySem.W.Frag) : Sp := fun vs H Q _ => ∃ (a : Addr) (us : List V) (rs : List Rw) (lo hi : Int), vs = [.ref a, .int lo, .int hi] ∧ SqT K H a us ∧ RowsAt H us rs ∧ (∀ r ∈ rs, r.Ok) ∧ rs.length ≤ 1000 ∧
  ∀ (p : Addr) (ws : List V) (H' : Hp), Same H H' → H' p = some (.lst ws) → RowsAt H' ws (within rs lo hi) → Q (.ref p) H'
def ClipV (lo hi : Int) (H : Hp) (v : V) (r : Rw) : Prop := match clip r lo hi with | none => v = .non | some r' => RowAt H v r'
theorem ClipV.same {lo hi : Int} {H H' : Hp} {v : V} {r : Rw} (s : Same H H') (h : ClipV lo hi H v r) : ClipV lo hi H' v r := by
  unfold ClipV at h ⊢
  cases e : clip r lo hi with
  | none => rw [e] at h; exact h
  | some r' => rw [e] at h; exact h.same s
theorem Same.tup {K : PySem.W.Frag} {H H' : Hp} {a : Addr} {xs : List V} (e : Same H H') (h : SqT K H a xs) : SqT K H' a xs := by
  rcases h with (h | ⟨o, h⟩) | h
  · exact .inl (.inl (e _ _ h))
  · exact .inl (.inr ⟨o, e _ _ h⟩)
  · exact .inr h
theorem take_snoc {α : Type} {l : List α} {i : Nat} {x : α} (h : l[i]? = some x) : l.take (i + 1) = l.take i ++ [x] := by
  rw [List.take_add_one, h]; rfl
theorem cal_within (D : Def K mg "within" sWithin) (c1 : Cal P w K mg base 2 "clipped" spClipped) : Cal P w K mg base 3 "within" (spWithin K) := by
  refine cal_of D (ps := ["rows", "low", "high"]) (fun _ _ _ _ _ _ us hl => match us, hl with | [_, _, _], _ => rfl) scWithin (fun vs H Q E h => ?_) (fun f cdv A outer s H vs Q E hr h => ?_)
  · obtain ⟨_, _, _, _, _, rfl, _⟩ := h
    rfl
  · obtain ⟨a, us, rs, lo, hi, rfl, hT, hR, hok, hlen, k⟩ := h
    refine ⟨_, pss_cons (ps_setLc (i := 3) (own := [("row", 4)]) (g := gName 4) (tt := tYes) rfl scWithin.nd rfl rfl (sw_true rfl rfl rfl (by decide +kernel)) (pi_tup (pv 0))
        (blkOk_by (N := ["rows", "low", "high", "found", "row"]) (sc := defScope sWithin) (by decide +kernel)) (fun _ _ _ _ _ => pg_name (i := 4) scWithin.nd rfl (Or.inl rfl))
        (fun _ _ _ _ _ => pts_nil) (fun _ _ _ _ _ => pe_c c1 hr (by decide) (by rfl) (pa_cons (pv 4) (pa_cons (pv 1) (pa_cons (pv 2) pa_nil)))))
      (pss_one (ps_ret (pe_lc (own := [("row", 4)]) (g := gName 4) (by rfl) scWithin.nd (pi_list (pv 3)) (blkOk_by (N := ["rows", "low", "high", "found", "row"]) (sc := defScope sWithin) (by decide +kernel))
        (fun _ _ _ _ _ => pg_name (i := 4) scWithin.nd rfl (Or.inl rfl)) (fun _ _ _ _ _ => pts_one (pt_cmp (pc_notN (pv 4)))) (fun _ _ _ _ _ => pv 4)))), ?_⟩
    refine ⟨_, rfl, a, rfl, ⟨_, hT⟩, fun D nD => ?_⟩
    have hl : us.length = rs.length := pairedLen hR
    refine lc_tup (K := K) (a := a) (xs := us) (fun i H' => Same H H' ∧ ∃ ws, H' D = some (.lst ws) ∧ Paired (ClipV lo hi H') ws (rs.take i))
      ⟨same_upd nD, [], upd_same, .nil⟩ (fun i H' _ ⟨sm, _⟩ => Same.tup sm hT) ?_ ?_
    · rintro i x H' hix ⟨sm, ws, hD, hp⟩
      obtain ⟨r, hr', hx⟩ := pairedGet hR hix
      have hm := List.mem_of_getElem? hr'
      refine ⟨rfl, ?_⟩
      unfold tYes
      refine iteT ⟨_, rfl, _, rfl, _, rfl, x, r, lo, _, rfl, hx.same sm, hok r hm, fun v' H2 s2 hv => ?_⟩
      refine ⟨ws, s2 _ _ hD, ?_, ?_, ws ++ [v'], upd_same, ?_⟩
      · have e := pairedLen hp
        rw [List.length_take] at e
        exact small1000 (by omega)
      · intro c o hc
        rw [upd_ne (ne_of_none hc nD)]
        exact s2 _ _ (sm _ _ hc)
      · have nd : ∀ {c : Addr} {o : HO}, H c = some o → c ≠ D := fun hc => ne_of_none hc nD
        rw [take_snoc hr']
        -- D holds a list: the rows are tuples elsewhere
        have keep : ∀ {v : V} {r : Rw}, ClipV lo hi H2 v r → ClipV lo hi (upd H2 D (.lst (ws ++ [v']))) v r := fun {v r} h => by
          unfold ClipV at h ⊢
          cases e : clip r lo hi with
          | none => rw [e] at h; exact h
          | some r' =>
            rw [e] at h
            obtain ⟨t, e1, e2⟩ := h
            refine ⟨t, e1, ?_⟩
            rw [upd_ne (fun z => by rw [z, s2 _ _ hD] at e2; cases e2)]
            exact e2
        exact pairedSnoc (Paired.mapP hp fun _ _ q => keep (q.same s2)) (keep hv)
    · rintro H1 ⟨sm, ws, hD, hp⟩
      have et : rs.take us.length = rs := by rw [hl]; exact List.take_length
      rw [et] at hp
      have hlw := pairedLen hp
      refine ⟨_, rfl, D, rfl, ⟨_, SqL.of hD⟩, fun D2 nD2 => ?_⟩
      have nDD : D ≠ D2 := ne_of_none hD nD2
      refine lc_list (K := K) (a := D) (xs := ws) (fun i H' => Same H1 H' ∧ ∃ zs, H' D2 = some (.lst zs) ∧ RowsAt H' zs (within (rs.take i) lo hi))
        ⟨same_upd nD2, [], upd_same, .nil⟩ (fun i H' _ ⟨s', _⟩ => SqL.of (s' _ _ hD)) ?_ ?_
      · rintro i x H' hix ⟨s', zs, hD2, hz⟩
        obtain ⟨r, hr', hx⟩ := pairedGet hp hix
        have hx := hx.same s'
        have ew : within (rs.take (i + 1)) lo hi = within (rs.take i) lo hi ++ (clip r lo hi).toList := by
          rw [take_snoc hr']
          unfold within
          rw [List.filterMap_append]
          congr 1
        refine ⟨rfl, _, rfl, ?_⟩
        rw [ew]
        unfold ClipV at hx
        cases e : clip r lo hi with
        | none =>
          rw [e] at hx
          subst hx
          refine ⟨false, rfl, iteF ⟨s', zs, hD2, ?_⟩⟩
          rw [Option.toList_none, List.append_nil]
          exact hz
        | some r' =>
          rw [e] at hx
          obtain ⟨t, rfl, ht⟩ := hx
          refine ⟨true, rfl, iteT ⟨_, rfl, zs, hD2, ?_, ?_, zs ++ [.ref t], upd_same, ?_⟩⟩
          · have e := pairedLen hz
            have e2 : (within (rs.take i) lo hi).length ≤ (rs.take i).length := List.length_filterMap_le _ _
            rw [List.length_take] at e2
            rw [e]
            exact small1000 (by omega)
          · intro c o hc
            rw [upd_ne (ne_of_none hc nD2)]
            exact s' _ _ hc
          · have keep : ∀ {v : V} {r : Rw}, RowAt H' v r → RowAt (upd H' D2 (.lst (zs ++ [.ref t]))) v r := fun {v r} ⟨t', e1, e2⟩ => ⟨t', e1, by
              rw [upd_ne (fun z => by rw [z, hD2] at e2; cases e2)]
              exact e2⟩
            exact pairedSnoc (Paired.mapP hz fun _ _ q => keep q) (keep ⟨t, rfl, ht⟩)
      · rintro H2 ⟨s', zs, hD2, hz⟩
        have et2 : rs.take ws.length = rs := by rw [hlw]; exact List.take_length
        rw [et2] at hz
        exact k D2 zs H2 (sm.trans s') hD2 hz
end
end K16
/-! sorted(xs, key=f), f a def of our own that hands back a pair of whole numbers: some arrangement of the items -/
namespace K16
open PySem PySem.Spec PyProof.Rows L2
section
variable {prog : Program} {w : World} {A : Around} {E : Value → Shared → Prop} {s : Shared}
theorem collect_seq {l : Addr} {T : String} {vs : List Value} {o : Obj} {n : Nat} {Q : List Value → Shared → Prop} (ho : s.heap.get? l = some o) (hc : o.cls = .type T) (hd : o.data = .seq vs.toArray n) (hT : T = "list" ∨ T = "tuple")
    (h : Q vs { s with heap := (s.heap.push (seqObj "list" #[] 0)).update s.heap.objs.size (Obj.mapSeq (· ++ vs.toArray)) }) (hsz : vs.length ≤ sizeLine) :
    wpAny (model prog w) A (collect (.ref l)) Q E s := by
  unfold collect
  refine wpAny_bind (wpAny_runValue (codeAny_builtin entry_proto_collect' ?_))
  show wpAny _ _ (do again (.builtin "list.__iadd__" ⟨[← newList [], .ref l], []⟩)) _ _ s
  refine wpAny_bind (wpAny_newList (wpAny_pure ⟨Code.quiet_builtin _ (by decide +kernel), codeAny_builtin entry_list_iadd' ?_⟩))
  show wpAny _ _ (Builtin.List.listExtendWith (.ref s.heap.objs.size) (.ref l) (.ref s.heap.objs.size)) _ _ { s with heap := s.heap.push (seqObj "list" #[] 0) }
  unfold Builtin.List.listExtendWith
  have ho' : (s.heap.push (seqObj "list" #[] 0)).get? l = some o := Heap.get?_push_of_some _ ho
  refine wpAny_bind (wpAny_typeOf (T := T) ⟨o, ho', hc⟩ ?_)
  have ht : (Builtin.List.listSameRef (.ref s.heap.objs.size) (.ref l) || Value.type T == Value.type "list" || Value.type T == Value.type "tuple") = true := by
    rcases hT with e | e <;> subst e <;> simp
  rw [if_pos ht]
  refine wpAny_bind (listItems_at ho' hd ?_)
  refine wpAny_bind (listItems_at (xs := #[]) (n := 0) (Heap.get?_push_size _ rfl) rfl ?_)
  rw [if_neg (by simp)]
  refine wpAny_bind (listUpdate_at (xs := #[]) (n := 0) (Heap.get?_push_size _ rfl) rfl ?_ (Nat.zero_le _) (by show (#[] ++ vs.toArray).size ≤ sizeLine + 1; simp only [Array.size_append, List.size_toArray, List.length_nil]; omega))
  refine wpAny_pure ?_
  show wpAny (model prog w) A (do
      let o ← load s.heap.objs.size
      match o.data with
      | .seq xs _ => pure xs.toList
      | _ => unsupported "internal:collect") Q E { s with heap := (s.heap.push (seqObj "list" #[] 0)).update s.heap.objs.size (Obj.mapSeq (· ++ vs.toArray)) }
  refine wpAny_bind (wpAny_load (get?_update_seq (Heap.get?_push_size _ rfl) _) ?_)
  show wpAny _ _ (pure ((#[] : Array Value) ++ vs.toArray).toList) Q E _
  rw [show ((#[] : Array Value) ++ vs.toArray).toList = vs by simp]
  exact wpAny_pure h
end
/-! objects that came later may change -/
theorem un_new {fs : List Addr} {H H1 : Hp} {h h1 h2 : Heap} {c : Addr} (U : Un fs [] H H1 h h1) (hc : h.objs.size ≤ c) (k : ∀ b o, b ≠ c → h1.get? b = some o → h2.get? b = some o) : Un fs [] H H1 h h2 where
  keep := fun b o e n hf hx => k b o (Nat.ne_of_lt (Nat.lt_of_lt_of_le (Heap.lt_size e) hc)) (U.keep b o e n hf hx)
  slot := fun b o e n hf hx => by
    obtain ⟨sl, q⟩ := U.slot b o e n hf hx
    exact ⟨sl, k b _ (Nat.ne_of_lt (Nat.lt_of_lt_of_le (Heap.lt_size e) hc)) q⟩
  free := U.free
  there := fun b o e hx => by
    obtain ⟨o', q⟩ := U.there b o e hx
    exact ⟨o', k b _ (Nat.ne_of_lt (Nat.lt_of_lt_of_le (Heap.lt_size e) hc)) q⟩
  tups := U.tups
  frzs := U.frzs
  tbls := U.tbls
theorem hok_new {P : Program} {w : World} {H : Hp} {h1 h2 : Heap} {c : Addr} (hok : HOk P w H h1) (n : H c = none) (k : ∀ b o, b ≠ c → h1.get? b = some o → h2.get? b = some o) : HOk P w H h2 := fun b u e =>
  (hok b u e).stay (fun d v hd q => k d v (by
    rcases hd with z | z
    · rw [z]; exact ne_of_none e n
    · exact ne_of_none z n) q) (fun _ q => q) fun _ _ q => q
theorem un_track {fs : List Addr} {H H1 : Hp} {h h1 : Heap} {c : Addr} {o : HO} (U : Un fs [] H H1 h h1) (hc : h.objs.size ≤ c) (n : H1 c = none) : Un fs [] H (upd H1 c o) h h1 where
  keep := U.keep
  slot := U.slot
  free := fun b ob e m hx => by rw [upd_ne (Nat.ne_of_lt (Nat.lt_of_lt_of_le (Heap.lt_size e) hc))]; exact U.free b ob e m hx
  there := U.there
  tups := fun b xs e => by rw [upd_ne (ne_of_none (U.tups b xs e) n)]; exact U.tups b xs e
  frzs := fun b ob u e => by rw [upd_ne (ne_of_none (U.frzs b ob u e) n)]; exact U.frzs b ob u e
  tbls := fun b ps e => by
    obtain ⟨m, q⟩ := U.tbls b ps e
    exact ⟨m, by rw [upd_ne (ne_of_none q n)]; exact q⟩
theorem hok_track {P : Program} {w : World} {H : Hp} {h : Heap} {c : Addr} {o : HO} (hok : HOk P w H h) (n : H c = none) (new : ObjOk P w (upd H c o) h c o) : HOk P w (upd H c o) h := fun b u e => by
  by_cases hb : b = c
  · subst hb; rw [upd_same] at e; cases e; exact new
  · rw [upd_ne hb] at e
    exact (hok b u e).stay (fun _ _ _ q => q) (fun d q => by rw [upd_ne (ne_of_none q n)]; exact q) fun d xs q => by rw [upd_ne (ne_of_none q n)]; exact q
/-- what stands between two keys -/
structure KeyInv (X : Cx) (H : Hp) (s₀ : Shared) (a kS : Addr) (e1 i : Nat) (s' : Shared) (H' : Hp) (kA : Array Value) (e : Nat) : Prop where
  os : s'.os = s₀.os
  bare : AllBare s'.gens
  un : Un (frs X.stack) [] H H' s₀.heap s'.heap
  hok : HOk X.prog X.w H' s'.heap
  same : Same H H'
  oa : s'.heap.get? a = some (seqObj "list" #[] e1)
  na : H' a = none
  ok : s'.heap.get? kS = some (seqObj "list" kA e)
  nk : H' kS = none
  sz : kA.size = i
  keys : ∀ v ∈ kA.toList, ∃ (p : Addr) (x y : Int), v = .ref p ∧ H' p = some (.tup [.int x, .int y])
section
variable {X : Cx} {pins : List (Addr × Obj)} {σ : L2.St} {H : Hp} {s : Shared}
theorem key_pair {P : Program} {w : World} {H : Hp} {h : Heap} {v : Value} (hok : HOk P w H h) (k : ∃ (p : Addr) (x y : Int), v = .ref p ∧ H p = some (.tup [.int x, .int y])) : ∃ x y, Srt.IsPair h v x y := by
  obtain ⟨p, x, y, rfl, e⟩ := k
  obtain ⟨_, its2, r2, o, ho, hc, n, hd⟩ := hok _ _ e
  obtain ⟨u1, u2, rfl, ri, rj⟩ := vals2 r2
  obtain ⟨t1, rfl⟩ := ri
  obtain ⟨t2, rfl⟩ := rj
  exact ⟨x, y, p, o, t1, t2, n, rfl, ho, hc, hd⟩
theorem frs_lt (I : Inv X pins σ H s) {b : Addr} (hb : b ∈ frs X.stack) : b < s.heap.objs.size := by
  obtain ⟨_, o, e, _⟩ := I.stack.mem hb
  exact Heap.lt_size e
/-- list.sort by keys, behind the keys -/
theorem sort_end {kS a : Addr} {e1 e i : Nat} {s' : Shared} {H' : Hp} {kA : Array Value} {vs : List Value} {A : Around} {R : PySem.Fin → Shared → Prop} (K : KeyInv X H s a kS e1 i s' H' kA e) (ha : s.heap.objs.size ≤ a) (hk : s.heap.objs.size ≤ kS) (hne : a ≠ kS) (hi : i = vs.length) (hz : vs.length ≤ sizeLine)
    (h : ∀ (out : List Value) (h' : Heap) (n : Nat), out.Perm vs → h'.get? a = some (seqObj "list" out.toArray n) → Un (frs X.stack) [] H H' s.heap h' → HOk X.prog X.w H' h' → R (.done (.ret .none)) { s' with heap := h' }) :
    wpAny (model X.prog X.w) A (ksk_end a false vs.toArray e1 (.ref kS) kA) R (fun _ _ => False) s' := by
  have hsz : kA.size = vs.length := by rw [K.sz, hi]
  have hkl : kA.toList.length = vs.length := (Array.length_toList (xs := kA)).trans hsz
  have hzs : (kA.zip vs.toArray).size = vs.length := by rw [Array.size_zip, hsz, List.size_toArray, Nat.min_self]
  -- the last steps
  have tail : ∀ st : SortSt, (arrOf st).Perm (kA.zip vs.toArray) → failedOf st = none → wpAny (model X.prog X.w) A (ksk_tail a false e1 (.ref kS) st) R (fun _ _ => False) s' := by
    intro st hp hf
    have hl : (arrOf st).toList.Perm (kA.toList.zip vs) := by rw [← ksk_zip]; exact Array.perm_iff_toList_perm.mp hp
    have ho : (((arrOf st).map (·.2)).toList).Perm vs := by
      have h1 := hl.map (fun p : Keyed => p.2)
      have e' : (kA.toList.zip vs).map (fun p : Keyed => p.2) = vs := List.map_snd_zip (Nat.le_of_eq hkl.symm)
      rw [e'] at h1
      rw [Array.toList_map]
      exact h1
    have hos : ((arrOf st).map (·.2)).size = vs.length := by rw [Array.size_map, hp.size_eq, hzs]
    have s1 := Heap.SameBut.update s'.heap kS (Obj.mapSeq fun _ => (#[] : Array Value))
    have na1 : (s'.heap.update kS (Obj.mapSeq fun _ => (#[] : Array Value))).get? a = some (seqObj "list" #[] e1) := (s1.2 a hne).trans K.oa
    have s2 := Heap.SameBut.update (s'.heap.update kS (Obj.mapSeq fun _ => (#[] : Array Value))) a (Obj.mapSeq fun _ => (arrOf st).map (·.2))
    obtain ⟨c2, hc2⟩ : ∃ c2, ((s'.heap.update kS (Obj.mapSeq fun _ => (#[] : Array Value))).update a (Obj.mapSeq fun _ => (arrOf st).map (·.2))).get? a = some (seqObj "list" ((arrOf st).map (·.2)) c2) :=
      ⟨_, get?_update_seq na1 fun _ => (arrOf st).map (·.2)⟩
    unfold ksk_tail
    try dsimp only
    refine wpAny_bind (listUpdate_at K.ok rfl ?_ (by rw [hsz]; exact hz) (Nat.zero_le _))
    refine wpAny_bind (wpAny_letGo ?_)
    refine wpAny_bind (seqEpoch_at na1 rfl ?_)
    refine wpAny_bind (listUpdate_at na1 rfl ?_ (Nat.zero_le _) (Nat.le_trans (Nat.le_of_eq hos) (by omega)))
    rw [hf]
    simp only [bne_self_eq_false, Bool.false_eq_true, if_false]
    have k1 : ∀ b o, b ≠ kS → s'.heap.get? b = some o → (s'.heap.update kS (Obj.mapSeq fun _ => (#[] : Array Value))).get? b = some o := fun b o hb q => (s1.2 b hb).trans q
    have k2 : ∀ b o, b ≠ a → (s'.heap.update kS (Obj.mapSeq fun _ => (#[] : Array Value))).get? b = some o → ((s'.heap.update kS (Obj.mapSeq fun _ => (#[] : Array Value))).update a (Obj.mapSeq fun _ => (arrOf st).map (·.2))).get? b = some o := fun b o hb q => (s2.2 b hb).trans q
    refine wpAny_pure (h _ _ c2 ho ?_ (un_new (un_new K.un hk k1) ha k2) (hok_new (hok_new K.hok K.nk k1) K.na k2))
    rw [Array.toArray_toList]
    exact hc2
  unfold ksk_end
  try dsimp only
  rw [if_neg (by simp)]
  by_cases h2 : vs.toArray.size < 2
  · rw [if_pos h2, if_pos h2]
    refine wpAny_bind (wpAny_pure ?_)
    rw [StateT.run_pure]
    refine wpAny_bind (wpAny_pure ?_)
    try dsimp only
    exact tail (SortSt.mk' general' (kA.zip vs.toArray) #[] 7 none) (Array.Perm.refl _) rfl
  · rw [if_neg h2, if_neg h2]
    rw [List.size_toArray] at h2
    have hpair : ∀ v ∈ kA.toList, ∃ x y, Srt.IsPair s'.heap v x y := fun v hv => key_pair K.hok (K.keys v hv)
    have e0 : (kA.toList).toArray = kA := Array.toArray_toList
    obtain ⟨κ, hkind, hT⟩ := Srt.pairs_sortable (prog := X.prog) (w := X.w) (A := A) (s := s') (a := a) (vs := kA.toList) (by rw [hkl]; omega) hpair (fun o q => by
      rw [K.oa] at q
      cases q
      exact fun z => by
        injection z with z3
        exact absurd z3 (by decide)) s'.heap (fun _ _ _ q => q)
    rw [e0] at hkind
    refine wpAny_bind (hkind _ _ ?_)
    have hall : Srt.AllP (fun p : Keyed => p.1 ∈ kA.toList) (kA.zip vs.toArray) := fun p hm => by
      rw [ksk_zip] at hm
      obtain ⟨x, y⟩ := p
      exact (List.of_mem_zip hm).1
    refine wpAny_bind (wpAny_mono (Srt.wpS_sortAny (st0 := SortSt.mk' κ (kA.zip vs.toArray) #[] 7 none)
      (Q := fun _ st' => (arrOf st').Perm (kA.zip vs.toArray) ∧ failedOf st' = none) hT rfl hall rfl rfl fun st' a1 a2 => ⟨a1, a2⟩) ?_ fun _ _ e => e)
    rintro ⟨⟨⟩, st'⟩ s'' ⟨rfl, hp, hf⟩
    try dsimp only
    exact tail st' hp hf
end
end K16
namespace K16
open PySem PySem.Spec PyProof.Rows L2
theorem ne13 (n : Nat) : n + 1 ≠ n + 3 := by omega
theorem args_key_sorted (a v : Value) : argsOk "sorted" ⟨[a], [(Str.ofString "key", v)]⟩ := ksk_s1 a v
section
variable {X : Cx} {pins : List (Addr × Obj)} {σ : L2.St} {H : Hp} {s : Shared}
/-- the keys are made -/
theorem sort_rest {f : Addr} {fd : FuncData} {ps : List Str} {k : Nat} {kS a : Addr} {e1 : Nat} {s1 : Shared} {xs : List V} {vs : List Value} {R : PySem.Fin → Shared → Prop} (F : FnOk X.prog X.w X.K X.mg X.base L2.CX0 k f fd ps spTurn) (hb : Binds X.K fd ps []) (hr : Room (k + 2) X.A)
    (I : Inv X pins σ H s) (K0 : KeyInv X H s a kS e1 0 s1 H #[] 0) (rv : Vals xs vs) (hx : ∀ x ∈ xs, ∃ r, RowAt H x r ∧ r.Ok) (ha : s.heap.objs.size ≤ a) (hk : s.heap.objs.size ≤ kS) (hne : a ≠ kS) (hz : vs.length ≤ sizeLine)
    (h : ∀ (out : List Value) (s' : Shared) (H' : Hp) (n : Nat), out.Perm vs → s'.os = s.os → AllBare s'.gens → Same H H' → H' a = none → s'.heap.get? a = some (seqObj "list" out.toArray n) → Un (frs X.stack) [] H H' s.heap s'.heap → HOk X.prog X.w H' s'.heap → R (.done (.ret .none)) s') :
    wpAny (model X.prog X.w) X.A.in1.in1 (ksk_rest a (.ref f) false vs.toArray e1 (.ref kS)) R (fun _ _ => False) s1 := by
  unfold ksk_rest
  refine wpAny_bind (wpAny_rule ?_)
  first
    | rw [List.forIn_toArray]
    | (rw [← Array.forIn_toList]; simp only [List.toList_toArray])
    | rw [← Array.forIn_toList]
  refine wpAny_bind (ksk_fold (fun i s' => ∃ H' kA e, KeyInv X H s a kS e1 i s' H' kA e) vs 0 s1 ⟨H, #[], 0, K0⟩ ?step ?done)
  case step =>
    rintro j x s' hxj ⟨H', kA, e, J⟩
    simp only [Nat.zero_add] at J ⊢
    have hj : j < vs.length := (List.getElem?_eq_some_iff.mp hxj).1
    obtain ⟨v, hv⟩ : ∃ v, xs[j]? = some v := ⟨_, List.getElem?_eq_getElem (by rw [rv.length]; exact hj)⟩
    obtain ⟨u, hu, rvu⟩ := rv.get hv
    rw [hxj] at hu
    cases hu
    obtain ⟨r, hrow, hok⟩ := hx v (List.mem_of_getElem? hv)
    have I' : Inv X pins σ H' s' := I.call' (ch := []) J.os J.un J.hok J.bare fun b z => absurd z (by simp)
    have hsp : spTurn [v] H' (fun w' H'' => ∃ (p : Addr) (x y : Int), w' = .ref p ∧ H' p = none ∧ H'' = upd H' p (.tup [.int x, .int y])) (fun _ _ _ => False) :=
      ⟨v, r, rfl, hrow.same J.same, hok, fun x y p np => ⟨p, x, y, rfl, np, rfl⟩⟩
    have hl : ([x] ++ ([] : List Value)).length = ps.length := by rw [← F.len _ _ _ _ hsp]; rfl
    refine wpAny_bind (wpAny_attempt (wpAny_mono (Q := fun w' s'' => CE X.stack X.prog X.w H' s' (fun w' H'' => ∃ (p : Addr) (x y : Int), w' = .ref p ∧ H' p = none ∧ H'' = upd H' p (.tup [.int x, .int y])) w' s'') (E := fun _ _ => False)
      (wpAny_call (codeAny_mono (F.run X.A.in1.in1 X.stack s' H' ⟨[x], []⟩ [x] [v] _ (fun _ _ _ => False) hr.in1.in1 I'.env0.in1.in1 (hb s' [x] I'.kIn hl) (.cons rvu .nil) hsp) fun r s'' hq => ?_)) (fun w' s'' hc => ?_) fun _ _ hF => hF.elim))
    · cases r with
      | error er => exact hq.elim
      | ok fl =>
        cases fl with
        | ret u => exact hq
        | next => exact False.elim hq
        | brk => exact False.elim hq
        | cont => exact False.elim hq
    · obtain ⟨w2, H2, os2, bare2, un2, hok2, rw2, p, x1, y1, rfl, np, rfl⟩ := hc
      cases (show w' = Value.ref p from rw2)
      have afr : a ∉ frs X.stack := fun z => absurd (frs_lt I z) (Nat.not_lt.mpr ha)
      have kfr : kS ∉ frs X.stack := fun z => absurd (frs_lt I z) (Nat.not_lt.mpr hk)
      have oa2 := un2.keep a _ J.oa J.na afr (by simp)
      have ok2 := un2.keep kS _ J.ok J.nk kfr (by simp)
      have na2 := un2.free a _ J.oa J.na (by simp)
      have nk2 := un2.free kS _ J.ok J.nk (by simp)
      have s2 := Heap.SameBut.update s''.heap kS (Obj.mapSeq (·.push (.ref p)))
      obtain ⟨c2, hc2⟩ : ∃ c2, (s''.heap.update kS (Obj.mapSeq (·.push (.ref p)))).get? kS = some (seqObj "list" (kA.push (.ref p)) c2) := ⟨_, get?_update_seq ok2 (·.push (.ref p))⟩
      have k2 : ∀ b o, b ≠ kS → s''.heap.get? b = some o → (s''.heap.update kS (Obj.mapSeq (·.push (Value.ref p)))).get? b = some o := fun b o hb q => (s2.2 b hb).trans q
      try dsimp only
      refine wpAny_bind (listUpdate_at ok2 rfl ?_ (by have := J.sz; omega) (by rw [Array.size_push]; have := J.sz; omega))
      refine wpAny_pure ⟨rfl, upd H' p (.tup [.int x1, .int y1]), kA.push (.ref p), c2, ?_⟩
      refine ⟨os2.trans J.os, bare2, un_new (J.un.trans un2) hk k2, hok_new hok2 nk2 k2, J.same.trans (same_upd np), k2 a _ hne oa2, na2, hc2, nk2, by rw [Array.size_push, J.sz], fun v hv => ?_⟩
      rw [Array.toList_push] at hv
      rcases List.mem_append.mp hv with hv | hv
      · obtain ⟨p2, x2, y2, e2, h2⟩ := J.keys v hv
        exact ⟨p2, x2, y2, e2, (same_upd np) _ _ h2⟩
      · rw [List.mem_singleton] at hv
        exact ⟨p, x1, y1, hv, upd_same⟩
  case done =>
    rintro s' ⟨H', kA, e, J⟩
    try dsimp only
    refine wpAny_bind (listItems_at J.ok rfl ?_)
    refine sort_end J ha hk hne (by omega) hz fun out h' n hp ho un hok => ?_
    exact h out { s' with heap := h' } H' n hp J.os J.bare J.same J.na ho un hok
theorem sort_call {f : Addr} {fd : FuncData} {ps : List Str} {k : Nat} {l : Addr} {xs : List V} {Q : VK} (F : FnOk X.prog X.w X.K X.mg X.base L2.CX0 k f fd ps spTurn) (hb : Binds X.K fd ps []) (hr : Room (k + 2) X.A)
    (I : Inv X pins σ H s) (hs : SqL X.K H l xs ∨ SqT X.K H l xs) (hx : ∀ x ∈ xs, ∃ r, RowAt H x r ∧ r.Ok)
    (h : ∀ (ys : List V) (p : Addr) (H' : Hp), Same H H' → ys.Perm xs → H p = none → H' p = some (.lst ys) → Q (.ref p) H') :
    wpAny (model X.prog X.w) X.A (call (.builtin "sorted") [.ref l] [(Str.ofString "key", .ref f)]) (EP X pins σ Q) X.xe s := by
  obtain ⟨vs, T, o, n, rv, ho, hc, hd, hT, hz⟩ : ∃ (vs : List Value) (T : String) (o : Obj) (n : Nat), Vals xs vs ∧ s.heap.get? l = some o ∧ o.cls = .type T ∧ o.data = .seq vs.toArray n ∧ (T = "list" ∨ T = "tuple") ∧ vs.length ≤ sizeLine := by
    rcases hs with hs | hs
    · obtain ⟨its, rv, ⟨o, n, ho, hc, _, hd⟩, hz⟩ := I.list hs
      exact ⟨its, "list", o, n, rv, ho, hc, hd, .inl rfl, by rw [← rv.length]; exact hz⟩
    · obtain ⟨its, rv, ⟨o, ho, hc, n, hd⟩, hz⟩ := I.tuple hs
      exact ⟨its, "tuple", o, n, rv, ho, hc, hd, .inr rfl, by rw [← rv.length]; exact hz⟩
  refine call_function_entry_kw kind_sorted plain_sorted entry_sorted (args_key_sorted _ _) ?_
  unfold Builtin.«sorted»
  refine wpAny_bind (m := checkCount "sorted" 1 1 _) (wpAny_pure ?_)
  refine wpAny_bind (collect_seq ho hc hd hT ?_ hz)
  refine wpAny_bind (wpAny_newList ?_ hz)
  have hsz : ((s.heap.push (seqObj "list" #[] 0)).update s.heap.objs.size (Obj.mapSeq (· ++ vs.toArray))).objs.size = s.heap.objs.size + 1 := by
    rw [Heap.size_update, size_push']
  have hoL : (((s.heap.push (seqObj "list" #[] 0)).update s.heap.objs.size (Obj.mapSeq (· ++ vs.toArray))).push (seqObj "list" vs.toArray 0)).get? (s.heap.objs.size + 1) = some (seqObj "list" vs.toArray 0) := by
    rw [← hsz]; exact Heap.get?_push_size _ rfl
  have keep : ∀ b o, s.heap.get? b = some o → b ≠ s.heap.objs.size + 1 ∧ (((s.heap.push (seqObj "list" #[] 0)).update s.heap.objs.size (Obj.mapSeq (· ++ vs.toArray))).push (seqObj "list" vs.toArray 0)).get? b = some o := fun b o q => by
    have hlt : b < s.heap.objs.size := Heap.lt_size q
    refine ⟨Nat.ne_of_lt (Nat.lt_succ_of_lt hlt), Heap.get?_push_of_some _ ?_⟩
    rw [Heap.get?_update_ne _ _ _ _ (Nat.ne_of_lt hlt)]
    exact Heap.get?_push_of_some _ q
  show wpAny _ _ _ _ _ { s with heap := ((s.heap.push (seqObj "list" #[] 0)).update s.heap.objs.size (Obj.mapSeq (· ++ vs.toArray))).push (seqObj "list" vs.toArray 0) }
  rw [hsz]
  generalize hh1 : ((s.heap.push (seqObj "list" #[] 0)).update s.heap.objs.size (Obj.mapSeq (· ++ vs.toArray))).push (seqObj "list" vs.toArray 0) = h1 at hoL keep
  have hs1 : h1.objs.size = s.heap.objs.size + 2 := by rw [← hh1, size_push', hsz]
  refine wpAny_bind (wpAny_holding (wpAny_call_entry_kw slot_list_sort ⟨_, hoL, rfl⟩ entry_list_sort ?_ (ksk_l1 _ _)))
  rw [ksk_t1]
  -- the tree
  unfold ksk_tree
  obtain ⟨e1, ho1⟩ : ∃ e1, (h1.update (s.heap.objs.size + 1) (Obj.mapSeq fun _ => (#[] : Array Value))).get? (s.heap.objs.size + 1) = some (seqObj "list" #[] e1) := ⟨_, get?_update_seq hoL fun _ => #[]⟩
  refine wpAny_bind (listItems_at hoL rfl ?_)
  refine wpAny_bind (listUpdate_at hoL rfl ?_ (by rw [List.size_toArray]; exact hz) (Nat.zero_le _))
  refine wpAny_bind (seqEpoch_at ho1 rfl ?_)
  refine wpAny_bind (wpAny_newTuple ?_ (by show vs.length ≤ _; exact hz))
  refine wpAny_bind (wpAny_newList ?_ (Nat.zero_le _))
  refine wpAny_holding ?_
  have hkS : ((h1.update (s.heap.objs.size + 1) (Obj.mapSeq fun _ => (#[] : Array Value))).push (seqObj "tuple" vs.toArray 0)).objs.size = s.heap.objs.size + 3 := by rw [size_push', Heap.size_update, hs1]
  have keep3 : ∀ b o, s.heap.get? b = some o → (((h1.update (s.heap.objs.size + 1) (Obj.mapSeq fun _ => (#[] : Array Value))).push (seqObj "tuple" vs.toArray 0)).push (seqObj "list" #[] 0)).get? b = some o := fun b o q =>
    Heap.get?_push_of_some _ (Heap.get?_push_of_some _ ((Heap.get?_update_ne _ _ _ _ (keep b o q).1).trans (keep b o q).2))
  have oa3 : (((h1.update (s.heap.objs.size + 1) (Obj.mapSeq fun _ => (#[] : Array Value))).push (seqObj "tuple" vs.toArray 0)).push (seqObj "list" #[] 0)).get? (s.heap.objs.size + 1) = some (seqObj "list" #[] e1) :=
    Heap.get?_push_of_some _ (Heap.get?_push_of_some _ ho1)
  have ok3 : (((h1.update (s.heap.objs.size + 1) (Obj.mapSeq fun _ => (#[] : Array Value))).push (seqObj "tuple" vs.toArray 0)).push (seqObj "list" #[] 0)).get? (s.heap.objs.size + 3) = some (seqObj "list" #[] 0) := by
    rw [← hkS]; exact Heap.get?_push_size _ rfl
  show wpAny _ _ (ksk_rest _ _ _ _ _ (.ref ((h1.update (s.heap.objs.size + 1) (Obj.mapSeq fun _ => (#[] : Array Value))).push (seqObj "tuple" vs.toArray 0)).objs.size)) _ _ { s with heap := ((h1.update (s.heap.objs.size + 1) (Obj.mapSeq fun _ => (#[] : Array Value))).push (seqObj "tuple" vs.toArray 0)).push (seqObj "list" #[] 0) }
  rw [hkS]
  generalize ((h1.update (s.heap.objs.size + 1) (Obj.mapSeq fun _ => (#[] : Array Value))).push (seqObj "tuple" vs.toArray 0)).push (seqObj "list" #[] 0) = h3 at keep3 oa3 ok3
  have na : H (s.heap.objs.size + 1) = none := I.hok.fresh (Nat.le_succ _)
  have nk : H (s.heap.objs.size + 3) = none := I.hok.fresh (Nat.le_add_right _ _)
  refine wpAny_mono (sort_rest F hb hr I (s1 := { s with heap := h3 }) ⟨rfl, I.bare, Un.kept keep3, I.hok.kept keep3, Same.refl _, oa3, na, ok3, nk, rfl, fun v hv => absurd hv (by simp)⟩ rv hx (Nat.le_succ _) (Nat.le_add_right _ _) (ne13 _) hz
    fun out s' H' n hp os bare sm na' ho' un hok => ⟨_, rfl, ?_⟩) (fun _ _ q => q) fun _ _ z => z.elim
  refine wpAny_pure ⟨_, rfl, ?_⟩
  have hxr : ∀ x ∈ xs, ∃ a, x = V.ref a := fun x hm => by
    obtain ⟨r, ⟨t, e, _⟩, _⟩ := hx x hm
    exact ⟨t, e⟩
  obtain ⟨ex, er⟩ := refs_back rv hxr
  have hb' : (out.map backV).Perm xs := by
    rw [ex]; exact hp.map backV
  have hor : ∀ u ∈ out, ∃ a, u = Value.ref a := fun u hu => er u (hp.mem_iff.mp hu)
  have hlen : (out.map backV).length ≤ sizeLine := by
    rw [List.length_map, hp.length_eq]; exact hz
  refine ⟨.ref (s.heap.objs.size + 1), upd H' (s.heap.objs.size + 1) (.lst (out.map backV)), I.call' (ch := []) os (un_track un (Nat.le_succ _) na') (hok_track hok na' ⟨hlen, out, n, vals_back hor, ho'⟩) bare (fun b z => absurd z (by simp)), rfl, ?_⟩
  exact h _ _ _ (fun b u q => by rw [upd_ne (ne_of_none (sm _ _ q) na')]; exact sm _ _ q) hb' na upd_same
/-! as a rule -/
def tSortK (K : PySem.W.Frag) (t : TA) : TE := fun σ H Q => t σ H fun vs H1 => ∃ (a : Addr) (xs : List V), vs = [V.ref a] ∧ (SqL K H1 a xs ∨ SqT K H1 a xs) ∧ (∀ x ∈ xs, ∃ r, RowAt H1 x r ∧ r.Ok) ∧
  ∀ (ys : List V) (p : Addr) (H' : Hp), Same H1 H' → ys.Perm xs → H1 p = none → H' p = some (.lst ys) → Q (.ref p) H'
theorem pe_sortedKey {e : Expr} {t : TA} {p p2 kp pos : Pos} (c : Cal X.prog X.w X.K X.mg X.base 1 "turn_of" spTurn) (hr : Room 3 X.A) (hg : Gl X "sorted") (hm : X.mg "sorted" = none) (hgt : Gl X "turn_of") (ha : PA X [e] t)
    (he : backTo pos (starEach [e] X.env) = (false, eval e X.env) :: backTo pos (starEach [] X.env) := by rfl) (hpl : (backTo pos (starEach [e] X.env)).any (·.1) = false := by rfl) :
    PE X (.Call (.Name "sorted" p) [e] [⟨some "key", .Name "turn_of" p2, kp⟩] pos) (tSortK X.K t) := by
  obtain ⟨f, fd, ps, F, hmf, kpf, hb⟩ := c.ex
  have pk : PK X [⟨some "key", .Name "turn_of" p2, kp⟩] (tCons (tC (.ref f)) tNil) := pk_cons (pe_glob hgt hmf rfl) pk_nil
  refine ⟨fun pins s σ H Q I h => ?_⟩
  refine wpAny_Call_Name_kw (ld_blt I hg hm boot_sorted ?_ (by decide) (by decide))
  refine PyProof.Rows.callWith_kw (thn (ha.run pos pins s σ H _ I h) fun us s1 ⟨vs, H1, I1, r1, q1⟩ => thn (pk.run pos pins s1 σ H1 (fun zs H2 => zs = [V.ref f] ∧ H2 = H1) I1 ⟨rfl, rfl⟩) fun ws s2 ⟨zs, H2, I2, r2, e1, e2⟩ => ?_) he hpl rfl rfl
  subst e1 e2
  obtain ⟨a, xs, rfl, hs, hx, q⟩ := q1
  obtain ⟨u1, rfl, e0⟩ := vals1 r1
  cases e0
  obtain ⟨w1, rfl, e1⟩ := vals1 r2
  cases e1
  exact sort_call F hb hr I2 hs hx q
end
end K16
/-! dicts: the values of a dict whose keys are tuples, walked; list(d.values()) -/
namespace K16
open PySem PySem.Spec PyProof.Rows L2
theorem frzTv {X : Cx} {pins : List (Addr × Obj)} {σ : L2.St} {H : Hp} {s : Shared} {d : Addr} {o : Obj} {kvs : List (List Key × V)} (I : Inv X pins σ H s) (h : H d = some (.frz o (.dT kvs))) :
    (d == sysModules) = false ∧ s.heap.get? d = some o ∧ o.ExactDict ∧ ∃ (es : Array DictEntry) (ep : Nat), o.data = .dict es ep ∧ es.size = kvs.length ∧
      ∀ (i : Nat) (hi : i < es.size) (k : List Key) (v : V), kvs[i]? = some (k, v) → RelV v es[i].val := by
  obtain ⟨hd, z, hs, xs, pr, o', es, ep, ho, hx, hdt, he, _⟩ := I.hok d _ h
  rw [hd] at ho
  cases ho
  have l1 : es.size = xs.length := size_of_entries he
  have l2 : kvs.length = xs.length := Paired.length pr
  refine ⟨hs, hd, hx, es, ep, hdt, by omega, fun i hi k v e => ?_⟩
  obtain ⟨b, hb, e1, e2, e3⟩ := paired_get pr e
  have q := entry_at he i
  rw [hb, Array.getElem?_eq_getElem hi] at q
  have q' := Option.some.inj q
  rw [q']
  exact e3
/-- the values of the locked dict at d -/
def Itdt (d : Addr) (o : Obj) (kvs : List (List Key × V)) : It :=
  ⟨fun i H => H d = some (.frz o (.dT kvs)) ∧ i < kvs.length, fun i H x H' => H' = H ∧ ∃ k, kvs[i]? = some (k, x), fun i H => H d = some (.frz o (.dT kvs)) ∧ kvs.length ≤ i⟩
section
variable {P : Program} {w : World} {K : PySem.W.Frag} {tg : Expr} {d : Addr} {o : Obj} {es : Array DictEntry} {ep : Nat}
theorem turn_valsT {kvs : List (List Key × V)} (it : Addr) (hod : o.data = .dict es ep) : Turn P w K tg (Itdt d o kvs) [it] it (fun i h => h.IsValIter it d i kvs.length ep) where
  mem := by simp
  obj := fun i h st b hb => by
    have e : b = it := by simpa using hb
    subst e
    obtain ⟨oi, e, c, dd⟩ := st
    exact ⟨oi, e, fun v z => by rw [dd] at z; cases z⟩
  keep := fun i h h' st k => st.at fun oi e => k it (by simp) oi e
  item := by
    intro X hP hw hK hc i pins s σ H E I hf st hg
    subst hP hw hK
    obtain ⟨hd, hi⟩ := hg
    obtain ⟨f0, f1, f2, f3, f4, f5⟩ := hf it (by simp)
    obtain ⟨hs, hgd, hx, es', ep', hdt, hsz, rel⟩ := frzTv I hd
    obtain ⟨rfl, rfl⟩ := dict_ep hod hdt
    obtain ⟨⟨k, v⟩, hkv⟩ : ∃ p, kvs[i]? = some p := ⟨kvs[i], List.getElem?_eq_getElem hi⟩
    have hi' : i < es'.size := by omega
    have ru := rel i hi' k v hkv
    rw [← hsz] at st
    refine wpAny_pyNext_values_item_raw st ⟨o, hgd, hx, hdt⟩ hi' fun h' st' sb => ?_
    have I1 : Inv X pins σ H { s with heap := h' } := I.turned (t' := s.toks) (fun b ob hb e => (sb.2 b hb).trans e) f0 f1 f3 f4 f5
    obtain ⟨oi, e, c, dd⟩ := id st'
    refine ⟨_, rfl, go_of (s := { s with heap := h' }) e c dd (by decide) ⟨v, H, I1, ru, ⟨rfl, k, hkv⟩, ?_, fun b hb => (hf b hb).1⟩⟩
    show h'.IsValIter it d (i + 1) kvs.length _
    rw [← hsz]
    exact st'
  done := by
    intro X hP hw hK hc i pins s σ H E I hf st hg
    subst hP hw hK
    obtain ⟨hd, hi⟩ := hg
    obtain ⟨f0, f1, f2, f3, f4, f5⟩ := hf it (by simp)
    obtain ⟨hs, hgd, hx, es', ep', hdt, hsz, rel⟩ := frzTv I hd
    obtain ⟨rfl, rfl⟩ := dict_ep hod hdt
    rw [← hsz] at st
    exact wpAny_pyNext_values_end_raw (I.ok.hd hc) st ⟨o, hgd, hx, hdt⟩ (by omega) fun h' eb => ⟨rfl, I.turned (t' := s.toks) (fun b ob hb e => eb b ob hb e) f0 f1 f3 f4 f5⟩
  self := fun A i s Q E st h => wpAny_pyIter_valiter st h
end
def iValsT (td : TE) : TI := fun σ H R => td σ H fun x H1 => ∃ d o kvs, x = .ref d ∧ H1 d = some (.frz o (.dT kvs)) ∧ R (Itdt d o kvs) H1
section
variable {X : Cx} {tg e : Expr} {td : TE} {apos cpos : Pos}
theorem pi_valuesT (he : PE X e td) (hbase : attributeBase e "values" X.env (eval e X.env) = eval e X.env := by rfl) (hline : (apos.endLine == cpos.line) = true := by rfl) : PI X tg (.Call (.Attribute e "values" apos) [] [] cpos) (iValsT td) := by
  refine ⟨fun pins s σ H R I h => ?_⟩
  refine wpAny_Call_method (T := "dict") (id := "dict.values") hbase rfl hline F.plainAttrs_dict F.slot_dict_values F.type_dict_values (thn (he.run pins s σ H _ I h) fun u s1 ⟨x, H1, I1, rx, d, o, kvs, ex, hd, q⟩ => ?_)
  subst ex
  obtain rfl : u = Value.ref d := rx
  obtain ⟨hs, hgd, hx, es, ep, hdt, hsz, rel⟩ := frzTv I1 hd
  have hm : s1.heap.DictRaw d es ep := ⟨o, hgd, hx, hdt⟩
  refine ⟨hm.typeIs, fun b e => ?_, ?_⟩
  · cases e
    exact ⟨o, hgd, hx.2.1⟩
  have I2 : Inv X pins σ H1 { s1 with heap := s1.heap.push { cls := .type "dict_values", data := .fields #[.ref d] } } := I1.kept (t' := s1.toks) fun b ob q => Heap.get?_push_of_some _ q
  have fin : wpAny (model X.prog X.w) X.A (pyIter (.ref s1.heap.objs.size)) (PIE X pins σ tg R) X.xe { s1 with heap := s1.heap.push { cls := .type "dict_values", data := .fields #[.ref d] } } := by
    refine wpAny_pyIter_values_raw (d := d) ⟨_, Heap.get?_push_size _ rfl, rfl, rfl⟩ (hm.push _) (pi_one (tk := s1.toks) I2 _ (turn_valsT _ hdt) ⟨_, Heap.get?_push_size _ rfl, rfl, ?_⟩ q)
    rw [hsz] <;> rfl
  show wpAny _ _ (callWith cpos (.builtin "dict.values") [.ref d] [] []) _ X.xe s1
  exact method_meetsIn F.slot_dict_values F.entry_dict_values rfl (PySem.evalArgs_none ⟨rfl, hm.typeIs, F.args_dict_values_1 _, _, meets_dict_values_raw d hs, ⟨es, ep, hm⟩, fin⟩)
end
/-- the forms one uses: over the values -/
theorem for_valsT {d : Addr} {o : Obj} {kvs : List (List Key × V)} {g : TG} {tb : TS} {D : Ends} {σ : L2.St} {H : Hp} (Pv : Nat → L2.St → Hp → Prop) (h0 : Pv 0 σ H) (hl : ∀ i σ H, i ≤ kvs.length → Pv i σ H → H d = some (.frz o (.dT kvs)))
    (hs : ∀ i k x σ H, kvs[i]? = some (k, x) → Pv i σ H → g x σ H fun σ2 H2 => tb { D with nx := Pv (i + 1), ct := Pv (i + 1), bk := D.nx } σ2 H2) (hd : ∀ σ H, Pv kvs.length σ H → D.nx σ H) :
    ∃ W : Nat → Nat → L2.St → Hp → Prop, (∃ m, W 0 m σ H) ∧ ∀ i m σ H, W i m σ H →
      ((Itdt d o kvs).stop i H ∧ D.nx σ H) ∨ ((Itdt d o kvs).go i H ∧ ∃ N : L2.St → Hp → Prop, (∀ σ' H', N σ' H' → ∃ m', m' < m ∧ W (i + 1) m' σ' H') ∧ ∀ x H', (Itdt d o kvs).yld i H x H' → g x σ H' fun σ2 H2 => tb { D with nx := N, ct := N, bk := D.nx } σ2 H2) := by
  refine ⟨fun i m σ H => m = kvs.length - i ∧ i ≤ kvs.length ∧ Pv i σ H, ⟨kvs.length, by simp, Nat.zero_le _, h0⟩, ?_⟩
  rintro i m σ H ⟨rfl, hi, p⟩
  have q := hl i σ H hi p
  by_cases hlt : i < kvs.length
  · refine .inr ⟨⟨q, hlt⟩, Pv (i + 1), fun σ' H' p' => ⟨kvs.length - (i + 1), by omega, rfl, hlt, p'⟩, fun x H' y => ?_⟩
    obtain ⟨e, k, y⟩ := y
    subst e
    exact hs i k x σ _ y p
  · have e : i = kvs.length := by omega
    subst e
    exact .inl ⟨⟨q, Nat.le_refl _⟩, hd σ H p⟩
/-! list(d.values()) -/
def tListVals (td : TE) : TE := fun σ H Q => td σ H fun x H1 => ∃ (a : Addr) (kvs : List (Key × V)), x = V.ref a ∧ H1 a = some (.dK kvs) ∧ ∀ p, H1 p = none → Q (.ref p) (upd H1 p (.lst (kvs.map (·.2))))
theorem pe_listVals {X : Cx} {o : Expr} {p pos apos mpos : Pos} {td : TE} (hc : X.calm = true) (hg : Gl X "list") (hm : X.mg "list" = none) (hd : PE X o td) (hbase : attributeBase o "values" X.env (eval o X.env) = eval o X.env := by rfl) (hline : (apos.endLine == mpos.line) = true := by rfl)
    (hse : starEach [Expr.Call (.Attribute o "values" apos) [] [] mpos] X.env = [(false, eval (Expr.Call (.Attribute o "values" apos) [] [] mpos) X.env)] := by rfl) :
    PE X (.Call (.Name "list" p) [.Call (.Attribute o "values" apos) [] [] mpos] [] pos) (tListVals td) := by
  refine ⟨fun pins s σ H Q I h => ?_⟩
  refine wpAny_Call_Name_kw (ld_blt I hg hm (u := .type "list") boot_list ?_ (by first | decide +kernel | decide) (by first | decide +kernel | decide))
  rw [hse]
  refine PySem.callWith_type1 (wpAny_Call_method0_late hbase hline (thn (hd.run pins s σ H _ I h) fun v s1 ⟨x, H1, I1, r1, a, kvs, ex, ha, q⟩ => ?_))
  subst ex
  obtain rfl : v = Value.ref a := r1
  obtain ⟨hz, hsys, vs, rel, dof⟩ := dk_of I1.hok ha
  obtain ⟨ep, dat⟩ := dof.dictAt
  have dat' := dat
  obtain ⟨ob, es, ho, ex, hdat, hko, hpr, hnd⟩ := dat'
  refine ⟨"dict", "dict.values", F.plainAttrs_dict, F.slot_dict_values, F.type_dict_values, ⟨ob, ho, ex.1⟩, fun b e => ?_, Calls.callWith_builtin rfl (PySem.evalArgs_none ?_)⟩
  · cases e
    exact ⟨ob, ho, ex.2.1⟩
  refine call_meetsIn F.slot_dict_values ⟨ob, ho, ex.1⟩ F.entry_dict_values (F.args_dict_values_1 _) (meets_dict_values (mixKind X.prog X.w) a hsys) ⟨⟨vs, dof⟩, ?_⟩
  have k1 : ∀ b u, s1.heap.get? b = some u → (s1.heap.push { cls := .type "dict_values", data := .fields #[.ref a] }).get? b = some u := fun b u e => Heap.get?_push_of_some _ e
  have dat1 : (s1.heap.push { cls := .type "dict_values", data := .fields #[.ref a] }).DictAt (mixKind X.prog X.w) a vs ep := dat.keep k1
  have hl : kvs.length = vs.length := KV.length rel
  refine PySem.W.kdl_call (PySem.W.kdl_values (knd := mixKind X.prog X.w) (r := s1.heap.objs.size) (d := a) (kvs := vs) (ep := ep)) (I.ok.hd hc) ⟨⟨_, Heap.get?_push_size _ rfl, rfl, rfl⟩, dat1⟩ (by rw [← hl]; exact hz) fun h' tk acc' c' hk hD hacc => ?_
  have hlt : a < s1.heap.objs.size := Heap.lt_size ho
  have hsz : (s1.heap.push { cls := .type "dict_values", data := .fields #[.ref a] }).objs.size = s1.heap.objs.size + 1 := Heap.size_push _ _
  have ea : acc'.toList = vs.map (·.2) := PySem.W.kdl_vals_eq acc'.toList (by rw [Array.length_toList]; exact hacc.1) fun j v e => hacc.2 j v (by rw [← Array.getElem?_toList]; exact e)
  have hv : Vals (kvs.map (·.2)) acc'.toList := by
    rw [ea]
    have : ∀ {l1 : List (Key × V)} {l2 : List (Key × Value)}, KV l1 l2 → Vals (l1.map (·.2)) (l2.map (·.2)) := by
      intro l1 l2 r
      unfold KV at r
      induction r with
      | nil => exact .nil
      | cons r t ih => exact .cons r.2 ih
    exact this rel
  have hge : s1.heap.objs.size ≤ (s1.heap.push { cls := .type "dict_values", data := .fields #[.ref a] }).objs.size := by rw [hsz]; exact Nat.le_succ _
  refine ⟨.ref _, upd H1 _ (.lst (kvs.map (·.2))), I1.laid (t' := tk) (fun b u e => hk b u (k1 b u e)) hge ⟨by rw [List.length_map]; exact hz, acc'.toList, c', hv, ?_⟩, rfl, q _ (I1.hok.fresh hge)⟩
  rw [Array.toArray_toList]
  exact hD
end K16
namespace K16
open PySem PySem.Spec PyProof.Rows L2
section
variable {P : Program} {w : World} {K : PySem.W.Frag} {mg : Str → Option Value} {base : Heap}
/-! isinstance(x, (list, tuple)) -/
theorem kit_lt_tuple : PySem.W.kitAny K (.type "tuple") [.type "list", .type "tuple"] = some true :=
  kitAny_cons (b := false) (kit_ty (by decide +kernel)) (fun _ => kitAny_cons (b := true) (kit_ty (by decide +kernel)) (fun h => nomatch h) (fun _ => rfl)) (fun h => nomatch h)
theorem kit_lt_list : PySem.W.kitAny K (.type "list") [.type "list", .type "tuple"] = some true :=
  kitAny_cons (b := true) (kit_ty (by decide +kernel)) (fun h => nomatch h) (fun _ => rfl)
theorem kit_lt_int : PySem.W.kitAny K (.type "int") [.type "list", .type "tuple"] = some false :=
  kitAny_cons (b := false) (kit_ty (by decide +kernel)) (fun _ => kitAny_cons (b := false) (kit_ty (by decide +kernel)) (fun _ => kitAny_nil) (fun h => nomatch h)) (fun h => nomatch h)
theorem kit_lt_none : PySem.W.kitAny K (.type "NoneType") [.type "list", .type "tuple"] = some false :=
  kitAny_cons (b := false) (kit_ty (by decide +kernel)) (fun _ => kitAny_cons (b := false) (kit_ty (by decide +kernel)) (fun _ => kitAny_nil) (fun h => nomatch h)) (fun h => nomatch h)
theorem cls_lt : Paired ClsV [.ty "list", .ty "tuple"] [.type "list", .type "tuple"] := .cons (.ty _) (.cons (.ty _) .nil)
/-! is_steps -/
theorem scIsSteps : FnScope ["value", "first", "last", "step"] ["value"] (defScope sIsSteps) := ⟨rfl, rfl, rfl, by decide +kernel, rfl, by decide +kernel, by decide +kernel⟩
def spIsSteps : Sp := fun vs H Q _ => ∃ (v : V) (r : Rw), vs = [v] ∧ RowAt H v r ∧ r.Ok ∧ ∀ H' : Hp, Same H H' → Q (.bl true) H'
theorem cal_isSteps (T : Bi mg) (D : Def K mg "is_steps" sIsSteps) (c1 : Cal P w K mg base 1 "is_integer" spIsInt) (c2 : Cal P w K mg base 2 "is_within" spIsWithin) : Cal P w K mg base 3 "is_steps" spIsSteps := by
  refine cal_of D (ps := ["value"]) (fun _ _ _ _ _ _ us hl => match us, hl with | [_], _ => rfl) scIsSteps (fun vs H Q E h => ?_) (fun f cdv A outer s H vs Q E hr h => ?_)
  · obtain ⟨_, _, rfl, _⟩ := h
    rfl
  · obtain ⟨v, r, rfl, ⟨t, rfl, ht⟩, ok, k⟩ := h
    refine ⟨_, pss_cons (ps_if (PW.pt (pw_or (pt_not (pt_val (pe_callB call_isiT (by rfl) T.isinstance boot_isinstance (pa_cons (pv 0) (pa_cons (pe_tup (pa_cons (pe_bltn (v := .ty "list") (by rfl) T.list boot_list rfl) (pa_cons (pe_bltn (v := .ty "tuple") (by rfl) T.tuple boot_tuple rfl) pa_nil))) pa_nil))))) (pw_or (pt_cmpR op_ne (pe_callB call_len_seq (by rfl) T.len PySem.boot_len (pa_cons (pv 0) pa_nil)) pe_int (nomark _)) (pw_or1 (pt_not (pt_val (pe_c c2 hr (by decide) (by rfl) (pa_cons (pe_ix ix_tup (pv 0) pe_int (fun _ _ => rfl)) (pa_cons pe_int (pa_cons pe_non pa_nil)))))))))) (pss_one (ps_ret pe_bl)) pss_nil)
      (pss_cons (ps_asg (pv 0) (pg_tup rfl (pgs_cons (pg_name (i := 1) scIsSteps.nd rfl (.inl rfl)) (pgs_cons (pg_name (i := 2) scIsSteps.nd rfl (.inl rfl)) (pgs_cons (pg_name (i := 3) scIsSteps.nd rfl (.inl rfl)) pgs_nil)))))
      (pss_cons (ps_if (PW.pt (pw_or (pt_cmp (pc_isN (pv 1))) (pw_or1 (pt_cmp (pc_isN (pv 2)))))) (pss_one (ps_ret (pe_or (pe_c c1 hr (by decide) (by rfl) (pa_cons (pv 2) pa_nil)) (pe_one (pe_c c1 hr (by decide) (by rfl) (pa_cons (pv 1) pa_nil)))))) pss_nil)
      (pss_one (ps_ret (pe_and (pe_c c1 hr (by decide) (by rfl) (pa_cons (pv 1) pa_nil)) (pe_and (pe_c c1 hr (by decide) (by rfl) (pa_cons (pv 2) pa_nil)) (pe_and (pe_cmpR op_le (pv 1) (pv 2) (nomark _)) (pe_one (pe_cmpR op_eq (pe_op op_mod (pe_op op_sub (pv 2) (pv 1)) (pv 3)) pe_int (nomark _)))))))))), ?_⟩
    refine ⟨_, rfl, by show 2 ≤ sizeLine; decide, fun p np => ?_⟩
    have s1 : Same H _ := same_upd (o := .tup [.ty "list", .ty "tuple"]) np
    have ht1 := s1 _ _ ht
    refine ⟨.ref t, p, _, _, _, true, rfl, upd_same, cls_lt, .base (.tup ht1), kit_lt_tuple, true, rfl, iteF ?_⟩
    refine ⟨_, rfl, t, _, rfl, .inr (SqT.of ht1), rfl, _, rfl, iteF ?_⟩
    refine ⟨_, rfl, t, _, _, _, rfl, rfl, SqT.of ht1, atI_nat (j := 2) rfl, _, rfl, by have := ok.1; omega, true, rfl, iteF ?_⟩
    refine ⟨_, rfl, t, _, rfl, SqT.of ht1, rfl, _, _, rfl, _, _, rfl, _, _, rfl, rfl, ?_⟩
    obtain ⟨f0, l0, st⟩ := r
    refine ⟨_, rfl, ?_⟩
    cases f0 with
    | none =>
      refine ⟨true, rfl, iteT (iteT ?_)⟩
      cases l0 with
      | none => exact (ok.2.1.elim (fun h => h rfl) (fun h => h rfl)).elim
      | some l => exact ⟨_, rfl, some l, rfl, true, rfl, iteT (k _ s1)⟩
    | some f =>
      refine ⟨false, rfl, iteF ⟨_, rfl, ?_⟩⟩
      cases l0 with
      | none => exact ⟨true, rfl, iteT ⟨_, rfl, none, rfl, false, rfl, iteF ⟨_, rfl, some f, rfl, k _ s1⟩⟩⟩
      | some l =>
        obtain ⟨h1, h2⟩ := ok.2.2 f l rfl rfl
        refine ⟨false, rfl, iteF ⟨_, rfl, some f, rfl, true, rfl, iteT ⟨_, rfl, some l, rfl, true, rfl, iteT ⟨_, rfl, _, rfl, _, _, rfl, rfl, true, congrArg V.bl (decide_eq_true h1), iteT ⟨_, rfl, _, rfl, _, _, rfl, rfl, _, rfl, _, _, rfl, rfl, ok.1, rfl, ?_⟩⟩⟩⟩⟩
        have e : decide (V.int ((l - f) % st) = V.int 0) = true := decide_eq_true (congrArg V.int h2)
        show Q (.bl (decide (V.int ((l - f) % st) = V.int 0))) _
        rw [e]
        exact k _ s1
/-! fixed: of a number or None; of a row; of a list or tuple of rows -/
theorem scFixed : FnScope ["value", "part"] ["value"] (defScope sFixed) := ⟨rfl, rfl, rfl, by decide +kernel, rfl, by decide +kernel, by decide +kernel⟩
def spFixed0 : Sp := fun vs H Q _ => ∃ o : Option Int, vs = [oV o] ∧ ∀ H' : Hp, Same H H' → Q (oV o) H'
theorem cal_fixed0 (T : Bi mg) (D : Def K mg "fixed" sFixed) : Cal P w K mg base 1 "fixed" spFixed0 := by
  refine cal_of D (ps := ["value"]) (fun _ _ _ _ _ _ us hl => match us, hl with | [_], _ => rfl) scFixed (fun vs H Q E h => ?_) (fun f cdv A outer s H vs Q E hr h => ?_)
  · obtain ⟨_, rfl, _⟩ := h
    rfl
  · obtain ⟨o, rfl, k⟩ := h
    refine ⟨_, pss_cons (ps_if (pt_val (pe_callB call_isiT (by rfl) T.isinstance boot_isinstance (pa_cons (pv 0) (pa_cons (pe_tup (pa_cons (pe_bltn (v := .ty "list") (by rfl) T.list boot_list rfl) (pa_cons (pe_bltn (v := .ty "tuple") (by rfl) T.tuple boot_tuple rfl) pa_nil))) pa_nil)))) pss_never pss_nil)
      (pss_one (ps_ret (pv 0))), ?_⟩
    refine ⟨_, rfl, by show 2 ≤ sizeLine; decide, fun p np => ?_⟩
    cases o with
    | none => exact ⟨.non, p, _, _, _, false, rfl, upd_same, cls_lt, .base .non, kit_lt_none, false, rfl, iteF ⟨_, rfl, k _ (same_upd np)⟩⟩
    | some i => exact ⟨.int i, p, _, _, _, false, rfl, upd_same, cls_lt, .base (.int i), kit_lt_int, false, rfl, iteF ⟨_, rfl, k _ (same_upd np)⟩⟩
def spFixed1 : Sp := fun vs H Q _ => ∃ (v : V) (r : Rw), vs = [v] ∧ RowAt H v r ∧ ∀ (v' : V) (H' : Hp), Same H H' → RowAt H' v' r → Q v' H'
theorem rwV_opt (r : Rw) {i : Nat} {x : V} (h : (rwV r)[i]? = some x) : ∃ o : Option Int, x = oV o := by
  match i, h with
  | 0, h => simp [rwV] at h; exact ⟨r.f, h.symm⟩
  | 1, h => simp [rwV] at h; exact ⟨r.l, h.symm⟩
  | 2, h => simp [rwV] at h; exact ⟨some r.s, h.symm⟩
  | i + 3, h => simp [rwV] at h
theorem cal_fixed1 (T : Bi mg) (D : Def K mg "fixed" sFixed) (c0 : Cal P w K mg base 1 "fixed" spFixed0) : Cal P w K mg base 2 "fixed" spFixed1 := by
  refine cal_of D (ps := ["value"]) (fun _ _ _ _ _ _ us hl => match us, hl with | [_], _ => rfl) scFixed (fun vs H Q E h => ?_) (fun f cdv A outer s H vs Q E hr h => ?_)
  · obtain ⟨_, _, rfl, _⟩ := h
    rfl
  · obtain ⟨v, r, rfl, ⟨t, rfl, ht⟩, k⟩ := h
    refine ⟨_, pss_cons (ps_if (pt_val (pe_callB call_isiT (by rfl) T.isinstance boot_isinstance (pa_cons (pv 0) (pa_cons (pe_tup (pa_cons (pe_bltn (v := .ty "list") (by rfl) T.list boot_list rfl) (pa_cons (pe_bltn (v := .ty "tuple") (by rfl) T.tuple boot_tuple rfl) pa_nil))) pa_nil))))
        (pss_one (ps_ret (pe_callTy call_tuple_of (by rfl) T.tuple boot_tuple (pa_cons (pe_lc (own := [("part", 1)]) (g := gName 1) (by rfl) scFixed.nd (pi_tup (pv 0)) (blkOk_by (N := ["value", "part"]) (sc := defScope sFixed) (by decide +kernel))
          (fun _ _ _ _ _ => pg_name (i := 1) scFixed.nd rfl (Or.inl rfl)) (fun _ _ _ _ _ => pts_nil) (fun _ _ _ _ _ => pe_c c0 hr (by decide) (by rfl) (pa_cons (pv 1) pa_nil))) pa_nil)))) pss_nil)
      (pss_one (ps_ret (pv 0))), ?_⟩
    refine ⟨_, rfl, by show 2 ≤ sizeLine; decide, fun p np => ?_⟩
    have s1 : Same H _ := same_upd (o := .tup [.ty "list", .ty "tuple"]) np
    have ht1 := s1 _ _ ht
    refine ⟨.ref t, p, _, _, _, true, rfl, upd_same, cls_lt, .base (.tup ht1), kit_lt_tuple, true, rfl, iteT ?_⟩
    refine ⟨_, rfl, t, rfl, ⟨_, SqT.of ht1⟩, fun D nD => ?_⟩
    refine lc_tup (K := K) (a := t) (xs := rwV r) (fun i H' => Same H H' ∧ H' D = some (.lst ((rwV r).take i))) ⟨s1.trans (same_upd nD), upd_same⟩ (fun i H' _ ⟨sm, _⟩ => SqT.of (sm _ _ ht)) ?_ ?_
    · rintro i x H' hi ⟨sm, hD⟩
      obtain ⟨o, rfl⟩ := rwV_opt r hi
      refine ⟨rfl, ?_⟩
      unfold tYes
      refine iteT ⟨_, rfl, o, rfl, fun H2 s2 => ⟨_, s2 _ _ hD, ?_, ?_, ?_⟩⟩
      · rw [List.length_take]
        exact small1000 (by show min i 3 ≤ 1000; omega)
      · intro c o hc
        rw [upd_ne (ne_of_none hc (s1.free nD))]
        exact s2 _ _ (sm _ _ hc)
      · rw [upd_same, take_snoc hi]
    · rintro H1 ⟨sm, hD⟩
      refine ⟨D, _, rfl, .inl ⟨SqL.of hD, fun l nl => ?_⟩⟩
      have e : (rwV r).take (rwV r).length = rwV r := List.take_length
      rw [e]
      exact k _ _ (sm.trans (same_upd nl)) ⟨l, rfl, upd_same⟩
def spFixed2 (K : PySem.W.Frag) : Sp := fun vs H Q _ => ∃ (a : Addr) (us : List V) (rs : List Rw), vs = [.ref a] ∧ (H a = some (.lst us) ∨ H a = some (.tup us)) ∧ RowsAt H us rs ∧ rs.length ≤ 1000 ∧
  ∀ (t : Addr) (ws : List V) (H' : Hp), Same H H' → H' t = some (.tup ws) → RowsAt H' ws rs → Q (.ref t) H'
theorem cal_fixed2 (T : Bi mg) (D : Def K mg "fixed" sFixed) (c1 : Cal P w K mg base 2 "fixed" spFixed1) : Cal P w K mg base 3 "fixed" (spFixed2 K) := by
  refine cal_of D (ps := ["value"]) (fun _ _ _ _ _ _ us hl => match us, hl with | [_], _ => rfl) scFixed (fun vs H Q E h => ?_) (fun f cdv A outer s H vs Q E hr h => ?_)
  · obtain ⟨_, _, _, rfl, _⟩ := h
    rfl
  · obtain ⟨a, us, rs, rfl, ha, hR, hlen, k⟩ := h
    have hul := pairedLen hR
    -- one turn, and the end, in either walk
    have turn : ∀ (i : Nat) (x : V) (H' : Hp) (D : Addr), H D = none → us[i]? = some x → (Same H H' ∧ ∃ ws, H' D = some (.lst ws) ∧ RowsAt H' ws (rs.take i)) →
        spFixed1 [x] H' (fun y H4 => ∃ acc, H4 D = some (.lst acc) ∧ acc.length < sizeLine ∧ (Same H (upd H4 D (.lst (acc ++ [y]))) ∧ ∃ ws, upd H4 D (.lst (acc ++ [y])) D = some (.lst ws) ∧ RowsAt (upd H4 D (.lst (acc ++ [y]))) ws (rs.take (i + 1)))) E0 := by
      rintro i x H' D nD hi ⟨sm, ws, hD, hw⟩
      obtain ⟨r, hr', hx⟩ := pairedGet hR hi
      refine ⟨x, r, rfl, hx.same sm, fun v' H2 s2 hv => ⟨ws, s2 _ _ hD, ?_, ?_, ws ++ [v'], upd_same, ?_⟩⟩
      · have e := pairedLen hw
        rw [List.length_take] at e
        exact small1000 (by omega)
      · intro c o hc
        rw [upd_ne (ne_of_none hc nD)]
        exact s2 _ _ (sm _ _ hc)
      · rw [take_snoc hr']
        have keep : ∀ {v : V} {r : Rw}, RowAt H2 v r → RowAt (upd H2 D (.lst (ws ++ [v']))) v r := fun {v r} ⟨t', e1, e2⟩ => ⟨t', e1, by
          rw [upd_ne (fun z => by rw [z, s2 _ _ hD] at e2; cases e2)]
          exact e2⟩
        exact pairedSnoc (Paired.mapP hw fun _ _ q => keep (q.same s2)) (keep hv)
    have fin : ∀ (H1 : Hp) (D : Addr), (Same H H1 ∧ ∃ ws, H1 D = some (.lst ws) ∧ RowsAt H1 ws (rs.take us.length)) →
        (∃ p ys, [V.ref D] = [.ref p] ∧ ((SqL K H1 p ys ∧ ∀ l, H1 l = none → Q (.ref l) (upd H1 l (.tup ys))) ∨ (SqT K H1 p ys ∧ Q (.ref p) H1))) := by
      rintro H1 D ⟨sm, ws, hD, hw⟩
      have e : rs.take us.length = rs := by rw [hul]; exact List.take_length
      rw [e] at hw
      exact ⟨D, ws, rfl, .inl ⟨SqL.of hD, fun l nl => k l ws _ (sm.trans (same_upd nl)) upd_same (RowsAt.same (same_upd nl) hw)⟩⟩
    rcases ha with ha | ha
    · refine ⟨_, pss_cons (ps_if (pt_val (pe_callB call_isiT (by rfl) T.isinstance boot_isinstance (pa_cons (pv 0) (pa_cons (pe_tup (pa_cons (pe_bltn (v := .ty "list") (by rfl) T.list boot_list rfl) (pa_cons (pe_bltn (v := .ty "tuple") (by rfl) T.tuple boot_tuple rfl) pa_nil))) pa_nil))))
          (pss_one (ps_ret (pe_callTy call_tuple_of (by rfl) T.tuple boot_tuple (pa_cons (pe_lc (own := [("part", 1)]) (g := gName 1) (by rfl) scFixed.nd (pi_list (pv 0)) (blkOk_by (N := ["value", "part"]) (sc := defScope sFixed) (by decide +kernel))
            (fun _ _ _ _ _ => pg_name (i := 1) scFixed.nd rfl (Or.inl rfl)) (fun _ _ _ _ _ => pts_nil) (fun _ _ _ _ _ => pe_c c1 hr (by decide) (by rfl) (pa_cons (pv 1) pa_nil))) pa_nil)))) pss_nil)
        (pss_one (ps_ret (pv 0))), ?_⟩
      refine ⟨_, rfl, by show 2 ≤ sizeLine; decide, fun p np => ?_⟩
      have s1 : Same H _ := same_upd (o := .tup [.ty "list", .ty "tuple"]) np
      have ha1 := s1 _ _ ha
      refine ⟨.ref a, p, _, _, _, true, rfl, upd_same, cls_lt, .base (.lst ha1), kit_lt_list, true, rfl, iteT ?_⟩
      refine ⟨_, rfl, a, rfl, ⟨_, SqL.of ha1⟩, fun D nD => ?_⟩
      refine lc_list (K := K) (a := a) (xs := us) (fun i H' => Same H H' ∧ ∃ ws, H' D = some (.lst ws) ∧ RowsAt H' ws (rs.take i)) ⟨s1.trans (same_upd nD), [], upd_same, .nil⟩ (fun i H' _ ⟨sm, _⟩ => SqL.of (sm _ _ ha)) ?_ ?_
      · intro i x H' hi hP
        refine ⟨rfl, ?_⟩
        unfold tYes
        exact iteT ⟨_, rfl, turn i x H' D (s1.free nD) hi hP⟩
      · intro H1 hP
        exact fin H1 D hP
    · refine ⟨_, pss_cons (ps_if (pt_val (pe_callB call_isiT (by rfl) T.isinstance boot_isinstance (pa_cons (pv 0) (pa_cons (pe_tup (pa_cons (pe_bltn (v := .ty "list") (by rfl) T.list boot_list rfl) (pa_cons (pe_bltn (v := .ty "tuple") (by rfl) T.tuple boot_tuple rfl) pa_nil))) pa_nil))))
          (pss_one (ps_ret (pe_callTy call_tuple_of (by rfl) T.tuple boot_tuple (pa_cons (pe_lc (own := [("part", 1)]) (g := gName 1) (by rfl) scFixed.nd (pi_tup (pv 0)) (blkOk_by (N := ["value", "part"]) (sc := defScope sFixed) (by decide +kernel))
            (fun _ _ _ _ _ => pg_name (i := 1) scFixed.nd rfl (Or.inl rfl)) (fun _ _ _ _ _ => pts_nil) (fun _ _ _ _ _ => pe_c c1 hr (by decide) (by rfl) (pa_cons (pv 1) pa_nil))) pa_nil)))) pss_nil)
        (pss_one (ps_ret (pv 0))), ?_⟩
      refine ⟨_, rfl, by show 2 ≤ sizeLine; decide, fun p np => ?_⟩
      have s1 : Same H _ := same_upd (o := .tup [.ty "list", .ty "tuple"]) np
      have ha1 := s1 _ _ ha
      refine ⟨.ref a, p, _, _, _, true, rfl, upd_same, cls_lt, .base (.tup ha1), kit_lt_tuple, true, rfl, iteT ?_⟩
      refine ⟨_, rfl, a, rfl, ⟨_, SqT.of ha1⟩, fun D nD => ?_⟩
      refine lc_tup (K := K) (a := a) (xs := us) (fun i H' => Same H H' ∧ ∃ ws, H' D = some (.lst ws) ∧ RowsAt H' ws (rs.take i)) ⟨s1.trans (same_upd nD), [], upd_same, .nil⟩ (fun i H' _ ⟨sm, _⟩ => SqT.of (sm _ _ ha)) ?_ ?_
      · intro i x H' hi hP
        refine ⟨rfl, ?_⟩
        unfold tYes
        exact iteT ⟨_, rfl, turn i x H' D (s1.free nD) hi hP⟩
      · intro H1 hP
        exact fin H1 D hP
end
end K16
namespace K16
open PySem PySem.Spec PyProof.Rows L2
/-! two walks in one comprehension, without tests -/
section
variable {J : It} {n : Nat} {G : Hp → Prop} {Y : Nat → Hp → V → Hp → Prop}
theorem lc2_in (w : Walk J n G Y) {g : TG} {tt : TT} {te : TE} {vs : List Nat} {σ : L2.St} {H1 : Hp} {D : Addr} {Nx : Hp → Prop} (Pv : Nat → Hp → Prop) (h0 : Pv 0 H1) (hG : ∀ i H, i ≤ n → Pv i H → G H)
    (hs : ∀ i x H H', i < n → Pv i H → Y i H x H' → g x (wipe σ vs) H' fun σ2 H2 => wipe σ2 vs = wipe σ vs ∧ tt σ2 H2 fun b H3 =>
      if b = true then te σ2 H3 fun y H4 => ∃ acc, H4 D = some (.lst acc) ∧ acc.length < sizeLine ∧ Pv (i + 1) (upd H4 D (.lst (acc ++ [y]))) else Pv (i + 1) H3) (hd : ∀ H, Pv n H → Nx H) :
    ∃ W : Nat → Nat → Hp → Prop, (∃ m, W 0 m H1) ∧ ∀ i m H, W i m H →
      (J.stop i H ∧ Nx H) ∨ (J.go i H ∧ ∃ Nx1 : Hp → Prop, (∀ H', Nx1 H' → ∃ m', m' < m ∧ W (i + 1) m' H') ∧ ∀ x H', J.yld i H x H' → g x (wipe σ vs) H' fun σ2 H2 => wipe σ2 vs = wipe σ vs ∧ tt σ2 H2 fun b H3 =>
        if b = true then te σ2 H3 fun y H4 => ∃ acc, H4 D = some (.lst acc) ∧ acc.length < sizeLine ∧ Nx1 (upd H4 D (.lst (acc ++ [y]))) else Nx1 H3) := by
  refine ⟨fun i m H => m = n - i ∧ i ≤ n ∧ Pv i H, ⟨n, by simp, Nat.zero_le _, h0⟩, ?_⟩
  rintro i m H ⟨rfl, hi, p⟩
  have q := hG i H hi p
  by_cases hlt : i < n
  · refine .inr ⟨w.goes i H hlt q, Pv (i + 1), fun H' p' => ⟨n - (i + 1), by omega, rfl, hlt, p'⟩, fun x H' y => hs i x H H' hlt p (w.yields i H x H' hlt q y)⟩
  · have e : i = n := by omega
    subst e
    exact .inl ⟨w.stops H q, hd H p⟩
theorem lc2_out (w : Walk J n G Y) {g : TG} {tt : TT} {B : L2.St → Hp → (Hp → Prop) → Prop} {vs : List Nat} {σ : L2.St} {H1 : Hp} {D : Addr} {Qd : Hp → Prop} (Pv : Nat → Hp → Prop) (h0 : Pv 0 (upd H1 D (.lst []))) (hG : ∀ i H, i ≤ n → Pv i H → G H)
    (hs : ∀ i x H H', i < n → Pv i H → Y i H x H' → g x (wipe σ vs) H' fun σ2 H2 => wipe σ2 vs = wipe σ vs ∧ tt σ2 H2 fun b H3 => if b = true then B σ2 H3 (Pv (i + 1)) else Pv (i + 1) H3) (hd : ∀ H, Pv n H → Qd H) :
    ∃ W : Nat → Nat → Hp → Prop, (∃ m, W 0 m (upd H1 D (.lst []))) ∧ ∀ i m H, W i m H →
      (J.stop i H ∧ Qd H) ∨ (J.go i H ∧ ∃ Nx : Hp → Prop, (∀ H', Nx H' → ∃ m', m' < m ∧ W (i + 1) m' H') ∧ ∀ x H', J.yld i H x H' → g x (wipe σ vs) H' fun σ2 H2 => wipe σ2 vs = wipe σ vs ∧ tt σ2 H2 fun b H3 =>
        if b = true then B σ2 H3 Nx else Nx H3) := by
  refine ⟨fun i m H => m = n - i ∧ i ≤ n ∧ Pv i H, ⟨n, by simp, Nat.zero_le _, h0⟩, ?_⟩
  rintro i m H ⟨rfl, hi, p⟩
  have q := hG i H hi p
  by_cases hlt : i < n
  · refine .inr ⟨w.goes i H hlt q, Pv (i + 1), fun H' p' => ⟨n - (i + 1), by omega, rfl, hlt, p'⟩, fun x H' y => hs i x H H' hlt p (w.yields i H x H' hlt q y)⟩
  · have e : i = n := by omega
    subst e
    exact .inl ⟨w.stops H q, hd H p⟩
end
/-! dicts -/
theorem mem_putK {κ : Type} [DecidableEq κ] {kvs : List (κ × V)} {k : κ} {v : V} {x : κ × V} (h : x ∈ putK kvs k v) : x ∈ kvs ∨ x = (k, v) := by
  unfold putK at h
  split at h
  · obtain ⟨y, hy, e⟩ := List.mem_map.mp h
    by_cases hk : y.1 = k
    · rw [if_pos hk] at e
      exact .inr (by rw [← e, hk])
    · rw [if_neg hk] at e
      exact .inl (e ▸ hy)
  · rcases List.mem_append.mp h with h | h
    · exact .inl h
    · exact .inr (by simpa using h)
theorem mem_valV {κ : Type} [DecidableEq κ] {kvs : List (κ × V)} {k : κ} {v : V} (h : valV kvs k = some v) : (k, v) ∈ kvs := by
  unfold valV at h
  obtain ⟨p, hp, e⟩ := Option.map_eq_some_iff.mp h
  have h1 := List.find?_some hp
  have h2 := List.mem_of_find?_eq_some hp
  have : p.1 = k := by simpa using h1
  rw [← this, ← e]
  exact h2
theorem nodup_putK {κ : Type} [DecidableEq κ] {kvs : List (κ × V)} {k : κ} {v : V} (h : (kvs.map (·.1)).Nodup) : ((putK kvs k v).map (·.1)).Nodup := by
  unfold putK
  split
  · have e : (kvs.map (fun kv => if kv.1 = k then (kv.1, v) else kv)).map (·.1) = kvs.map (·.1) := by
      rw [List.map_map]
      refine List.map_congr_left fun x _ => ?_
      show (if x.1 = k then (x.1, v) else x).1 = x.1
      split <;> rfl
    rw [e]; exact h
  · rename_i hn
    rw [List.map_append, List.nodup_append]
    refine ⟨h, by simp, fun a ha b hb => ?_⟩
    simp at hb
    subst hb
    obtain ⟨x, hx, rfl⟩ := List.mem_map.mp ha
    intro e
    exact hn (List.any_eq_true.mpr ⟨x, hx, by simp [e]⟩)
/-! lists of rows -/
def Kp (H H' : Hp) : Prop := ∀ b, (∀ xs, H b = some (.lst xs) → H' b = some (.lst xs)) ∧ ∀ xs, H b = some (.tup xs) → H' b = some (.tup xs)
theorem Kp.of {H H' : Hp} (h : Same H H') : Kp H H' := fun b => ⟨fun _ e => h _ _ e, fun _ e => h _ _ e⟩
theorem Kp.refl (H : Hp) : Kp H H := fun _ => ⟨fun _ e => e, fun _ e => e⟩
theorem Kp.trans {H H1 H2 : Hp} (h : Kp H H1) (k : Kp H1 H2) : Kp H H2 := fun b => ⟨fun xs e => (k b).1 xs ((h b).1 xs e), fun xs e => (k b).2 xs ((h b).2 xs e)⟩
theorem Kp.upd {H : Hp} {a : Addr} {o u : HO} (h : H a = some u) (h1 : ∀ xs, u ≠ .lst xs) (h2 : ∀ xs, u ≠ .tup xs) : Kp H (L2.upd H a o) := fun b => by
  refine ⟨fun xs e => ?_, fun xs e => ?_⟩
  · rw [upd_ne (fun z => by rw [z, h] at e; exact h1 _ (Option.some.inj e))]; exact e
  · rw [upd_ne (fun z => by rw [z, h] at e; exact h2 _ (Option.some.inj e))]; exact e
theorem RowAt.kp {H H' : Hp} {v : V} {r : Rw} (k : Kp H H') (h : RowAt H v r) : RowAt H' v r := by
  obtain ⟨t, a, b⟩ := h
  exact ⟨t, a, (k t).2 _ b⟩
theorem RowsAt.kp {H H' : Hp} {vs : List V} {rs : List Rw} (k : Kp H H') (h : RowsAt H vs rs) : RowsAt H' vs rs := Paired.mapP h fun _ _ q => q.kp k
def ListAt (H : Hp) (v : V) (zs : List Rw) : Prop := ∃ p ws, v = .ref p ∧ H p = some (.lst ws) ∧ RowsAt H ws zs
theorem ListAt.kp {H H' : Hp} {v : V} {zs : List Rw} (k : Kp H H') (h : ListAt H v zs) : ListAt H' v zs := by
  obtain ⟨p, ws, e, h1, h2⟩ := h
  exact ⟨p, ws, e, (k p).1 _ h1, h2.kp k⟩
theorem paired_perm {α β : Type} {F : α → β → Prop} {xs ys : List α} (h : ys.Perm xs) : ∀ {zs : List β}, Paired F xs zs → ∃ zs', Paired F ys zs' ∧ zs'.Perm zs := by
  induction h with
  | nil => intro zs p; cases p; exact ⟨[], .nil, List.Perm.nil⟩
  | cons x h ih =>
    intro zs p
    cases p with
    | cons r t =>
      obtain ⟨zs', p', q⟩ := ih t
      exact ⟨_ :: zs', .cons r p', q.cons _⟩
  | swap x y l =>
    intro zs p
    cases p with
    | cons r t =>
      cases t with
      | cons r2 t2 => exact ⟨_, .cons r2 (.cons r t2), List.Perm.swap _ _ _⟩
  | trans h1 h2 ih1 ih2 =>
    intro zs p
    obtain ⟨zs1, p1, q1⟩ := ih2 p
    obtain ⟨zs2, p2, q2⟩ := ih1 p1
    exact ⟨zs2, p2, q2.trans q1⟩
/-- the dict by step and rest, the dict by step -/
def LotsOk (H : Hp) (kvs : List (List Key × V)) (rs : List Rw) : Prop := ∀ kv ∈ kvs, ∃ zs, ListAt H kv.2 zs ∧ zs.Sublist rs
def StepsOk (H : Hp) (kvs : List (Key × V)) (rs : List Rw) : Prop := ∀ kv ∈ kvs, ∃ zs, ListAt H kv.2 zs ∧ zs.length ≤ rs.length ∧ ∀ z ∈ zs, z ∈ rs ∧ kv.1 = .inl z.s
theorem LotsOk.kp {H H' : Hp} {kvs : List (List Key × V)} {rs : List Rw} (k : Kp H H') (h : LotsOk H kvs rs) : LotsOk H' kvs rs := fun kv hm => by
  obtain ⟨zs, a, b⟩ := h kv hm
  exact ⟨zs, a.kp k, b⟩
theorem StepsOk.kp {H H' : Hp} {kvs : List (Key × V)} {rs : List Rw} (k : Kp H H') (h : StepsOk H kvs rs) : StepsOk H' kvs rs := fun kv hm => by
  obtain ⟨zs, a, b⟩ := h kv hm
  exact ⟨zs, a.kp k, b⟩
theorem LotsOk.put {H : Hp} {kvs : List (List Key × V)} {rs : List Rw} {r : Rw} {k : List Key} {v : V} {zs : List Rw} (h : LotsOk H kvs rs) (hv : ListAt H v (zs ++ [r])) (hz : zs.Sublist rs) : LotsOk H (putK kvs k v) (rs ++ [r]) := fun kv hm => by
  rcases mem_putK hm with hm | rfl
  · obtain ⟨zs', a, b⟩ := h kv hm
    exact ⟨zs', a, b.trans (List.sublist_append_left _ _)⟩
  · exact ⟨_, hv, hz.append (List.Sublist.refl _)⟩
theorem StepsOk.put {H : Hp} {kvs : List (Key × V)} {rs : List Rw} {r : Rw} {v : V} {zs : List Rw} (h : StepsOk H kvs rs) (hv : ListAt H v (zs ++ [r])) (hl : zs.length ≤ rs.length) (hz : ∀ z ∈ zs, z ∈ rs ∧ (Sum.inl r.s : Key) = .inl z.s) : StepsOk H (putK kvs (.inl r.s) v) (rs ++ [r]) := fun kv hm => by
  rcases mem_putK hm with hm | rfl
  · obtain ⟨zs', a, b, c⟩ := h kv hm
    exact ⟨zs', a, by rw [List.length_append]; omega, fun z q => ⟨List.mem_append_left _ (c z q).1, (c z q).2⟩⟩
  · refine ⟨_, hv, by rw [List.length_append, List.length_append]; exact Nat.add_le_add_right hl _, fun z q => ?_⟩
    rcases List.mem_append.mp q with q | q
    · exact ⟨List.mem_append_left _ (hz z q).1, (hz z q).2⟩
    · simp at q
      subst q
      exact ⟨by simp, rfl⟩
section
variable {P : Program} {w : World} {K : PySem.W.Frag} {mg : Str → Option Value} {base : Heap}
/-! are_apart -/
theorem scApart : FnScope ["rows", "lots", "steps", "row", "key", "lot", "told", "at", "others", "one", "other"] ["rows"] (defScope sApart) := ⟨rfl, rfl, rfl, by decide +kernel, rfl, by decide +kernel, by decide +kernel⟩
def spApart : Sp := fun vs H Q _ => ∃ (a : Addr) (us : List V) (rs : List Rw), vs = [.ref a] ∧ H a = some (.tup us) ∧ RowsAt H us rs ∧ (∀ r ∈ rs, StepOk r) ∧ rs.length ≤ 1000 ∧ rs.Pairwise Disj ∧
  ∀ H' : Hp, Same H H' → Q (.bl true) H'
def N_apart : List Str := ["rows", "lots", "steps", "row", "key", "lot", "told", "at", "others", "one", "other"]
end
end K16
namespace K16
open PySem PySem.Spec PyProof.Rows L2
section
variable {P : Program} {w : World} {K : PySem.W.Frag} {mg : Str → Option Value} {base : Heap}
theorem putK_len {κ : Type} [DecidableEq κ] {kvs : List (κ × V)} {k : κ} {v : V} : (putK kvs k v).length ≤ kvs.length + 1 := by
  unfold putK
  split
  · rw [List.length_map]; exact Nat.le_succ _
  · rw [List.length_append]; exact Nat.le_refl _
theorem get_at {κ : Type} [DecidableEq κ] {H : Hp} {kvs : List (κ × V)} {k : κ} {q : Addr} {R : κ × V → List Rw → Prop} (h : ∀ kv ∈ kvs, ∃ zs, ListAt H kv.2 zs ∧ R kv zs) (nq : H q = none) :
    ∃ p ws zs, (valV kvs k).getD (.ref q) = .ref p ∧ upd H q (.lst []) p = some (.lst ws) ∧ RowsAt (upd H q (.lst [])) ws zs ∧ (zs = [] ∨ ∃ v, R (k, v) zs) := by
  cases e : valV kvs k with
  | none => exact ⟨q, [], [], rfl, upd_same, .nil, .inl rfl⟩
  | some v =>
    obtain ⟨zs, ⟨p, ws, ev, hp, hr⟩, hR⟩ := h _ (mem_valV e)
    exact ⟨p, ws, zs, ev, same_upd nq _ _ hp, hr.same (same_upd nq), .inr ⟨v, hR⟩⟩
theorem rows_mem {H : Hp} {ws : List V} {zs : List Rw} (h : RowsAt H ws zs) {x : V} (hx : x ∈ ws) : ∃ r, r ∈ zs ∧ RowAt H x r := by
  obtain ⟨i, hi⟩ := List.getElem?_of_mem hx
  obtain ⟨r, e, q⟩ := pairedGet h hi
  exact ⟨r, List.mem_of_getElem? e, q⟩
theorem disj_ne : ∀ {rs : List Rw}, rs.Pairwise Disj → ∀ {a b : Rw}, a ∈ rs → b ∈ rs → a ≠ b → Disj a b
  | [], _, _, _, h, _, _ => by simp at h
  | r :: rs, h, a, b, ha, hb, ne => by
    rw [List.pairwise_cons] at h
    rcases List.mem_cons.mp ha with rfl | ha2
    · rcases List.mem_cons.mp hb with rfl | hb2
      · exact (ne rfl).elim
      · exact h.1 _ hb2
    · rcases List.mem_cons.mp hb with rfl | hb2
      · exact (h.1 _ ha2).symm
      · exact disj_ne h.2 ha2 hb2 ne
theorem disj_get {zs : List Rw} (h : zs.Pairwise Disj) {i j : Nat} {a b : Rw} (ha : zs[i]? = some a) (hb : zs[j]? = some b) (hij : i < j) : Disj a b := by
  obtain ⟨h1, rfl⟩ := List.getElem?_eq_some_iff.mp ha
  obtain ⟨h2, rfl⟩ := List.getElem?_eq_some_iff.mp hb
  exact List.pairwise_iff_getElem.mp h i j h1 h2 hij
theorem cutV_tail {xs : List V} {i : Nat} {x : V} (h : (cutV xs (some 1) none)[i]? = some x) : xs[i + 1]? = some x := by
  unfold cutV HT.sIx at h
  by_cases hl : xs = []
  · subst hl; simp at h
  · have h1 : min (1 : Int).toNat xs.length = 1 := by
      have : 0 < xs.length := List.length_pos_iff.mpr hl
      show min 1 xs.length = 1
      omega
    simp only [if_neg (by decide : ¬ (1 : Int) < 0), h1] at h
    rw [List.getElem?_take] at h
    split at h
    · rw [List.getElem?_drop] at h
      rw [Nat.add_comm]; exact h
    · cases h
theorem cutV_take {xs : List V} {i j : Nat} {x : V} (h : (cutV xs none (some (i : Int)))[j]? = some x) : xs[j]? = some x ∧ j < i := by
  unfold cutV HT.sIx at h
  simp only [if_neg (Int.not_lt.mpr (Int.natCast_nonneg i)), List.drop_zero, Int.toNat_natCast, Nat.sub_zero] at h
  rw [List.getElem?_take] at h
  split at h
  · exact ⟨h, by omega⟩
  · cases h
theorem rep_bl (n : Nat) : List.replicate n (V.bl false) = (List.replicate n false).map V.bl := by rw [List.map_replicate]
theorem rep_any (n : Nat) : (List.replicate n false).any id = false := by
  induction n with
  | zero => rfl
  | succ n ih => rw [List.replicate_succ, List.any_cons, ih]; rfl
theorem small1m {n : Nat} (h : n ≤ 1000000) : n < sizeLine := Nat.lt_of_le_of_lt h (by decide)
theorem cal_apart (T : Bi mg) (D : Def K mg "are_apart" sApart) (c1 : Cal P w K mg base 1 "rest_in" spRest) (c2 : Cal P w K mg base 1 "turn_of" spTurn) (c3 : Cal P w K mg base 4 "is_shared" spShared) : Cal P w K mg base 5 "are_apart" spApart := by
  refine cal_of D (ps := ["rows"]) (fun _ _ _ _ _ _ us hl => match us, hl with | [_], _ => rfl) scApart (fun vs H Q E h => ?_) (fun f cdv A outer s H vs Q E hr h => ?_)
  · obtain ⟨_, _, _, rfl, _⟩ := h
    rfl
  · obtain ⟨a, us, rs, rfl, ha, hR, hok, hlen, hd, k⟩ := h
    refine ⟨_, pss_cons (ps_par (i := 1) (j := 2) (by rfl) scApart.nd rfl rfl (by decide) (by rfl) (by rfl) (pa_cons pe_dnewT (pa_cons pe_dnewK pa_nil)) (by rfl))
      (pss_cons (ps_for (PassesOwn.never) (by rfl) (pi_tup (pv 0)) (pg_name (i := 3) scApart.nd rfl (.inl rfl))
        (pss_cons (ps_set (i := 4) scApart.nd rfl (.inl rfl) (pe_tup (pa_cons (pe_ix ix_tup (pv 3) pe_int (fun _ _ => rfl)) (pa_cons (pe_c c1 hr (by decide) (by rfl) (pa_cons (pv 3) pa_nil)) pa_nil))))
        (pss_cons (ps_dput (hu_of hr) (pv 1) (pv 4) (pe_lst (StX.pa_star (pe_dget2 (hu_of hr) (pv 1) (pv 4) (pe_lst pa_nil) ⟨by rfl, by rfl, by rfl, by rfl⟩) (pa_cons (pv 3) pa_nil))) (by rfl))
        (pss_one (ps_dput (hu_of hr) (pv 2) (pe_ix ix_tup (pv 3) pe_int (fun _ _ => rfl)) (pe_lst (StX.pa_star (pe_dget2 (hu_of hr) (pv 2) (pe_ix ix_tup (pv 3) pe_int (fun _ _ => rfl)) (pe_lst pa_nil) ⟨by rfl, by rfl, by rfl, by rfl⟩) (pa_cons (pv 3) pa_nil))) (by rfl))))))
      (pss_cons (ps_lock (ps_for (PassesOwn.never) (by rfl) (pi_valuesT (pv 1)) (pg_name (i := 5) scApart.nd rfl (.inl rfl))
        (pss_cons (ps_set (i := 6) scApart.nd rfl (.inl rfl) (pe_sortedKey c2 (hr.mono (by decide)) (by rfl) T.sorted (by rfl) (pa_cons (pv 5) pa_nil)))
        (pss_one (ps_if (pt_val (pe_callB (cr_any (by rfl)) (by rfl) T.any boot_any (pa_cons (pe_lc (own := [("one", 9), ("other", 10)]) (g := gTup K 2 _) (by rfl) scApart.nd (pi_zip (by rfl) T.zip (pa_cons (pv 6) (pa_cons (pe_slice sl_list (pv 6) (po_some pe_int) po_none) pa_nil)))
            (blkOk_by (N := N_apart) (sc := defScope sApart) (by decide +kernel))
            (fun _ _ _ _ _ => pg_tup (by rfl) (pgs_cons (pg_name (i := 9) scApart.nd rfl (.inl rfl)) (pgs_cons (pg_name (i := 10) scApart.nd rfl (.inl rfl)) pgs_nil))) (fun _ _ _ _ _ => pts_nil) (fun _ _ _ _ _ => pe_c c3 hr (by decide) (by rfl) (pa_cons (pv 9) (pa_cons (pv 10) pa_nil)))) pa_nil))) pss_never pss_nil)))))
      (pss_cons (ps_set (i := 6) scApart.nd rfl (.inl rfl) (pe_listVals (by rfl) (by rfl) T.list (pv 2)))
      (pss_cons (ps_for (PassesOwn.never) (by rfl) (pi_enum (by rfl) T.enumerate (pa_cons (pv 6) pa_nil)) (pg_tup (by rfl) (pgs_cons (pg_name (i := 7) scApart.nd rfl (.inl rfl)) (pgs_cons (pg_name (i := 5) scApart.nd rfl (.inl rfl)) pgs_nil)))
        (pss_one (ps_for (PassesOwn.never) (by rfl) (pi_list (pe_slice sl_list (pv 6) po_none (po_some (pv 7)))) (pg_name (i := 8) scApart.nd rfl (.inr rfl))
          (pss_one (ps_if (pt_val (pe_callB (cr_any (by rfl)) (by rfl) T.any boot_any (pa_cons (pe_lc2 (own := [("row", 3), ("other", 10)]) (vs1 := [10]) (wi1 := iList K (tVar 8)) (g := gName 3) (g1 := gName 10) (by rfl) scApart.nd (pi_list (pv 5)) (blkOk_by (N := N_apart) (sc := defScope sApart) (by decide +kernel)) (by decide)
            (fun _ _ _ _ _ => pg_name (i := 3) scApart.nd rfl (Or.inl rfl)) (fun _ _ _ _ _ => pts_nil)
            (fun _ _ _ _ _ => pi_list (pv 8)) (fun _ _ _ _ _ => pg_name (i := 10) scApart.nd rfl (Or.inl rfl)) (fun _ _ _ _ _ => pts_nil)
            (fun _ _ _ _ _ => pe_c c3 hr (by decide) (by rfl) (pa_cons (pv 3) (pa_cons (pv 10) pa_nil)))) pa_nil))) pss_never pss_nil)))))
      (pss_one (ps_ret pe_bl)))))), ?_⟩
    refine fun L nL S nS => ⟨_, _, rfl, ?_⟩
    have sL : Same H (upd H L (.dT [])) := same_upd nL
    have nS' : H S = none := sL.free nS
    have sS : Same (upd H L (.dT [])) (upd (upd H L (.dT [])) S (.dK [])) := same_upd nS
    have hul : us.length = rs.length := pairedLen hR
    refine ⟨_, rfl, a, rfl, ⟨us, SqT.of (sS _ _ (sL _ _ ha))⟩, for_tup (K := K) (a := a) (xs := us) (fun i σ H' => ∃ o3 o4 lots steps, σ = [some (.ref a), some (.ref L), some (.ref S), o3, o4, none, none, none, none, none, none] ∧
      Same H H' ∧ H' L = some (.dT lots) ∧ H' S = some (.dK steps) ∧ LotsOk H' lots (rs.take i) ∧ StepsOk H' steps (rs.take i) ∧ (steps.map (·.1)).Nodup ∧ lots.length ≤ i ∧ steps.length ≤ i) ?_ ?_ ?_ ?_⟩
    · exact ⟨none, none, [], [], rfl, sL.trans sS, sS _ _ upd_same, upd_same, (fun _ h => nomatch h), (fun _ h => nomatch h), List.nodup_nil, Nat.zero_le _, Nat.zero_le _⟩
    · rintro i σ H' _ ⟨_, _, _, _, _, sm, _⟩
      exact SqT.of (sm _ _ ha)
    · rintro i x σ H' hx ⟨o3, o4, lots, steps, rfl, sm, hL, hS, lo, so, nd, l1, l2⟩
      obtain ⟨r, hr', t, rfl, ht⟩ := pairedGet hR hx
      have hm := List.mem_of_getElem? hr'
      have hi : i < 1000 := by
        obtain ⟨h1, _⟩ := List.getElem?_eq_some_iff.mp hr'
        omega
      have ht' := sm _ _ ht
      refine ⟨_, rfl, t, _, _, _, rfl, rfl, SqT.of ht', atI_nat (j := 2) rfl, _, rfl, .ref t, r, rfl, ⟨t, rfl, ht'⟩, (hok r hm).1, by show 2 ≤ sizeLine; decide, fun p np => ?_⟩
      have s1 : Same H' (upd H' p (.tup [.int r.s, .int r.rest])) := same_upd np
      refine ⟨_, rfl, L, rfl, .inr ⟨_, .inl (s1 _ _ hL)⟩, _, rfl, Nat.zero_le _, fun q nq => ?_⟩
      obtain ⟨p1, ws1, zs1, e1, h1, r1, z1⟩ := get_at (k := [Sum.inl r.s, Sum.inl r.rest]) (R := fun _ zs => zs.Sublist (rs.take i)) (lo.kp (Kp.of s1)) nq
      generalize hH2 : upd H' p (.tup [.int r.s, .int r.rest]) = H2 at s1 nq h1 r1 ⊢
      have hp2 : H2 p = some (.tup [.int r.s, .int r.rest]) := by rw [← hH2]; exact upd_same
      have s2 : Same H2 (upd H2 q (.lst [])) := same_upd nq
      generalize hH3 : upd H2 q (.lst []) = H3 at s2 h1 r1 ⊢
      have z1' : zs1.Sublist (rs.take i) := z1.elim (fun e => e ▸ List.nil_sublist _) (fun ⟨_, h⟩ => h)
      have lz1 : zs1.length ≤ i := Nat.le_trans z1'.length_le (by rw [List.length_take]; exact Nat.min_le_left _ _)
      have lw1 := pairedLen r1
      refine ⟨_, DGet.t (k := [Sum.inl r.s, Sum.inl r.rest]) (s2 _ _ (s1 _ _ hL)) (s2 _ _ hp2), p1, ws1, e1, .inr (SqL.of h1), _, rfl, Nat.le_of_lt (small1000 (by rw [List.length_append]; show ws1.length + 1 ≤ 1000; omega)), fun p2 np2 => ?_⟩
      have s3 : Same H3 (upd H3 p2 (.lst (ws1 ++ [.ref t]))) := same_upd np2
      have hp4 : upd H3 p2 (.lst (ws1 ++ [.ref t])) p2 = some (.lst (ws1 ++ [.ref t])) := upd_same
      generalize hH4 : upd H3 p2 (.lst (ws1 ++ [.ref t])) = H4 at s3 hp4 ⊢
      have s14 : Same H' H4 := s1.trans (s2.trans s3)
      have hL4 := s14 _ _ hL
      have hS4 := s14 _ _ hS
      have hLS : S ≠ L := fun z => by rw [z, hL4] at hS4; cases hS4
      refine ⟨_, rfl, _, rfl, L, _, rfl, DPut.t (k := [Sum.inl r.s, Sum.inl r.rest]) hL4 (s3 _ _ (s2 _ _ hp2)) (small1000 (by omega)), ?_⟩
      have k5 : Kp H4 (upd H4 L (.dT (putK lots [Sum.inl r.s, Sum.inl r.rest] (.ref p2)))) := Kp.upd hL4 (fun _ z => nomatch z) (fun _ z => nomatch z)
      have sm5 : Same H (upd H4 L (.dT (putK lots [Sum.inl r.s, Sum.inl r.rest] (.ref p2)))) := fun b o hb => by
        rw [upd_ne (ne_of_none hb nL)]
        exact s14 _ _ (sm _ _ hb)
      have hL5 : upd H4 L (.dT (putK lots [Sum.inl r.s, Sum.inl r.rest] (.ref p2))) L = some (.dT (putK lots [Sum.inl r.s, Sum.inl r.rest] (.ref p2))) := upd_same
      have hS5 : upd H4 L (.dT (putK lots [Sum.inl r.s, Sum.inl r.rest] (.ref p2))) S = some (.dK steps) := by rw [upd_ne hLS]; exact hS4
      generalize hH5 : upd H4 L (.dT (putK lots [Sum.inl r.s, Sum.inl r.rest] (.ref p2))) = H5 at k5 sm5 hL5 hS5 ⊢
      have k15 : Kp H' H5 := (Kp.of s14).trans k5
      have et : rs.take (i + 1) = rs.take i ++ [r] := take_snoc hr'
      have lo5 : LotsOk H5 (putK lots [Sum.inl r.s, Sum.inl r.rest] (.ref p2)) (rs.take (i + 1)) := by
        rw [et]
        refine (lo.kp k15).put ⟨p2, _, rfl, (k5 p2).1 _ hp4, pairedSnoc ((r1.same s3).kp k5) ⟨t, rfl, sm5 _ _ ht⟩⟩ z1'
      have ht5 := sm5 _ _ ht
      -- the dict by steps
      refine ⟨_, rfl, S, rfl, .inl ⟨_, .inl hS5⟩, _, rfl, t, _, _, _, rfl, rfl, SqT.of ht5, atI_nat (j := 2) rfl, Nat.zero_le _, fun q2 nq2 => ?_⟩
      obtain ⟨p3, ws3, zs3, e3, h3, r3, z3⟩ := get_at (k := (Sum.inl r.s : Key)) (R := fun kv zs => zs.length ≤ (rs.take i).length ∧ ∀ z ∈ zs, z ∈ rs.take i ∧ kv.1 = .inl z.s) (so.kp k15) nq2
      have s6 : Same H5 (upd H5 q2 (.lst [])) := same_upd nq2
      generalize hH6 : upd H5 q2 (.lst []) = H6 at s6 h3 r3 ⊢
      have z3' : zs3.length ≤ (rs.take i).length ∧ ∀ z ∈ zs3, z ∈ rs.take i ∧ (Sum.inl r.s : Key) = .inl z.s := z3.elim (fun e => e ▸ ⟨Nat.zero_le _, fun _ h => nomatch h⟩) (fun ⟨_, h⟩ => h)
      have lz3 : zs3.length ≤ i := Nat.le_trans z3'.1 (by rw [List.length_take]; exact Nat.min_le_left _ _)
      have lw3 := pairedLen r3
      refine ⟨_, DGet.k (k := (Sum.inl r.s : Key)) (s6 _ _ hS5), p3, ws3, e3, .inr (SqL.of h3), _, rfl, Nat.le_of_lt (small1000 (by rw [List.length_append]; show ws3.length + 1 ≤ 1000; omega)), fun p4 np4 => ?_⟩
      have s7 : Same H6 (upd H6 p4 (.lst (ws3 ++ [.ref t]))) := same_upd np4
      have hp7 : upd H6 p4 (.lst (ws3 ++ [.ref t])) p4 = some (.lst (ws3 ++ [.ref t])) := upd_same
      generalize hH7 : upd H6 p4 (.lst (ws3 ++ [.ref t])) = H7 at s7 hp7 ⊢
      have s57 : Same H5 H7 := s6.trans s7
      have hS7 := s57 _ _ hS5
      refine ⟨_, rfl, _, rfl, t, _, _, _, rfl, rfl, SqT.of (s57 _ _ ht5), atI_nat (j := 2) rfl, S, _, rfl, DPut.k (k := (Sum.inl r.s : Key)) hS7 (small1000 (by omega)), ?_⟩
      have k8 : Kp H7 (upd H7 S (.dK (putK steps (Sum.inl r.s) (.ref p4)))) := Kp.upd hS7 (fun _ z => nomatch z) (fun _ z => nomatch z)
      have sm8 : Same H (upd H7 S (.dK (putK steps (Sum.inl r.s) (.ref p4)))) := fun b o hb => by
        rw [upd_ne (ne_of_none hb nS')]
        exact s57 _ _ (sm5 _ _ hb)
      refine ⟨_, _, _, _, rfl, sm8, ?_, upd_same, lo5.kp ((Kp.of s57).trans k8), ?_, nodup_putK nd, Nat.le_trans putK_len (Nat.succ_le_succ l1), Nat.le_trans putK_len (Nat.succ_le_succ l2)⟩
      · rw [upd_ne hLS.symm]
        exact s57 _ _ hL5
      · rw [et]
        refine (so.kp (k15.trans ((Kp.of s57).trans k8))).put ⟨p4, _, rfl, (k8 p4).1 _ hp7, pairedSnoc ((r3.same s7).kp k8) ⟨t, rfl, sm8 _ _ ht⟩⟩ z3'.1 z3'.2
    · rintro σ H1 ⟨o3, o4, lots, steps, rfl, sm, hL, hS, lo, so, nd, l1, l2⟩
      have et : rs.take us.length = rs := by rw [hul]; exact List.take_length
      rw [et] at lo so
      have l2' : steps.length ≤ 1000 := by omega
      have hLS : S ≠ L := fun z => by rw [z, hL] at hS; cases hS
      refine ⟨L, _, hL, trivial, fun od => ?_⟩
      have kf : Kp H1 (upd H1 L (.frz od (.dT lots))) := Kp.upd hL (fun _ z => nomatch z) (fun _ z => nomatch z)
      have lof := lo.kp kf
      have hLf : upd H1 L (.frz od (.dT lots)) L = some (.frz od (.dT lots)) := upd_same
      have hSf : upd H1 L (.frz od (.dT lots)) S = some (.dK steps) := by rw [upd_ne hLS]; exact hS
      have sof := so.kp kf
      have smf : Same H (upd H1 L (.frz od (.dT lots))) := fun b o hb => by
        rw [upd_ne (ne_of_none hb nL)]
        exact sm _ _ hb
      generalize upd H1 L (.frz od (.dT lots)) = Hf at lof hLf hSf sof smf ⊢
      refine ⟨_, rfl, L, od, lots, rfl, hLf, for_valsT (fun j σ H' => ∃ o5 o6, σ = [some (.ref a), some (.ref L), some (.ref S), o3, o4, o5, o6, none, none, none, none] ∧ Same Hf H') ⟨none, none, rfl, Same.refl _⟩ ?_ ?_ ?_⟩
      · rintro i σ H' _ ⟨_, _, _, s'⟩
        exact s' _ _ hLf
      · rintro i key x σ H' hx ⟨o5, o6, rfl, s'⟩
        obtain ⟨zs, ⟨p, ws, e, hp, hrw⟩, sub⟩ := lof (key, x) (List.mem_of_getElem? hx)
        cases (show x = .ref p from e)
        have hrw' := hrw.same s'
        have okz : ∀ z ∈ zs, StepOk z := fun z hz => hok z (sub.subset hz)
        refine ⟨_, rfl, p, ws, rfl, .inl (SqL.of (s' _ _ hp)), fun y hy => ?_, fun ys p2 H2 s2 perm np2 hp2 => ?_⟩
        · obtain ⟨r, hz, q⟩ := rows_mem hrw' hy
          exact ⟨r, q, (okz r hz).1⟩
        obtain ⟨zs', hzr, hzp⟩ := paired_perm perm (hrw'.same s2)
        have pd : zs'.Pairwise Disj := (hzp.symm.pairwise_iff (fun {a b} h => Disj.symm h)).mp (hd.sublist sub)
        have lz : zs'.length ≤ 1000 := by
          rw [hzp.length_eq]
          exact Nat.le_trans sub.length_le hlen
        have okz' : ∀ z ∈ zs', StepOk z := fun z hz => okz z (hzp.mem_iff.mp hz)
        have ly := pairedLen hzr
        refine ⟨_, rfl, _, rfl, 1, rfl, p2, ys, rfl, SqL.of hp2, fun p3 np3 => ?_⟩
        have s3 : Same H2 (upd H2 p3 (.lst (cutV ys (some 1) none))) := same_upd np3
        have hp3 : upd H2 p3 (.lst (cutV ys (some 1) none)) p3 = some (.lst (cutV ys (some 1) none)) := upd_same
        generalize upd H2 p3 (.lst (cutV ys (some 1) none)) = H3 at s3 hp3 ⊢
        refine ⟨p2, p3, ys, _, rfl, SqL.of (s3 _ _ hp2), SqL.of hp3, fun D nD => ?_⟩
        refine lc_it (walk_zip (xs := ys) (ys := cutV ys (some 1) none) rfl) (fun i H' => Same H3 H' ∧ H' D = some (.lst (List.replicate i (V.bl false)))) ⟨same_upd nD, upd_same⟩ (fun i H' _ ⟨s4, _⟩ => ⟨SqL.of (s4 _ _ (s3 _ _ hp2)), SqL.of (s4 _ _ hp3)⟩) ?_ ?_
        · rintro i x Ha Hb hi ⟨s4, hD⟩ ⟨U, x1, x2, rfl, nU, rfl, g1, g2⟩
          have s5 : Same Ha (upd Ha U (.tup [x1, x2])) := same_upd nU
          have hU : upd Ha U (.tup [x1, x2]) U = some (.tup [x1, x2]) := upd_same
          generalize upd Ha U (.tup [x1, x2]) = Hc at s5 hU ⊢
          obtain ⟨r1, q1, v1⟩ := pairedGet hzr g1
          obtain ⟨r2, q2, v2⟩ := pairedGet hzr (cutV_tail g2)
          have s6 := s3.trans (s4.trans s5)
          refine ⟨U, _, rfl, SqT.of hU, rfl, _, _, rfl, _, _, rfl, rfl, rfl, ?_⟩
          unfold tYes
          refine iteT ⟨_, rfl, _, rfl, x1, x2, r1, r2, rfl, v1.same s6, v2.same s6, okz' _ (List.mem_of_getElem? q1), okz' _ (List.mem_of_getElem? q2), fun c H6 s7 hc => ?_⟩
          cases hc (disj_get pd q1 q2 (Nat.lt_succ_self i))
          refine ⟨_, s7 _ _ (s5 _ _ hD), ?_, ?_, ?_⟩
          · rw [List.length_replicate]
            exact small1000 (by omega)
          · intro b o hb
            rw [upd_ne (ne_of_none hb nD)]
            exact s7 _ _ (s5 _ _ (s4 _ _ hb))
          · rw [upd_same, List.replicate_succ']
        · rintro H4 ⟨s4, hD⟩
          refine ⟨D, _, rfl, SqL.of (by rw [hD, rep_bl]), _, rfl, ?_⟩
          rw [rep_any]
          exact iteF ⟨_, _, rfl, s'.trans (s2.trans (s3.trans s4))⟩
      · rintro σ H' ⟨o5, o6, rfl, s'⟩
        refine ⟨s' _ _ hLf, ?_⟩
        have k' : Kp H' (upd H' L (.dT lots)) := Kp.upd (s' _ _ hLf) (fun _ z => nomatch z) (fun _ z => nomatch z)
        have so' := (sof.kp (Kp.of s')).kp k'
        have hS' : upd H' L (.dT lots) S = some (.dK steps) := by rw [upd_ne hLS]; exact s' _ _ hSf
        have sm' : Same H (upd H' L (.dT lots)) := fun b o hb => by
          rw [upd_ne (ne_of_none hb nL)]
          exact s' _ _ (smf _ _ hb)
        generalize upd H' L (.dT lots) = H2 at so' hS' sm' ⊢
        refine ⟨_, rfl, S, steps, rfl, hS', fun p np => ?_⟩
        have s3 : Same H2 (upd H2 p (.lst (steps.map (·.2)))) := same_upd np
        have hp : upd H2 p (.lst (steps.map (·.2))) p = some (.lst (steps.map (·.2))) := upd_same
        generalize upd H2 p (.lst (steps.map (·.2))) = H3 at s3 hp ⊢
        have so3 := so'.kp (Kp.of s3)
        have sm3 := sm'.trans s3
        refine ⟨_, rfl, p, _, rfl, SqL.of hp, for_it (walk_enum (xs := steps.map (·.2))) (fun i σ H' => ∃ o5 o7 o8, σ = [some (.ref a), some (.ref L), some (.ref S), o3, o4, o5, some (.ref p), o7, o8, none, none] ∧ Same H3 H') ⟨_, _, _, rfl, Same.refl _⟩ ?_ ?_ ?_⟩
        · rintro i σ H' _ ⟨_, _, _, _, s'⟩
          exact SqL.of (s' _ _ hp)
        · rintro i x σ Ha Hb hi ⟨o5, o7, o8, rfl, s4⟩ ⟨U, x1, x2, rfl, nU, rfl, g1, g2⟩
          cases g1
          have s5 : Same Ha (upd Ha U (.tup [.int (i : Nat), x2])) := same_upd nU
          have hU : upd Ha U (.tup [.int (i : Nat), x2]) U = some (.tup [.int (i : Nat), x2]) := upd_same
          generalize upd Ha U (.tup [.int (i : Nat), x2]) = Hc at s5 hU ⊢
          have s35 := s4.trans s5
          have g2 : (steps.map (·.2))[i]? = some x2 := g2
          rw [List.getElem?_map] at g2
          obtain ⟨⟨key1, v1⟩, gk1, ev1⟩ := Option.map_eq_some_iff.mp g2
          cases (show x2 = v1 from ev1.symm)
          refine ⟨U, _, rfl, SqT.of hU, rfl, _, _, rfl, _, _, rfl, rfl, ?_⟩
          refine ⟨_, rfl, _, rfl, i, rfl, p, _, rfl, SqL.of (s35 _ _ hp), fun p4 np4 => ?_⟩
          have s6 : Same Hc (upd Hc p4 (.lst (cutV (steps.map (·.2)) none (some (i : Int))))) := same_upd np4
          have hp4 : upd Hc p4 (.lst (cutV (steps.map (·.2)) none (some (i : Int)))) p4 = some (.lst (cutV (steps.map (·.2)) none (some (i : Int)))) := upd_same
          generalize upd Hc p4 (.lst (cutV (steps.map (·.2)) none (some (i : Int)))) = H6 at s6 hp4 ⊢
          have s36 := s35.trans s6
          refine ⟨p4, rfl, ⟨_, SqL.of hp4⟩, for_list (K := K) (a := p4) (xs := cutV (steps.map (·.2)) none (some (i : Int))) (fun j σ H' => ∃ o8, σ = [some (.ref a), some (.ref L), some (.ref S), o3, o4, some x2, some (.ref p), some (.int (i : Nat)), o8, none, none] ∧ Same H6 H') ⟨_, rfl, Same.refl _⟩ ?_ ?_ ?_⟩
          · rintro j σ H' _ ⟨_, _, s'⟩
            exact SqL.of (s' _ _ hp4)
          · rintro j x σ H' hx ⟨o8, rfl, s7⟩
            obtain ⟨g3, hji⟩ := cutV_take hx
            rw [List.getElem?_map] at g3
            obtain ⟨⟨key2, v2⟩, gk2, ev2⟩ := Option.map_eq_some_iff.mp g3
            cases (show x = v2 from ev2.symm)
            have s37 := s36.trans s7
            obtain ⟨zs1, ⟨p5, ws5, e5, hp5, hr5⟩, lz5, hz5⟩ := so3 _ (List.mem_of_getElem? gk1)
            obtain ⟨zs2, ⟨p6, ws6, e6, hp6, hr6⟩, lz6, hz6⟩ := so3 _ (List.mem_of_getElem? gk2)
            cases (show x2 = .ref p5 from e5)
            cases (show x = .ref p6 from e6)
            have dj : ∀ z1 ∈ zs1, ∀ z2 ∈ zs2, Disj z1 z2 := fun z1 m1 z2 m2 => by
              refine disj_ne hd (hz5 z1 m1).1 (hz6 z2 m2).1 fun ez => ?_
              have ek : key2 = key1 := (hz6 z2 m2).2.trans (ez ▸ (hz5 z1 m1).2.symm)
              have n1 : (steps.map (·.1))[j]? = some key2 := by rw [List.getElem?_map, gk2]; rfl
              have n2 : (steps.map (·.1))[i]? = some key1 := by rw [List.getElem?_map, gk1]; rfl
              obtain ⟨b1, c1⟩ := List.getElem?_eq_some_iff.mp n1
              obtain ⟨b2, c2⟩ := List.getElem?_eq_some_iff.mp n2
              have := List.pairwise_iff_getElem.mp nd j i b1 b2 hji
              exact this (by rw [c1, c2, ek])
            have lw5 := pairedLen hr5
            have lw6 := pairedLen hr6
            have hp5' := s37 _ _ hp5
            have hp6' := s37 _ _ hp6
            have hr5' := hr5.same s37
            have hr6' := hr6.same s37
            refine ⟨_, rfl, p5, rfl, ⟨_, SqL.of hp5'⟩, fun D nD => ?_⟩
            refine lc2_out (walk_list (xs := ws5)) (fun m H8 => Same H' H8 ∧ ∃ c, c ≤ m * 1000 ∧ H8 D = some (.lst (List.replicate c (V.bl false)))) ⟨same_upd nD, 0, Nat.zero_le _, upd_same⟩ (fun m H8 _ ⟨s8, _⟩ => SqL.of (s8 _ _ hp5')) ?_ ?_
            · rintro m x H8 H9 hm ⟨s8, c, lc, hD⟩ ⟨rfl, gx⟩
              obtain ⟨r1, q1, w1⟩ := pairedGet hr5' gx
              refine ⟨rfl, ?_⟩
              unfold tYes
              refine iteT ⟨_, rfl, p6, rfl, ⟨_, SqL.of (s8 _ _ hp6')⟩, ?_⟩
              refine lc2_in (tt := tYes) (g := gName 10) (te := tCall spShared [] E0 (tCons (tVar 3) (tCons (tVar 10) tNil))) (vs := [10]) (D := D) (walk_list (xs := ws6)) (fun n H10 => Same H' H10 ∧ ∃ c, c ≤ m * 1000 + n ∧ H10 D = some (.lst (List.replicate c (V.bl false)))) ⟨s8, c, lc, hD⟩ (fun n H10 _ ⟨s10, _⟩ => SqL.of (s10 _ _ hp6')) ?_ ?_
              · rintro n y H10 H11 hn ⟨s10, c, lc, hD⟩ ⟨rfl, gy⟩
                obtain ⟨r2, q2, w2⟩ := pairedGet hr6' gy
                refine ⟨rfl, ?_⟩
                unfold tYes
                refine iteT ⟨_, rfl, _, rfl, x, y, r1, r2, rfl, w1.same s10, w2.same s10, hok _ (hz5 _ (List.mem_of_getElem? q1)).1, hok _ (hz6 _ (List.mem_of_getElem? q2)).1, fun b H12 s12 hb => ?_⟩
                cases hb (dj _ (List.mem_of_getElem? q1) _ (List.mem_of_getElem? q2))
                refine ⟨_, s12 _ _ hD, ?_, ?_, c + 1, by omega, ?_⟩
                · rw [List.length_replicate]
                  exact small1m (by omega)
                · intro b o hb
                  rw [upd_ne (ne_of_none hb nD)]
                  exact s12 _ _ (s10 _ _ hb)
                · rw [upd_same, List.replicate_succ']
              · rintro H10 ⟨s10, c, lc, hD⟩
                exact ⟨s10, c, by omega, hD⟩
            · rintro H8 ⟨s8, c, lc, hD⟩
              refine ⟨D, _, rfl, SqL.of (by rw [hD, rep_bl]), _, rfl, ?_⟩
              rw [rep_any]
              exact iteF ⟨_, rfl, s7.trans s8⟩
          · rintro σ H' ⟨o8, rfl, s7⟩
            exact ⟨_, _, _, rfl, s36.trans s7⟩
        · rintro σ H' ⟨o5, o7, o8, rfl, s4⟩
          exact k _ (sm3.trans s4)
end
end K16
/-! an own ValueError whose __init__ says super().__init__(text) and self.part = part -/
namespace K16
open PySem PySem.Spec PyProof.Rows L2
abbrev sBadInit : Stmt := inClass (top 5) 0
section
open PySem.W
variable {prog : Program} {w : World} {A : Around} {E : Value → Shared → Prop} {h : Heap} {g : Array GenState} {d : Drawn} {t : Nat} {os : OsState}
  {nm q : Str} {C N : Addr} {bs bm : List Value} {hdct : Bool} {sn : List Str} {sub : List Value} {ab : Bool} {col : Option Bool} {dd : Option Addr} {k0 k1 k2 k3 k5 : Option Value}
theorem call_mwV {u e t0 : Addr} {rest : List Value} {Q : Value → Shared → Prop}
    (hC : h.get? C = some (excClassObj nm q C N bs bm hdct sn sub ab col dd k0 k1 k2 k3 k5 "ValueError.__new__")) (he : h.get? e = some (HandSPX.excO C t0)) (hu : h.get? u = some (kxs_mw "ValueError.__init__" e)) (hrest : rest.length ≤ sizeLine)
    (hq : ∀ h' t1, (∀ b o, b ≠ e → h.get? b = some o → h'.get? b = some o) → h'.get? e = some (HandSPX.excO C t1) → Q .none ⟨h', g, d, t, os⟩) :
    wpAny (model prog w) A (call (.ref u) rest) Q E ⟨h, g, d, t, os⟩ := by
  refine wpAny_call (codeAny_of_tree ?_)
  show wpAny _ A.in1 (callAny (.ref u) ⟨rest, []⟩) _ _ _
  simp only [callAny]
  refine wpAny_bind (wpAny_load hu ?_)
  simp only [kxs_mw, show (Value.type "method-wrapper" == Value.type "method" || Value.type "method-wrapper" == Value.type "builtin_function_or_method" || Value.type "method-wrapper" == Value.type "method-wrapper") = true by decide, if_true]
  refine KFB.if_so (by decide) ?_
  refine wpAny_bind (check_bound_init F.excBase_ValueError.toExcCallFacts hC he rfl ?_)
  refine wpAny_bind (wpAny_pure (wpAny_pure ?_))
  refine ⟨plainId_quiet F.excBase_ValueError.init.plain _, codeAny_builtin F.excBase_ValueError.initEntry ?_⟩
  exact exc_init_tree (cls := .ref C) (t0 := t0) (dv := none) (c2 := .none) (c3 := .none) (b4 := .bool false) he hrest fun h' k e' _ => hq h' _ k e'
end
/-- what the written part says of the class and its __init__ -/
structure BadC (P : Program) (K : PySem.W.Frag) (C fI : Addr) (fd : FuncData) : Prop where
  T : OexC K C
  fn : ∃ (oc : Value) (od : Option Addr) (kV doc pm : Value) (an : Option Addr) (cda cc : Addr) (ct : Value) (osl : Array (Option Value)),
    fd = PySem.W.ksFn "__init__" "BadLayout.__init__" (defArgs sBadInit) (defBody sBadInit) (defScope sBadInit) .none kV doc pm an (.ref cda) ct cc ∧ K.lookup fI = some ⟨oc, od, .func fd, osl⟩ ∧ PySem.W.codeIn K (.ref cda) "BadLayout.__init__" = true ∧
    (∃ ccl cdd vs ccs file tf, K.lookup cda = some ⟨ccl, cdd, .fields vs, ccs⟩ ∧ vs[2]? = some (.str file tf) ∧ (P.main.file == file) = true) ∧ ∃ cl cld csl, K.lookup cc = some ⟨cl, cld, .cell (some (.ref C)), csl⟩
  sup : PySem.W.ks_superIn K C C "__init__" = some (some (.builtin "ValueError.__init__"))
  ve : PySem.W.subIn K (.ref C) (.type "ValueError") = some true
  op : PySem.W.nsIn K cStatics "thirdparty.any" = some none
  own : PySem.W.mroIn K C (.ref C) = some true
  part : PySem.W.findIn K (.ref C) "part" = some none
theorem lookupC {β : Type} {x f : Str} {v : β} {l : List (Str × β)} : List.lookup x ((f, v) :: l) = if x = f then some v else List.lookup x l := by
  by_cases h : x = f
  · subst h; simp [List.lookup]
  · have e : (x == f) = false := by simpa using h
    rw [if_neg h]; simp [List.lookup, e]
/-- its scope without the cell -/
def scBad : Scope := { defScope sBadInit with names := [("self", .local), ("part", .local)] }
theorem bad_nocell : ∀ x ∈ (defScope sBadInit).names, x.2 ≠ .cell := by decide +kernel
theorem scBadOk : FnScope ["self", "part"] ["self", "part"] scBad := ⟨rfl, rfl, rfl, by decide +kernel, rfl, by decide +kernel, by decide +kernel⟩
section
variable {P : Program} {w : World} {K : PySem.W.Frag} {mg : Str → Option Value} {base : Heap} {C fI : Addr} {fd : FuncData}
def spBadC (C : Addr) : Sp := fun vs H Q _ => ∃ (a : Addr) (y : V), vs = [.ref a, y] ∧ H a = some (exo a C none) ∧ ∀ dx, H dx = none → dx ≠ a → Q .non (upd (upd H dx (exd dx [("part", y)])) a (exo a C (some dx)))
theorem fn_bad {k : Nat} (B : BadC P K C fI fd) (hsm : mg "super" = none) (htop : (P.main.scope.names.lookup ("super" : Str)).isSome = false) : FnOk P w K mg base L2.CX0 (k + 1) fI fd ["self", "part"] (spBadC C) := by
  refine ⟨fun vs H Q E h => ?_, fun A outer s H args us vs Q E hr e0 hb r hsp => ?_⟩
  · obtain ⟨_, _, rfl, _⟩ := h
    rfl
  obtain ⟨oc, od, kV, doc, pm, an, cda, cc, ct, osl, rfl, lk, hcd, ⟨ccl, cdd, vs2, ccs, file, tf, lcode, hvs, hfile⟩, cl, cld, csl, lcell⟩ := B.fn
  obtain ⟨a, y, rfl, ea, k'⟩ := hsp
  obtain ⟨u0, u1, rfl, r0, r1⟩ := vals2 r
  obtain rfl : u0 = Value.ref a := r0
  have KX : K.In s.heap := e0.mod.kin.keeps fun b o e => (e0.bs b o e).1
  have lim : s.heap.NoLimit := e0.mod.nolimit.keeps fun b o e => (e0.bs b o e).1
  refine ks_codeAny_call_defAt (fd := PySem.W.ksFn "__init__" "BadLayout.__init__" (defArgs sBadInit) (defBody sBadInit) (defScope sBadInit) .none kV doc pm an (.ref cda) ct cc) (body := defBody sBadInit) (binds := [("self", .ref a), ("part", u1)]) hr.depth (KX _ _ lk) rfl lim (PySem.W.codeRec_of KX hcd) rfl hb bad_nocell ?_ (fun h0 hns hk => ?_) (by rfl) (by rfl) (by rfl)
  · intro x hx
    rcases List.mem_cons.mp hx with rfl | hx
    · rfl
    · rcases List.mem_cons.mp hx with rfl | hx
      · rfl
      · cases hx
  have ns' : h0.Ns s.heap.objs.size (bindL (envOfC "BadLayout.__init__" scBad s.heap.objs.size fI (.ref cda)).kindOf [("self", .ref a), ("part", u1)] fun _ => none) := by
    have em : bindL (envOfC "BadLayout.__init__" scBad s.heap.objs.size fI (.ref cda)).kindOf [("self", .ref a), ("part", u1)] (fun _ => none) = fun x => List.lookup x ([("self", Value.ref a), ("part", u1)] : List (Str × Value)).reverse := by
      funext x
      show (if x = ("part" : Str) then some u1 else if x = ("self" : Str) then some (Value.ref a) else none) = List.lookup x ([("part", u1), ("self", Value.ref a)] : List (Str × Value))
      rw [lookupC, lookupC]
      rfl
    rw [em]
    exact hns
  have I : Inv (cxOf L2.CX0 P w K mg base ["self", "part"] "BadLayout.__init__" scBad fI (.ref cda) A outer s H E) [] (start ["self", "part"] [.ref a, y]) H { s with heap := h0, toks := s.toks + 2 } :=
    inv_start scBadOk hr.hd e0 rfl r ⟨⟨⟨_, _, rfl⟩, ns', hk, Nat.le_refl _⟩, fun n c z => (by cases z), List.Pairwise.nil, fun n c z => (by cases z)⟩
  have X0 : K.In h0 := I.kIn
  obtain ⟨nm, qn, N, bs, bm, sn, sub, ab, col, dd, k0, k1, k2, k3, k5, lC, hbm⟩ := B.T.cls
  have hC0 := X0 _ _ lC
  obtain ⟨t1, he0⟩ := exo_at I.hok ea
  obtain ⟨mb, hmb, hmb2⟩ := e0.mod.blt
  have bk : ∀ b o, base.get? b = some o → h0.get? b = some o := fun b o e => hk b o (e0.bs b o e).1
  have hsx : callEnv (PySem.W.ksFn "__init__" "BadLayout.__init__" (defArgs sBadInit) (defBody sBadInit) (defScope sBadInit) .none kV doc pm an (.ref cda) ct cc) s.heap.objs.size fI = PySem.W.ksEnv "BadLayout.__init__" (defScope sBadInit) s.heap.objs.size fI (.ref cda) cc := rfl
  rw [hsx]
  clear hsx
  obtain ⟨hp, g, d, tk, os⟩ := s
  have hD2 : (excClassObj nm qn C N bs bm true sn sub ab col dd k0 k1 k2 k3 k5 "ValueError.__new__").data = _ := rfl
  have hcl : PySem.W.clsIn K C = some { name := nm, bases := bs, mro := .ref C :: bm, ns := N, qualname := qn, hasDict := true, slotNames := sn, subclasses := sub, abstract := ab, collection := col, hasDel := false } := by unfold PySem.W.clsIn; rw [lC] <;> rfl
  refine ks_wpAt_execs_cons (ks_wpAt_Expr_any (ks_wpAt_MethodCall ?_))
  refine ks_wpAt_super_base (env := PySem.W.ksEnv "BadLayout.__init__" (defScope sBadInit) hp.objs.size fI (.ref cda) cc) (by rfl) (by rfl) (by decide) rfl (X0 _ _ lk) rfl (by rfl) rfl (X0 _ _ lcode) rfl hvs hfile htop ?_
  refine PySem.W.ks_loadName_global (by rfl) (by rfl) (Calls.loadGlobal_builtin (e0.mod.glob.keeps bk) hsm (hmb.keeps bk) ((hmb2 _ (by decide)).trans (by decide +kernel : bootBuiltins "super" = some (.type "super"))) ⟨rfl, ?_⟩)
  refine wpAny_loadName_free (by rfl) (by rfl) rfl ⟨_, X0 _ _ lcell, rfl⟩ ?_
  refine wpAny_loadName_local (by rfl) (by rfl) hns (by rfl) ?_
  refine ks_wpAny_isType_cls hC0 hD2 ⟨rfl, ?_⟩
  refine ks_wpAny_call_super hC0 hD2 he0 rfl (fun c e => by cases e) (PySem.W.looks_mroIn X0 B.own) (fun h1 e1 kk1 => ?_)
  have X1 : K.In h1 := X0.keeps kk1
  have he1 := kk1 _ _ he0
  have I1 : Inv (cxOf L2.CX0 P w K mg base ["self", "part"] "BadLayout.__init__" scBad fI (.ref cda) A outer ⟨hp, g, d, tk, os⟩ H E) [] (start ["self", "part"] [.ref a, y]) H ⟨h1, g, d, tk + 2, os⟩ := I.kept (t' := tk + 2) kk1
  have hxC : a ≠ C := fun z => by
    rw [z, hC0] at he0
    cases he0
  refine PySem.W.kxs_getMethod PySem.W.kxs_ValueError e1 (PySem.W.looks_opaque X1 B.op) (l₀ := .ref C :: bm) (fun A Q E s k q => wpAny_bind ((PySem.W.looks_clsIn X1 hcl) A _ E s k (wpAny_pure q))) rfl X1 (by have := B.sup; unfold PySem.W.ks_superIn at this; rw [hcl] at this; exact this) (PySem.W.Looks.andThen (fun A Q E s k q => wpAny_typeOf_ref (k _ _ he1) q) (PySem.W.looks_subIn X1 B.ve)) hxC (by decide) ?_
  have hu2 : (h1.push (PySem.W.kxs_mw "ValueError.__init__" a)).get? h1.objs.size = some (PySem.W.kxs_mw "ValueError.__init__" a) := Heap.get?_push_at rfl rfl
  have kk2 : ∀ b o, h1.get? b = some o → (h1.push (PySem.W.kxs_mw "ValueError.__init__" a)).get? b = some o := fun b o e => Heap.get?_push_of_some _ e
  refine PySem.W.kxs_callWith (i := "ValueError.__init__") (x := a) (by rfl) (Calls.evalArgs_plain (Calls.spliced_cons ?_))
  refine PySem.W.KFB.if_not (by decide) (Calls.Constant_str (Calls.spliced_nil ⟨hu2, ?_⟩))
  refine call_mwV (X1.keeps kk2 _ _ lC) (kk2 _ _ he1) hu2 (by show 1 ≤ sizeLine; decide) (fun h3 t3 kk3 he3 => ?_)
  have I2 : Inv (cxOf L2.CX0 P w K mg base ["self", "part"] "BadLayout.__init__" scBad fI (.ref cda) A outer ⟨hp, g, d, tk, os⟩ H E) [] (start ["self", "part"] [.ref a, y]) H ⟨h1.push (PySem.W.kxs_mw "ValueError.__init__" a), g, d, tk + 4, os⟩ := I1.kept (t' := tk + 4) kk2
  have J3 := I2.write (t' := tk + 4) (x := a) (e := a) (o := exo a C none) (by rw [ea]; exact True.intro) (.inl rfl) kk3 ⟨_, he3⟩ (exo_ok he3)
  have eu : upd H a (exo a C none) = H := by
    funext b
    by_cases hb : b = a
    · rw [hb, upd_same, ea]
    · rw [upd_ne hb]
  rw [eu] at J3
  obtain ⟨oL, esL, epL, hL, dL, restL⟩ := hns
  have nLa : hp.objs.size ≠ a := fun z => by
    have e2 : h0.get? a = some oL := by rw [← z]; exact hL
    rw [show h0.get? a = _ from he0] at e2
    have e3 := Option.some.inj e2
    rw [← e3] at dL
    cases dL
  have ns3 : h3.Ns hp.objs.size fun x => List.lookup x ([("self", Value.ref a), ("part", u1)] : List (Str × Value)).reverse := ⟨oL, esL, epL, kk3 _ _ nLa (kk2 _ _ (kk1 _ _ hL)), dL, restL⟩
  refine ks_wpAt_execs_cons (PySem.wpAt_of_wpAny (plainObj_wpAny_Assign_Attribute ?_))
  refine wpAny_Name (wpAny_loadName_local (by rfl) (by rfl) ns3 (by rfl) ?_)
  refine wpAny_Name (wpAny_loadName_local (by rfl) (by rfl) ns3 (by rfl) ?_)
  refine ost_new B.T J3 ea B.part r1 fun dx s' n ne J => ?_
  exact PySem.wpAt_of_wpAny (wpAny_execs_nil ⟨.non, _, J.os, J.bare, J.base, J.hok, rfl, k' dx n ne⟩)
end
end K16
/-! need_layout -/
namespace K16
open PySem PySem.Spec PyProof.Rows L2
/-- BadLayout with all that is asked of it -/
structure BadK (P : Program) (K : PySem.W.Frag) (mg : Str → Option Value) (C fI : Addr) (fd : FuncData) : Prop where
  B : BadC P K C fI fd
  bi : Binds K fd ["self", "part"] []
  init : PySem.W.findIn K (.ref C) "__init__" = some (some (.ref fI))
  ty : PySem.W.typeIn K (.ref fI) = some (.type "function")
  gC : mg "BadLayout" = some (.ref C)
  te : PySem.W.exmOne K (.ref C) (.ref C) = some true
  xf : XfC K C
  nsup : mg "super" = none
  top : (P.main.scope.names.lookup ("super" : Str)).isSome = false
/-- the class Layout -/
structure LayK (K : PySem.W.Frag) (mg : Str → Option Value) (C fI : Addr) : Prop where
  cls : Cls K C
  made : Mk K C fI
  gL : mg "Layout" = some (.ref C)
  nR : NoAttr K C "rows"
  i1 : PySem.W.findIn K (.ref C) "__class__" = some (some (.builtin "object.__class__"))
  i2 : PySem.W.specialIn K (.builtin "object.__class__") "__get__" = some (some (.builtin "getset_descriptor.__get__"))
  i3 : PySem.W.takesIn K (.builtin "object.__class__") = some true
  i4 : PySem.W.mroIn K C (.type "object") = some true
  other : ∀ T ∈ ["NoneType", "tuple", "int", "list", "str", "bool"], PySem.W.kitOne K (.type T) (.ref C) = some false
structure DefD (K : PySem.W.Frag) (mg : Str → Option Value) (x : Str) (st : Stmt) (dvs : List V) : Prop where
  ex : ∃ (f : Addr) (fd : FuncData), FunD K x x (defArgs st) (defBody st) (defScope st) dvs [] f fd ∧ mg x = some (.ref f)
/-- a def that raises -/
structure CalX (P : Program) (w : World) (K : PySem.W.Frag) (mg : Str → Option Value) (base : Heap) (k : Nat) (x : Str) (sp : Sp) : Prop where
  ex : ∃ (f : Addr) (fd : FuncData) (ps : List Str), FnOk P w K mg base (L2.CX P w) k f fd ps sp ∧ mg x = some (.ref f) ∧ PySem.W.keepIn K (.ref f) = true ∧ Binds K fd ps []
section
variable {P : Program} {w : World} {K : PySem.W.Frag} {mg : Str → Option Value} {base : Heap} {C fI LC lI : Addr} {fd : FuncData}
theorem kit_self (K : PySem.W.Frag) (C : Addr) : PySem.W.kitOne K (.ref C) (.ref C) = some true := by
  unfold PySem.W.kitOne
  rw [if_pos (by simp)]
theorem scNeed : FnScope ["value", "part"] ["value", "part"] (defScope sNeed) := ⟨rfl, rfl, rfl, by decide +kernel, rfl, by decide +kernel, by decide +kernel⟩
/-- an instance of Layout -/
def InsL (LC : Addr) (H : Hp) (a : Addr) : Prop := ∃ dx fs, H a = some (.ins LC dx fs)
theorem LayK.ty (L : LayK K mg LC lI) {H : Hp} {a : Addr} (h : InsL LC H a) : TyX K H (.ref a) (.ref LC) := by
  obtain ⟨dx, fs, e⟩ := h
  exact .base (.ins e L.cls L.i1 L.i2 L.i3 L.i4)
def spNeed (LC : Addr) : Sp := fun vs H Q _ => ∃ (a : Addr) (y : V), vs = [.ref a, y] ∧ InsL LC H a ∧ Q .non H
/-- a value that is no Layout -/
inductive NotL (K : PySem.W.Frag) (H : Hp) : V → Prop where
  | non : NotL K H .non
  | int (i : Int) : NotL K H (.int i)
  | bl (b : Bool) : NotL K H (.bl b)
  | str (x : Str) : NotL K H (.str x)
  | lst {a : Addr} {xs : List V} (e : H a = some (.lst xs)) : NotL K H (.ref a)
  | tup {a : Addr} {xs : List V} (e : H a = some (.tup xs)) : NotL K H (.ref a)
theorem LayK.no (L : LayK K mg LC lI) {H : Hp} {v : V} (h : NotL K H v) : ∃ t, TyX K H v t ∧ PySem.W.kitOne K t (.ref LC) = some false := by
  cases h with
  | non => exact ⟨_, .base .non, L.other _ (by decide)⟩
  | int i => exact ⟨_, .base (.int i), L.other _ (by decide)⟩
  | bl b => exact ⟨_, .base (.bl b), L.other _ (by decide)⟩
  | str x => exact ⟨_, .base (.str x), L.other _ (by decide)⟩
  | lst e => exact ⟨_, .base (.lst e), L.other _ (by decide)⟩
  | tup e => exact ⟨_, .base (.tup e), L.other _ (by decide)⟩
def spNeedX (C : Addr) (K : PySem.W.Frag) : Sp := fun vs H _ E => ∃ (v y : V), vs = [v, y] ∧ NotL K H v ∧ ∀ (d : Addr) (H' : Hp), Same H H' → H' d = some (.xd [("part", y)]) → E (.ref C) (some d) H'
theorem need_binds {f : Addr} {fd : FuncData} (F : FunD K "need_layout" "need_layout" (defArgs sNeed) (defBody sNeed) (defScope sNeed) [.str "layout"] [] f fd) : Binds K fd ["value", "part"] [] := by
  obtain ⟨ds, hv, b⟩ := F.binds1 (ps := ["value", "part"]) 2 1 (by simp) rfl (fun T kV doc pm an cdv ct us its h1 h2 => match us, its, h1, h2 with
    | [_, _], [_], _, _ => ⟨_, rfl, rfl⟩)
  cases hv
  exact b
theorem cal_need (T : Bi mg) (D : DefD K mg "need_layout" sNeed [.str "layout"]) (L : LayK K mg LC lI) : Cal P w K mg base 1 "need_layout" (spNeed LC) := by
  obtain ⟨f, fd, F, hm⟩ := D.ex
  refine ⟨f, fd, ["value", "part"], F.ok scNeed (fun vs H Q E h => ?_) (fun cdv A outer s H vs Q E hr h => ?_), hm, F.kp, need_binds F⟩
  · obtain ⟨_, _, rfl, _⟩ := h
    rfl
  · obtain ⟨a, y, rfl, hi, k⟩ := h
    refine ⟨_, pss_one (ps_if (pt_not (pt_val (pe_callB call_isi (by rfl) T.isinstance boot_isinstance (pa_cons (pv 0) (pa_cons (pe_glob (v := .ref LC) (by rfl) L.gL rfl) pa_nil))))) pss_never pss_nil), ?_⟩
    exact ⟨_, rfl, _, _, _, _, true, rfl, .own LC, L.ty hi, kit_self K LC, true, rfl, iteF k⟩
theorem calX_need (T : Bi mg) (D : DefD K mg "need_layout" sNeed [.str "layout"]) (L : LayK K mg LC lI) (B : BadK P K mg C fI fd) : CalX P w K mg base 3 "need_layout" (spNeedX C K) := by
  obtain ⟨f, fd, F, hm⟩ := D.ex
  refine ⟨f, fd, ["value", "part"], F.ok scNeed (fun vs H Q E h => ?_) (fun cdv A outer s H vs Q E hr h => ?_), hm, F.kp, need_binds F⟩
  · obtain ⟨_, _, rfl, _⟩ := h
    rfl
  · obtain ⟨v, y, rfl, hn, k⟩ := h
    obtain ⟨t, hty, hk⟩ := L.no hn
    refine ⟨_, pss_one (ps_if (pt_not (pt_val (pe_callB call_isi (by rfl) T.isinstance boot_isinstance (pa_cons (pv 0) (pa_cons (pe_glob (v := .ref LC) (by rfl) L.gL rfl) pa_nil)))))
      (pss_one (ps_raise (by rfl) (takes_of rfl rfl rfl rfl) (pmk_oex (C := C) B.B.T B.init B.ty (fn_bad (k := 0) B.B B.nsup B.top) (hr.mono (by decide)) B.bi .nil (fun _ _ _ _ _ _ _ h => h.elim) (by rfl) B.gC (pa_cons (pv 1) pa_nil)))) pss_nil), ?_⟩
    refine ⟨_, rfl, _, _, _, _, false, rfl, .own LC, hty, hk, false, rfl, iteT ?_⟩
    refine ⟨_, rfl, by show 1 ≤ 1000; decide, fun a na => ⟨a, y, rfl, upd_same, fun dx nd ne => ?_⟩⟩
    have nd' : H dx = none := by
      rw [upd_ne ne] at nd
      exact nd
    refine ⟨rfl, dx, [("part", y)], upd_same, by rw [upd_ne ne, upd_same], nd', k dx _ (fun b o hb => ?_) upd_same⟩
    rw [upd_ne (ne_of_none hb nd'), del_ne (ne_of_none hb na), upd_ne (ne_of_none hb na), upd_ne (ne_of_none hb nd'), upd_ne (ne_of_none hb na)]
    exact hb
end
end K16
/-! Layout.__init__ -/
namespace K16
open PySem PySem.Spec PyProof.Rows L2
/-- a Layout with the rows rs, in some order -/
def LayAt (LC : Addr) (H : Hp) (a : Addr) (rs : List Rw) : Prop := ∃ dx t ws rs', H a = some (.ins LC dx [("rows", .ref t)]) ∧ H t = some (.tup ws) ∧ RowsAt H ws rs' ∧ rs'.Perm rs
theorem LayAt.same {LC : Addr} {H H' : Hp} {a : Addr} {rs : List Rw} (s : Same H H') (h : LayAt LC H a rs) : LayAt LC H' a rs := by
  obtain ⟨dx, t, ws, rs', h1, h2, h3, h4⟩ := h
  exact ⟨dx, t, ws, rs', s _ _ h1, s _ _ h2, h3.same s, h4⟩
/-- rows that are in a layout -/
def Good (rs : List Rw) : Prop := (∀ r ∈ rs, StepOk r) ∧ rs.length ≤ 1000 ∧ rs.Pairwise Disj
theorem Good.perm {rs rs' : List Rw} (h : Good rs) (p : rs'.Perm rs) : Good rs' :=
  ⟨fun r hr => h.1 r (p.mem_iff.mp hr), by rw [p.length_eq]; exact h.2.1, (p.symm.pairwise_iff (fun {a b} h => Disj.symm h)).mp h.2.2⟩
theorem rep_all (n : Nat) : (List.replicate n true).all id = true := by
  induction n with
  | zero => rfl
  | succ n ih => rw [List.replicate_succ, List.all_cons, ih]; rfl
section
variable {P : Program} {w : World} {K : PySem.W.Frag} {mg : Str → Option Value} {base : Heap} {LC lI : Addr} {fd : FuncData}
theorem scInit : FnScope ["self", "rows", "kept", "row"] ["self", "rows"] (defScope sInit) := ⟨rfl, rfl, rfl, by decide +kernel, rfl, by decide +kernel, by decide +kernel⟩
def spInit (LC : Addr) : Sp := fun vs H Q _ => ∃ (a p dx : Addr) (us : List V) (rs : List Rw), vs = [.ref a, .ref p] ∧ H a = some (.ins LC dx []) ∧ (H p = some (.lst us) ∨ H p = some (.tup us)) ∧ RowsAt H us rs ∧ Good rs ∧
  ∀ H' : Hp, (∀ b o, b ≠ a → H b = some o → H' b = some o) → LayAt LC H' a rs → Q .non H'
theorem fn_init (T : Bi mg) (L : LayK K mg LC lI) (F : Fun K "__init__" "Layout.__init__" sInit lI fd) (hM : ∃ t, mg "MOST_ROWS" = some (.int 1000 t)) (c1 : Cal P w K mg base 3 "is_steps" spIsSteps) (c2 : Cal P w K mg base 3 "fixed" (spFixed2 K))
    (c3 : Cal P w K mg base 5 "are_apart" spApart) (c4 : Cal P w K mg base 1 "turn_of" spTurn) : FnOk P w K mg base L2.CX0 6 lI fd ["self", "rows"] (spInit LC) := by
  refine F.ok scInit (fun vs H Q E h => ?_) (fun cdv A outer s H vs Q E hr h => ?_)
  · obtain ⟨_, _, _, _, _, rfl, _⟩ := h
    rfl
  · obtain ⟨a, p, dx, us, rs, rfl, ha, hp, hR, ⟨hok, hlen, hd⟩, k⟩ := h
    obtain ⟨mt, hM⟩ := hM
    have hul := pairedLen hR
    -- what stands behind the test
    have rest : ∀ (H1 : Hp), Same H H1 → (tSeq (tAsg (tCall (spFixed2 K) [] E0 (tCons (tVar 1) tNil)) (gName 2)) (tSeq (tIfS (tNot (tB (tCall spApart [] E0 (tCons (tVar 2) tNil)))) tNever tNext)
        (sFld K (tVar 0) (tCB (fun xs H Q => ∃ p ys, xs = [.ref p] ∧ ((SqL K H p ys ∧ ∀ l, H l = none → Q (.ref l) (upd H l (.tup ys))) ∨ (SqT K H p ys ∧ Q (.ref p) H))) (tCons (tSortK K (tCons (tVar 2) tNil)) tNil)) "rows")))
        { nx := fun _ H' => Q .non H', rt := Q } [some (.ref a), some (.ref p), none, none] H1 := by
      intro H1 s1
      refine ⟨_, rfl, p, us, rs, rfl, hp.imp (s1 _ _) (s1 _ _), hR.same s1, hlen, fun t ws H2 s2 ht hw => ?_⟩
      refine ⟨_, rfl, t, ws, rs, rfl, ht, hw, hok, hlen, hd, fun H3 s3 => ⟨true, rfl, iteF ?_⟩⟩
      refine ⟨_, rfl, t, ws, rfl, .inr (SqT.of (s3 _ _ ht)), fun x hx => ?_, fun ys q H4 s4 perm nq hq => ?_⟩
      · obtain ⟨r, hm, hr'⟩ := rows_mem (hw.same s3) hx
        exact ⟨r, hr', (hok r hm).1⟩
      · obtain ⟨rs', hr', hp'⟩ := paired_perm perm ((hw.same s3).same s4)
        have s14 := s1.trans (s2.trans (s3.trans s4))
        refine ⟨q, ys, rfl, .inl ⟨SqL.of hq, fun l nl => ?_⟩⟩
        have s5 : Same H4 (upd H4 l (.tup ys)) := same_upd nl
        refine ⟨_, rfl, a, LC, dx, [], rfl, s5 _ _ (s14 _ _ ha), L.cls, L.nR, by decide, k _ (fun b o hb e => ?_) ⟨dx, l, ys, rs', upd_same, ?_, ?_, hp'⟩⟩
        · rw [upd_ne hb]
          exact s5 _ _ (s14 _ _ e)
        · rw [upd_ne (Ne.symm (ne_of_none (s14 _ _ ha) nl)), upd_same]
        · exact (RowsAt.same s5 hr').kp (Kp.upd (s5 _ _ (s14 _ _ ha)) (fun _ z => nomatch z) (fun _ z => nomatch z))
    have turn : ∀ (i : Nat) (x : V) (H' : Hp) (D : Addr), H D = none → us[i]? = some x → (Same H H' ∧ H' D = some (.lst (List.replicate i (V.bl true)))) →
        spIsSteps [x] H' (fun y H4 => ∃ acc, H4 D = some (.lst acc) ∧ acc.length < sizeLine ∧ (Same H (upd H4 D (.lst (acc ++ [y]))) ∧ upd H4 D (.lst (acc ++ [y])) D = some (.lst (List.replicate (i + 1) (V.bl true))))) E0 := by
      rintro i x H' D nD hi ⟨sm, hD⟩
      obtain ⟨r, hr', hx⟩ := pairedGet hR hi
      refine ⟨x, r, rfl, hx.same sm, (hok r (List.mem_of_getElem? hr')).1, fun H2 s2 => ⟨_, s2 _ _ hD, ?_, ?_, ?_⟩⟩
      · rw [List.length_replicate]
        obtain ⟨h1, _⟩ := List.getElem?_eq_some_iff.mp hi
        exact small1000 (by omega)
      · intro c o hc
        rw [upd_ne (ne_of_none hc nD)]
        exact s2 _ _ (sm _ _ hc)
      · rw [upd_same, List.replicate_succ']
    rcases hp with hp | hp
    · refine ⟨_, pss_cons (ps_if (PW.pt (pw_or (pt_not (pt_val (pe_callB call_isiT (by rfl) T.isinstance boot_isinstance (pa_cons (pv 1) (pa_cons (pe_tup (pa_cons (pe_bltn (v := .ty "list") (by rfl) T.list boot_list rfl) (pa_cons (pe_bltn (v := .ty "tuple") (by rfl) T.tuple boot_tuple rfl) pa_nil))) pa_nil)))))
          (pw_or (pt_cmpR op_gt (pe_callB call_len_seq (by rfl) T.len PySem.boot_len (pa_cons (pv 1) pa_nil)) (pe_glob (v := .int 1000) (by rfl) hM ⟨_, rfl⟩) (nomark _))
          (pw_or1 (pt_not (pt_val (pe_callB (cr_all (by rfl)) (by rfl) T.all boot_all (pa_cons (pe_lc (own := [("row", 3)]) (g := gName 3) (by rfl) scInit.nd (pi_list (pv 1)) (blkOk_by (N := ["self", "rows", "kept", "row"]) (sc := defScope sInit) (by decide +kernel))
            (fun _ _ _ _ _ => pg_name (i := 3) scInit.nd rfl (Or.inl rfl)) (fun _ _ _ _ _ => pts_nil) (fun _ _ _ _ _ => pe_c c1 hr (by decide) (by rfl) (pa_cons (pv 3) pa_nil))) pa_nil)))))))) pss_never pss_nil)
        (pss_cons (ps_set (i := 2) scInit.nd rfl (.inl rfl) (pe_c c2 hr (by decide) (by rfl) (pa_cons (pv 1) pa_nil)))
        (pss_cons (ps_if (pt_not (pt_val (pe_c c3 hr (by decide) (by rfl) (pa_cons (pv 2) pa_nil)))) pss_never pss_nil)
        (pss_one (ps_fld (pv 0) (pe_callTy call_tuple_of (by rfl) T.tuple boot_tuple (pa_cons (pe_sortedKey c4 (hr.mono (by decide)) (by rfl) T.sorted (by rfl) (pa_cons (pv 2) pa_nil)) pa_nil)) (by rfl))))), ?_⟩
      refine ⟨_, rfl, by show 2 ≤ sizeLine; decide, fun p2 np => ?_⟩
      have s1 : Same H _ := same_upd (o := .tup [.ty "list", .ty "tuple"]) np
      have hp1 := s1 _ _ hp
      refine ⟨.ref p, p2, _, _, _, true, rfl, upd_same, cls_lt, .base (.lst hp1), kit_lt_list, true, rfl, iteF ?_⟩
      refine ⟨_, rfl, p, us, rfl, .inl (SqL.of hp1), _, _, rfl, rfl, _, rfl, ?_⟩
      have e1 : decide ((1000 : Int) < (us.length : Nat)) = false := decide_eq_false (by omega)
      refine iteN e1 ?_
      refine ⟨_, rfl, p, rfl, ⟨_, SqL.of hp1⟩, fun D nD => ?_⟩
      refine lc_list (K := K) (a := p) (xs := us) (fun i H' => Same H H' ∧ H' D = some (.lst (List.replicate i (V.bl true)))) ⟨s1.trans (same_upd nD), upd_same⟩ (fun i H' _ ⟨sm, _⟩ => SqL.of (sm _ _ hp)) ?_ ?_
      · intro i x H' hi hP
        refine ⟨rfl, ?_⟩
        unfold tYes
        exact iteT ⟨_, rfl, turn i x H' D (s1.free nD) hi hP⟩
      · rintro H1 ⟨sm, hD⟩
        refine ⟨D, List.replicate us.length true, rfl, SqL.of (by rw [hD, List.map_replicate]), true, ?_, iteF (rest H1 sm)⟩
        rw [rep_all]
    · refine ⟨_, pss_cons (ps_if (PW.pt (pw_or (pt_not (pt_val (pe_callB call_isiT (by rfl) T.isinstance boot_isinstance (pa_cons (pv 1) (pa_cons (pe_tup (pa_cons (pe_bltn (v := .ty "list") (by rfl) T.list boot_list rfl) (pa_cons (pe_bltn (v := .ty "tuple") (by rfl) T.tuple boot_tuple rfl) pa_nil))) pa_nil)))))
          (pw_or (pt_cmpR op_gt (pe_callB call_len_seq (by rfl) T.len PySem.boot_len (pa_cons (pv 1) pa_nil)) (pe_glob (v := .int 1000) (by rfl) hM ⟨_, rfl⟩) (nomark _))
          (pw_or1 (pt_not (pt_val (pe_callB (cr_all (by rfl)) (by rfl) T.all boot_all (pa_cons (pe_lc (own := [("row", 3)]) (g := gName 3) (by rfl) scInit.nd (pi_tup (pv 1)) (blkOk_by (N := ["self", "rows", "kept", "row"]) (sc := defScope sInit) (by decide +kernel))
            (fun _ _ _ _ _ => pg_name (i := 3) scInit.nd rfl (Or.inl rfl)) (fun _ _ _ _ _ => pts_nil) (fun _ _ _ _ _ => pe_c c1 hr (by decide) (by rfl) (pa_cons (pv 3) pa_nil))) pa_nil)))))))) pss_never pss_nil)
        (pss_cons (ps_set (i := 2) scInit.nd rfl (.inl rfl) (pe_c c2 hr (by decide) (by rfl) (pa_cons (pv 1) pa_nil)))
        (pss_cons (ps_if (pt_not (pt_val (pe_c c3 hr (by decide) (by rfl) (pa_cons (pv 2) pa_nil)))) pss_never pss_nil)
        (pss_one (ps_fld (pv 0) (pe_callTy call_tuple_of (by rfl) T.tuple boot_tuple (pa_cons (pe_sortedKey c4 (hr.mono (by decide)) (by rfl) T.sorted (by rfl) (pa_cons (pv 2) pa_nil)) pa_nil)) (by rfl))))), ?_⟩
      refine ⟨_, rfl, by show 2 ≤ sizeLine; decide, fun p2 np => ?_⟩
      have s1 : Same H _ := same_upd (o := .tup [.ty "list", .ty "tuple"]) np
      have hp1 := s1 _ _ hp
      refine ⟨.ref p, p2, _, _, _, true, rfl, upd_same, cls_lt, .base (.tup hp1), kit_lt_tuple, true, rfl, iteF ?_⟩
      refine ⟨_, rfl, p, us, rfl, .inr (SqT.of hp1), _, _, rfl, rfl, _, rfl, ?_⟩
      have e1 : decide ((1000 : Int) < (us.length : Nat)) = false := decide_eq_false (by omega)
      refine iteN e1 ?_
      refine ⟨_, rfl, p, rfl, ⟨_, SqT.of hp1⟩, fun D nD => ?_⟩
      refine lc_tup (K := K) (a := p) (xs := us) (fun i H' => Same H H' ∧ H' D = some (.lst (List.replicate i (V.bl true)))) ⟨s1.trans (same_upd nD), upd_same⟩ (fun i H' _ ⟨sm, _⟩ => SqT.of (sm _ _ hp)) ?_ ?_
      · intro i x H' hi hP
        refine ⟨rfl, ?_⟩
        unfold tYes
        exact iteT ⟨_, rfl, turn i x H' D (s1.free nD) hi hP⟩
      · rintro H1 ⟨sm, hD⟩
        refine ⟨D, List.replicate us.length true, rfl, SqL.of (by rw [hD, List.map_replicate]), true, ?_, iteF (rest H1 sm)⟩
        rw [rep_all]
end
end K16
/-! readings for same -/
namespace K16
open PySem PySem.Spec PyProof.Rows L2
theorem keepRow {H2 : Hp} {D : Addr} {zs : List V} (o : HO) (hD : H2 D = some (.lst zs)) {v : V} {r : Rw} (h : RowAt H2 v r) : RowAt (upd H2 D o) v r := by
  obtain ⟨t', e1, e2⟩ := h
  exact ⟨t', e1, by
    rw [upd_ne (fun z => by rw [z, hD] at e2; cases e2)]
    exact e2⟩
theorem same_D {H H2 : Hp} {D : Addr} {o : HO} (nD : H D = none) (s : Same H H2) : Same H (upd H2 D o) := fun b x hb => by
  rw [upd_ne (ne_of_none hb nD)]
  exact s _ _ hb
section
variable {K : PySem.W.Frag} {σ : L2.St} {H : Hp}
/-- a list made from rows, one number a row -/
theorem lc_nums {te : TE} {j i : Nat} {p : Addr} {ws : List V} {rs : List Rw} {f : Rw → Int} {Q : VK} (hσ : σ[j]? = some (some (.ref p))) (hp : H p = some (.lst ws)) (hr : RowsAt H ws rs) (len : rs.length ≤ 2000)
    (hte : ∀ (r : Rw) (x : V) (H' : Hp) (R : VK), r ∈ rs → RowAt H' x r → (∀ H2, Same H' H2 → R (.int (f r)) H2) → te ((wipe σ [i]).set i (some x)) H' R) (hw : ∀ x, wipe ((wipe σ [i]).set i (some x)) [i] = wipe σ [i])
    (k : ∀ D H', Same H H' → H' D = some (.lst ((rs.map f).map V.int)) → Q (.ref D) H') : tLc (iList K (tVar j)) (gName i) tYes te [i] σ H Q := by
  refine ⟨_, hσ, p, rfl, ⟨_, SqL.of hp⟩, fun D nD => ?_⟩
  have hl := pairedLen hr
  refine lc_list (K := K) (a := p) (xs := ws) (fun i H' => Same H H' ∧ H' D = some (.lst (((rs.take i).map f).map V.int))) ⟨same_upd nD, upd_same⟩ (fun i H' _ ⟨s1, _⟩ => SqL.of (s1 _ _ hp)) ?_ ?_
  · rintro n x H' hx ⟨s1, hD⟩
    obtain ⟨r, hr', q⟩ := pairedGet hr hx
    refine ⟨hw x, ?_⟩
    unfold tYes
    refine iteT (hte r x H' _ (List.mem_of_getElem? hr') (q.same s1) fun H2 s2 => ⟨_, s2 _ _ hD, ?_, same_D nD (s1.trans s2), ?_⟩)
    · rw [List.length_map, List.length_map, List.length_take]
      exact small1m (by omega)
    · rw [upd_same, take_snoc hr', List.map_append, List.map_append]; rfl
  · rintro H' ⟨s1, hD⟩
    rw [hl, List.take_length] at hD
    exact k D H' s1 hD
theorem sum_nums {te : TE} {j i : Nat} {p : Addr} {ws : List V} {rs : List Rw} {f : Rw → Int} {Q : VK} (hσ : σ[j]? = some (some (.ref p))) (hp : H p = some (.lst ws)) (hr : RowsAt H ws rs) (len : rs.length ≤ 2000)
    (hte : ∀ (r : Rw) (x : V) (H' : Hp) (R : VK), r ∈ rs → RowAt H' x r → (∀ H2, Same H' H2 → R (.int (f r)) H2) → te ((wipe σ [i]).set i (some x)) H' R) (hw : ∀ x, wipe ((wipe σ [i]).set i (some x)) [i] = wipe σ [i])
    (k : ∀ H', Same H H' → Q (.int (rs.map f).sum) H') : tCB (rSum K) (tCons (tLc (iList K (tVar j)) (gName i) tYes te [i]) tNil) σ H Q :=
  lc_nums (Q := fun v H' => tNil σ H' fun vs H2 => rSum K (v :: vs) H2 Q) hσ hp hr len hte hw fun D H' s1 hD => ⟨D, _, rfl, SqL.of hD, k H' s1⟩
theorem endsOf_eq (r : Rw) : [r.f, r.l].filterMap id = endsOf r := by
  unfold endsOf
  cases r.f <;> cases r.l <;> rfl
theorem endsOf_len (r : Rw) : (endsOf r).length ≤ 2 := by
  unfold endsOf
  cases r.f <;> cases r.l <;> simp
theorem flatMap_len {α : Type} {g : α → List Int} {m : Nat} : ∀ {l : List α}, (∀ a ∈ l, (g a).length ≤ m) → (l.flatMap g).length ≤ l.length * m
  | [], _ => by simp
  | a :: l, h => by
    rw [List.flatMap_cons, List.length_append, List.length_cons, Nat.succ_mul]
    have h1 := h a (by simp)
    have h2 := flatMap_len (l := l) (fun b hb => h b (by simp [hb]))
    omega
/-- the ends of rows -/
theorem lc_ends {p : Addr} {ws : List V} {rs : List Rw} {Q : VK} {j i i2 : Nat} (hσ : σ[j]? = some (some (.ref p))) (hp : H p = some (.lst ws)) (hr : RowsAt H ws rs) (len : rs.length ≤ 2000) (vs : List Nat)
    (hw : ∀ x, wipe ((wipe σ vs).set i (some x)) vs = wipe σ vs) (hw2 : ∀ x y, wipe ((wipe ((wipe σ vs).set i (some x)) [i2]).set i2 (some y)) [i2] = wipe ((wipe σ vs).set i (some x)) [i2]) (h1 : ∀ x, ((wipe σ vs).set i (some x))[i]? = some (some x))
    (h2 : ∀ x y, ((wipe ((wipe σ vs).set i (some x)) [i2]).set i2 (some y))[i2]? = some (some y))
    (k : ∀ D H', Same H H' → H' D = some (.lst ((rs.flatMap endsOf).map V.int)) → Q (.ref D) H') :
    tLc2 (iList K (tVar j)) (gName i) tYes (iTup K (tSl (rSlT K) (tVar i) tNoPart (tPart (tC (.int 2))))) (gName i2) (tB (tNotN (tVar i2))) (tVar i2) vs [i2] σ H Q := by
  refine ⟨_, hσ, p, rfl, ⟨_, SqL.of hp⟩, fun D nD => ?_⟩
  have hl := pairedLen hr
  refine lc2_out (walk_list (xs := ws)) (fun m H8 => Same H H8 ∧ H8 D = some (.lst (((rs.take m).flatMap endsOf).map V.int))) ⟨same_upd nD, upd_same⟩ (fun m H8 _ ⟨s8, _⟩ => SqL.of (s8 _ _ hp)) ?_ ?_
  · rintro m x H8 H9 hm ⟨s8, hD⟩ ⟨rfl, gx⟩
    obtain ⟨r, q1, t, rfl, ht⟩ := pairedGet hr gx
    have ht8 := s8 _ _ ht
    refine ⟨hw _, ?_⟩
    unfold tYes
    refine iteT ⟨_, h1 _, 2, rfl, t, _, rfl, SqT.of ht8, fun z => ?_, fun u nu => ?_⟩
    · have : 2 = 3 := z.2
      omega
    have e2 : cutV (rwV r) none (some 2) = [oV r.f, oV r.l] := rfl
    rw [e2]
    have s9 : Same H9 (upd H9 u (.tup [oV r.f, oV r.l])) := same_upd nu
    have hu : upd H9 u (.tup [oV r.f, oV r.l]) u = some (.tup [oV r.f, oV r.l]) := upd_same
    generalize upd H9 u (.tup [oV r.f, oV r.l]) = H10 at s9 hu ⊢
    refine ⟨u, rfl, ⟨_, SqT.of hu⟩, ?_⟩
    have bl : ((rs.take m).flatMap endsOf).length ≤ 2000 * 2 := by
      have b1 := flatMap_len (l := rs.take m) (g := endsOf) (m := 2) fun r _ => endsOf_len r
      have b2 : (rs.take m).length ≤ 2000 := Nat.le_trans (List.length_take_le' _ _) len
      omega
    have nu' : D ≠ u := ne_of_none hD nu
    refine lc2_in (tt := tB (tNotN (tVar i2))) (g := gName i2) (te := tVar i2) (vs := [i2]) (D := D) (walk_tup (xs := [oV r.f, oV r.l])) (fun n H11 => Same H H11 ∧ H11 u = some (.tup [oV r.f, oV r.l]) ∧ H11 D = some (.lst (((rs.take m).flatMap endsOf ++ ([r.f, r.l].take n).filterMap id).map V.int)))
      ⟨s8.trans s9, hu, by rw [s9 _ _ hD]; simp⟩ (fun n H11 _ ⟨_, h, _⟩ => SqT.of h) ?_ ?_
    · rintro n y H11 H12 hn ⟨s11, hu11, hD11⟩ ⟨rfl, gy⟩
      obtain ⟨o, ho, rfl⟩ : ∃ o : Option Int, [r.f, r.l][n]? = some o ∧ y = oV o := by
        match n, gy with
        | 0, gy => exact ⟨r.f, rfl, (Option.some.inj gy).symm⟩
        | 1, gy => exact ⟨r.l, rfl, (Option.some.inj gy).symm⟩
      refine ⟨hw2 _ _, _, h2 _ _, ?_⟩
      rw [take_snoc ho, List.filterMap_append]
      cases o with
      | none =>
        refine ⟨false, rfl, iteF ⟨s11, hu11, ?_⟩⟩
        rw [hD11]
        simp
      | some z =>
        refine ⟨true, rfl, iteT ⟨_, h2 _ _, _, hD11, ?_, same_D nD s11, ?_, ?_⟩⟩
        · rw [List.length_map, List.length_append]
          have b3 : (([r.f, r.l].take n).filterMap id).length ≤ 2 := Nat.le_trans (List.length_filterMap_le _ _) (Nat.le_trans (List.length_take_le' _ _) (Nat.le_refl _))
          exact small1m (by omega)
        · rw [upd_ne (Ne.symm nu')]
          exact hu11
        · rw [upd_same]
          simp [oV]
    · rintro H11 ⟨s11, hu11, hD11⟩
      refine ⟨s11, ?_⟩
      rw [take_snoc q1, List.flatMap_append, hD11]
      have e3 : ([r.f, r.l].take [oV r.f, oV r.l].length).filterMap id = endsOf r := endsOf_eq r
      rw [e3]
      simp
  · rintro H' ⟨s1, hD⟩
    rw [hl, List.take_length] at hD
    exact k D H' s1 hD
/-- pairs of rows, one number a pair -/
theorem lc_pairs {te : TE} {p p2 : Addr} {ws ws2 : List V} {as bs : List Rw} {f : Rw → Rw → Int} {Q : VK} {j j2 i i2 : Nat} (hσ : σ[j]? = some (some (.ref p))) (hp : H p = some (.lst ws)) (hr : RowsAt H ws as) (hp2 : H p2 = some (.lst ws2)) (hr2 : RowsAt H ws2 bs)
    (la : as.length ≤ 1000) (lb : bs.length ≤ 1000) (vs : List Nat) (hw : ∀ x, wipe ((wipe σ vs).set i (some x)) vs = wipe σ vs) (hw2 : ∀ x y, wipe ((wipe ((wipe σ vs).set i (some x)) [i2]).set i2 (some y)) [i2] = wipe ((wipe σ vs).set i (some x)) [i2])
    (hσ2 : ∀ x, ((wipe σ vs).set i (some x))[j2]? = some (some (.ref p2)))
    (hte : ∀ (a b : Rw) (x y : V) (H' : Hp) (R : VK), a ∈ as → b ∈ bs → RowAt H' x a → RowAt H' y b → (∀ H2, Same H' H2 → R (.int (f a b)) H2) → te ((wipe ((wipe σ vs).set i (some x)) [i2]).set i2 (some y)) H' R)
    (k : ∀ D H', Same H H' → H' D = some (.lst ((as.flatMap fun a => bs.map (f a)).map V.int)) → Q (.ref D) H') :
    tLc2 (iList K (tVar j)) (gName i) tYes (iList K (tVar j2)) (gName i2) tYes te vs [i2] σ H Q := by
  refine ⟨_, hσ, p, rfl, ⟨_, SqL.of hp⟩, fun D nD => ?_⟩
  have hl := pairedLen hr
  have hl2 := pairedLen hr2
  refine lc2_out (walk_list (xs := ws)) (fun m H8 => Same H H8 ∧ H8 D = some (.lst (((as.take m).flatMap fun a => bs.map (f a)).map V.int))) ⟨same_upd nD, upd_same⟩ (fun m H8 _ ⟨s8, _⟩ => SqL.of (s8 _ _ hp)) ?_ ?_
  · rintro m x H8 H9 hm ⟨s8, hD⟩ ⟨rfl, gx⟩
    obtain ⟨a, q1, w1⟩ := pairedGet hr gx
    refine ⟨hw _, ?_⟩
    unfold tYes
    refine iteT ⟨_, hσ2 _, p2, rfl, ⟨_, SqL.of (s8 _ _ hp2)⟩, ?_⟩
    have bl : ((as.take m).flatMap fun a => bs.map (f a)).length ≤ m * 1000 := by
      have b1 := flatMap_len (l := as.take m) (g := fun a => bs.map (f a)) (m := 1000) fun r _ => by rw [List.length_map]; exact lb
      have b2 : (as.take m).length ≤ m := by rw [List.length_take]; exact Nat.min_le_left _ _
      exact Nat.le_trans b1 (Nat.mul_le_mul_right _ b2)
    refine lc2_in (tt := tYes) (g := gName i2) (te := te) (vs := [i2]) (D := D) (walk_list (xs := ws2)) (fun n H11 => Same H H11 ∧ H11 D = some (.lst (((as.take m).flatMap (fun a => bs.map (f a)) ++ (bs.take n).map (f a)).map V.int)))
      ⟨s8, by rw [hD]; simp⟩ (fun n H11 _ ⟨s11, _⟩ => SqL.of (s11 _ _ hp2)) ?_ ?_
    · rintro n y H11 H12 hn ⟨s11, hD11⟩ ⟨rfl, gy⟩
      obtain ⟨b, q2, w2⟩ := pairedGet hr2 gy
      refine ⟨hw2 _ _, ?_⟩
      unfold tYes
      refine iteT (hte a b x y _ _ (List.mem_of_getElem? q1) (List.mem_of_getElem? q2) (w1.same s11) (w2.same s11) fun H13 s13 => ⟨_, s13 _ _ hD11, ?_, same_D nD (s11.trans s13), ?_⟩)
      · rw [List.length_map, List.length_append, List.length_map, List.length_take]
        refine small1m ?_
        have : min n bs.length ≤ 1000 := Nat.le_trans (Nat.min_le_right _ _) lb
        have : m + 1 ≤ 1000 := by omega
        have : m * 1000 + 1000 ≤ 1000000 := by omega
        omega
      · rw [upd_same, take_snoc q2]
        simp
    · rintro H11 ⟨s11, hD11⟩
      refine ⟨s11, ?_⟩
      rw [hl2, List.take_length] at hD11
      rw [take_snoc q1, List.flatMap_append, hD11]
      simp
  · rintro H' ⟨s1, hD⟩
    rw [hl, List.take_length] at hD
    exact k D H' s1 hD
end
end K16
/-! Layout.same -/
namespace K16
open PySem PySem.Spec PyProof.Rows L2
theorem nums_perm {A B : List Rw} (h : A.Perm B) : SameN A B := fun x => by
  unfold Nums
  constructor
  · rintro ⟨r, hr, m⟩; exact ⟨r, h.mem_iff.mp hr, m⟩
  · rintro ⟨r, hr, m⟩; exact ⟨r, h.mem_iff.mpr hr, m⟩
theorem within_s {A : List Rw} (ok : ∀ r ∈ A, StepOk r) {lo hi : Int} : ∀ r ∈ within A lo hi, Fin r ∧ r.s.natAbs < 2 ^ 64 := fun r' hr' => by
  unfold within at hr'
  obtain ⟨r, hr, e⟩ := List.mem_filterMap.mp hr'
  obtain ⟨h1, h2, _⟩ := clip_some (ok r hr).1 e
  exact ⟨h1, by rw [h2]; exact (ok r hr).2⟩
theorem within_len {A : List Rw} {lo hi : Int} : (within A lo hi).length ≤ A.length := List.length_filterMap_le _ _
theorem sum_flat {α : Type} {g : α → List Int} : ∀ {l : List α}, (l.flatMap g).sum = (l.map fun a => (g a).sum).sum
  | [] => rfl
  | a :: l => by
    rw [List.flatMap_cons, List.sum_append, List.map_cons, List.sum_cons, sum_flat (l := l)]
/-! one step of a reading, by its head -/
section
variable {σ : L2.St} {H : Hp} {Q : VK} {D : Ends} {R : List V → Hp → Prop}
theorem go_name {i : Nat} {v : V} {Q : L2.St → Hp → Prop} (h : Q (σ.set i (some v)) H) : gName i v σ H Q := h
theorem go_seq {a b : TS} (h : a { D with nx := b D } σ H) : tSeq a b D σ H := h
theorem go_asg {te : TE} {g : TG} (h : te σ H fun x H1 => g x σ H1 D.nx) : tAsg te g D σ H := h
theorem go_par {i j : Nat} {ta : TA} (h : ta σ H fun vs H1 => ∃ v w, vs = [v, w] ∧ D.nx ((σ.set i (some v)).set j (some w)) H1) : tPar i j ta D σ H := h
theorem go_cons {ta : TE} {tr : TA} (h : ta σ H fun x H1 => tr σ H1 fun xs H2 => R (x :: xs) H2) : tCons ta tr σ H R := h
theorem go_call {sp : Sp} {dvs : List V} {E : XK} {t : TA} (h : t σ H fun vs H1 => sp (vs ++ dvs) H1 Q E) : tCall sp dvs E t σ H Q := h
theorem go_ret {te : TE} (h : te σ H D.rt) : tRet te D σ H := h
theorem go_and {ta tb : TE} (h : ta σ H fun x H1 => ∃ c, x = .bl c ∧ if c = true then tb σ H1 Q else Q (.bl false) H1) : tAndV ta tb σ H Q := h
theorem go_op {r : R2} {ta tb : TE} (h : ta σ H fun x H1 => tb σ H1 fun y H2 => r x y H2 Q) : tOp r ta tb σ H Q := h
theorem go_cb {r : List V → Hp → VK → Prop} {t : TA} (h : t σ H fun vs H1 => r vs H1 Q) : tCB r t σ H Q := h
end
section
variable {P : Program} {w : World} {K : PySem.W.Frag} {mg : Str → Option Value} {base : Heap} {LC lI f : Addr} {fd : FuncData}
def N_same : List Str := ["self", "other", "rows", "ends", "many", "low", "high", "mine", "its", "shared", "row", "end", "one", "another"]
theorem scSame : FnScope N_same ["self", "other"] (defScope sSame) := ⟨rfl, rfl, rfl, by decide +kernel, rfl, by decide +kernel, by decide +kernel⟩
def spSame (LC : Addr) : Sp := fun vs H Q _ => ∃ (a b : Addr) (as bs : List Rw), vs = [.ref a, .ref b] ∧ LayAt LC H a as ∧ LayAt LC H b bs ∧ Good as ∧ Good bs ∧
  ∀ (c : Bool) (H' : Hp), Same H H' → (c = true ↔ SameN as bs) → Q (.bl c) H'
theorem fn_same (T : Bi mg) (L : LayK K mg LC lI) (F : Fun K "same" "Layout.same" sSame f fd) (c1 : Cal P w K mg base 1 "need_layout" (spNeed LC)) (c2 : Cal P w K mg base 1 "lcm_in" (spLcm K)) (c3 : Cal P w K mg base 3 "within" (spWithin K))
    (c4 : Cal P w K mg base 4 "many_shared" spManyShared) (c5 : Cal P w K mg base 1 "many_in" spManyIn) : FnOk P w K mg base L2.CX0 5 f fd ["self", "other"] (spSame LC) := by
  refine F.ok scSame (fun vs H Q E h => ?_) (fun cdv A outer s H vs Q E hr h => ?_)
  · obtain ⟨_, _, _, _, rfl, _⟩ := h
    rfl
  · obtain ⟨a, b, as0, bs0, rfl, ⟨dxa, ta, wa, as, ha, hta, hra, pa⟩, ⟨dxb, tb, wb, bs, hb, htb, hrb, pb⟩, ga, gb, k⟩ := h
    have ga := ga.perm pa
    have gb := gb.perm pb
    have k : ∀ (c : Bool) (H' : Hp), Same H H' → (c = true ↔ SameN as bs) → Q (.bl c) H' := fun c H' s1 hc => k c H' s1 (hc.trans ⟨fun q => ((nums_perm pa).symm.trans q).trans (nums_perm pb), fun q => ((nums_perm pa).trans q).trans (nums_perm pb).symm⟩)
    clear pa pb
    refine ⟨_, pss_cons (ps_expr (pe_c c1 hr (by decide) (by rfl) (pa_cons (pv 1) (pa_cons pe_str pa_nil))))
      (pss_cons (ps_set (i := 2) scSame.nd rfl (.inl rfl) (pe_lst (StX.pa_star (pe_fld (pv 0) (by rfl)) (StX.pa_star (pe_fld (pv 1) (by rfl)) pa_nil))))
      (pss_cons (ps_par (i := 3) (j := 4) (by rfl) scSame.nd rfl rfl (by decide) (by rfl) (by rfl)
        (pa_cons (pe_lc2 (own := [("row", 10), ("end", 11)]) (vs1 := [11]) (wi1 := iTup K (tSl (rSlT K) (tVar 10) tNoPart (tPart (tC (.int 2))))) (g := gName 10) (g1 := gName 11) (by rfl) scSame.nd (pi_list (pv 2)) (blkOk_by (N := N_same) (sc := defScope sSame) (by decide +kernel)) (by decide)
            (fun _ _ _ _ _ => pg_name (i := 10) scSame.nd rfl (Or.inl rfl)) (fun _ _ _ _ _ => pts_nil)
            (fun _ _ _ _ _ => pi_tup (pe_slice sl_tup (pv 10) po_none (po_some pe_int))) (fun _ _ _ _ _ => pg_name (i := 11) scSame.nd rfl (Or.inl rfl)) (fun _ _ _ _ _ => pts_one (pt_cmp (pc_notN (pv 11))))
            (fun _ _ _ _ _ => pv 11))
          (pa_cons (pe_c c2 hr (by decide) (by rfl) (pa_cons (pe_lc (own := [("row", 10)]) (g := gName 10) (by rfl) scSame.nd (pi_list (pv 2)) (blkOk_by (N := N_same) (sc := defScope sSame) (by decide +kernel))
            (fun _ _ _ _ _ => pg_name (i := 10) scSame.nd rfl (Or.inl rfl)) (fun _ _ _ _ _ => pts_nil) (fun _ _ _ _ _ => pe_ix (r := rIxT K) ix_tup (pv 10) pe_int (fun _ _ => rfl))) pa_nil)) pa_nil)) (by rfl))
      (pss_cons (ps_if (pt_cmpR (op_eqN (hu_of hr)) (pv 3) (pe_lst pa_nil) (nomark _)) (pss_one (ps_ret pe_bl)) pss_nil)
      (pss_cons (ps_par (i := 5) (j := 6) (by rfl) scSame.nd rfl rfl (by decide) (by rfl) (by rfl)
        (pa_cons (pe_op op_sub (pe_callB (cr_min (by rfl)) (by rfl) T.min (by decide +kernel) (pa_cons (pv 3) pa_nil)) (pv 4)) (pa_cons (pe_op op_add (pe_callB (cr_max (by rfl)) (by rfl) T.max (by decide +kernel) (pa_cons (pv 3) pa_nil)) (pv 4)) pa_nil)) (by rfl))
      (pss_cons (ps_asg (pe_tup (pa_cons (pe_c c3 hr (by decide) (by rfl) (pa_cons (pe_fld (pv 0) (by rfl)) (pa_cons (pv 5) (pa_cons (pv 6) pa_nil)))) (pa_cons (pe_c c3 hr (by decide) (by rfl) (pa_cons (pe_fld (pv 1) (by rfl)) (pa_cons (pv 5) (pa_cons (pv 6) pa_nil)))) pa_nil)))
        (pg_tup rfl (pgs_cons (pg_name (i := 7) scSame.nd rfl (.inl rfl)) (pgs_cons (pg_name (i := 8) scSame.nd rfl (.inr rfl)) pgs_nil))))
      (pss_cons (ps_set (i := 9) scSame.nd rfl (.inl rfl) (pe_callB (cr_sum (by rfl)) (by rfl) T.sum (by decide +kernel) (pa_cons (pe_lc2 (own := [("one", 12), ("another", 13)]) (vs1 := [13]) (wi1 := iList K (tVar 8)) (g := gName 12) (g1 := gName 13) (by rfl) scSame.nd (pi_list (pv 7)) (blkOk_by (N := N_same) (sc := defScope sSame) (by decide +kernel)) (by decide)
            (fun _ _ _ _ _ => pg_name (i := 12) scSame.nd rfl (Or.inl rfl)) (fun _ _ _ _ _ => pts_nil)
            (fun _ _ _ _ _ => pi_list (pv 8)) (fun _ _ _ _ _ => pg_name (i := 13) scSame.nd rfl (Or.inl rfl)) (fun _ _ _ _ _ => pts_nil)
            (fun _ _ _ _ _ => pe_c c4 hr (by decide) (by rfl) (pa_cons (pv 12) (pa_cons (pv 13) pa_nil)))) pa_nil)))
      (pss_one (ps_ret (pe_and (pe_cmpR op_eq (pe_callB (cr_sum (by rfl)) (by rfl) T.sum (by decide +kernel) (pa_cons (pe_lc (own := [("row", 10)]) (g := gName 10) (by rfl) scSame.nd (pi_list (pv 7)) (blkOk_by (N := N_same) (sc := defScope sSame) (by decide +kernel))
            (fun _ _ _ _ _ => pg_name (i := 10) scSame.nd rfl (Or.inl rfl)) (fun _ _ _ _ _ => pts_nil) (fun _ _ _ _ _ => pe_c c5 hr (by decide) (by rfl) (pa_cons (pv 10) pa_nil))) pa_nil)) (pv 9) (nomark _))
          (pe_one (pe_cmpR op_eq (pe_callB (cr_sum (by rfl)) (by rfl) T.sum (by decide +kernel) (pa_cons (pe_lc (own := [("row", 10)]) (g := gName 10) (by rfl) scSame.nd (pi_list (pv 8)) (blkOk_by (N := N_same) (sc := defScope sSame) (by decide +kernel))
            (fun _ _ _ _ _ => pg_name (i := 10) scSame.nd rfl (Or.inl rfl)) (fun _ _ _ _ _ => pts_nil) (fun _ _ _ _ _ => pe_c c5 hr (by decide) (by rfl) (pa_cons (pv 10) pa_nil))) pa_nil)) (pv 9) (nomark _)))))))))))), ?_⟩
    have la := pairedLen hra
    have lb := pairedLen hrb
    have okR : ∀ r ∈ as ++ bs, StepOk r := fun r hr => (List.mem_append.mp hr).elim (ga.1 r) (gb.1 r)
    have lR : (as ++ bs).length ≤ 2000 := by
      have := ga.2.1
      have := gb.2.1
      rw [List.length_append]; omega
    refine ⟨_, rfl, b, .str "other", rfl, ⟨dxb, _, hb⟩, ?_⟩
    refine ⟨_, rfl, a, LC, dxa, _, _, rfl, ha, L.cls, L.nR, rfl, ta, wa, rfl, .inl (SqT.of hta), _, rfl, b, LC, dxb, _, _, rfl, hb, L.cls, L.nR, rfl, tb, wb, rfl, .inl (SqT.of htb), ?_⟩
    refine ⟨by show (wa ++ (wb ++ [])).length ≤ sizeLine; rw [List.append_nil, List.length_append]; rw [List.length_append] at lR; exact Nat.le_of_lt (small1m (by omega)), fun p np => ?_⟩
    have s1 : Same H (upd H p (.lst (wa ++ (wb ++ [])))) := same_upd np
    have hp : upd H p (.lst (wa ++ (wb ++ []))) p = some (.lst (wa ++ wb)) := by rw [List.append_nil]; exact upd_same
    generalize upd H p (.lst (wa ++ (wb ++ []))) = H1 at s1 hp ⊢
    have hrR : RowsAt H1 (wa ++ wb) (as ++ bs) := pairedApp (hra.same s1) (hrb.same s1)
    refine go_name ?_
    dsimp only
    refine go_seq ?_
    refine go_par ?_
    refine go_cons ?_
    refine lc_ends (σ := [some (.ref a), some (.ref b), some (.ref p), none, none, none, none, none, none, none, none, none, none, none]) (j := 2) (i := 10) (i2 := 11) rfl hp hrR lR [10, 11] (fun _ => rfl) (fun _ _ => rfl) (fun _ => rfl) (fun _ _ => rfl) fun D1 H2 s2 hD1 => ?_
    refine go_cons ?_
    refine go_call ?_
    refine go_cons ?_
    refine lc_nums (σ := [some (.ref a), some (.ref b), some (.ref p), none, none, none, none, none, none, none, none, none, none, none]) (j := 2) (i := 10) (f := fun r => r.s) rfl (s2 _ _ hp) (hrR.same s2) lR (fun r x H' R hm hx kk => ?_) (fun _ => rfl) fun D2 H3 s3 hD2 => ?_
    · obtain ⟨t, rfl, ht⟩ := hx
      exact ⟨_, rfl, t, _, _, _, rfl, rfl, SqT.of ht, atI_nat (j := 2) rfl, kk H' (Same.refl _)⟩
    have posR : ∀ n ∈ (as ++ bs).map fun r => r.s, 0 < n ∧ n.natAbs < 2 ^ 64 := fun n hn => by
      obtain ⟨r, hr, rfl⟩ := List.mem_map.mp hn
      exact ⟨(okR r hr).1.1, (okR r hr).2⟩
    refine ⟨D2, (as ++ bs).map (fun r => r.s), rfl, SqL.of hD2, by rw [List.length_map]; exact lR, posR, _, _, rfl, ?_⟩
    have dvR : ∀ r ∈ as ++ bs, r.s ∣ lcmL ((as ++ bs).map fun r => r.s) := fun r hr => lcmL_dvd (fun n hn => (posR n hn).1) _ (List.mem_map.mpr ⟨r, hr, rfl⟩)
    have posM := lcmL_pos fun n hn => (posR n hn).1
    generalize lcmL ((as ++ bs).map fun r => r.s) = M at dvR posM ⊢
    have hD1' := s3 _ _ hD1
    refine ⟨_, rfl, Nat.zero_le _, fun q nq => ?_⟩
    have s4 : Same H3 (upd H3 q (.lst [])) := same_upd nq
    have hq : upd H3 q (.lst []) q = some (.lst []) := upd_same
    generalize upd H3 q (.lst []) = H4 at s4 hq ⊢
    have s14 := s1.trans (s2.trans (s3.trans s4))
    refine ⟨D1, q, _, rfl, rfl, SqL.of (s4 _ _ hD1'), SqL.of hq, _, rfl, ?_⟩
    have fe : ∀ r ∈ as ++ bs, ∃ z, z ∈ endsOf r := fun r hr => by
      unfold endsOf
      rcases (okR r hr).1.2.1 with h | h
      · obtain ⟨z, e⟩ := Option.ne_none_iff_exists'.mp h
        exact ⟨z, by rw [e]; simp⟩
      · obtain ⟨z, e⟩ := Option.ne_none_iff_exists'.mp h
        exact ⟨z, by rw [e]; simp⟩
    by_cases hz : (as ++ bs).flatMap endsOf = []
    · have e0 : as ++ bs = [] := by
        cases h0 : as ++ bs with
        | nil => rfl
        | cons r t =>
          obtain ⟨z, hz'⟩ := fe r (by rw [h0]; simp)
          have : z ∈ (as ++ bs).flatMap endsOf := List.mem_flatMap.mpr ⟨r, by rw [h0]; simp, hz'⟩
          rw [hz] at this
          simp at this
      obtain ⟨ea, eb⟩ := List.append_eq_nil_iff.mp e0
      rw [hz]
      refine iteT (k true H4 s14 ⟨fun _ => by rw [ea, eb]; exact SameN.refl _, fun _ => rfl⟩)
    · have hne : ((as ++ bs).flatMap endsOf).map V.int ≠ [] := fun h => hz (by simpa using h)
      refine iteN (List.isEmpty_eq_false_iff.mpr hne) ?_
      have npos : 0 < ((as ++ bs).flatMap endsOf).length := List.length_pos_iff.mpr hz
      have hD4 := s4 _ _ hD1'
      refine ⟨_, rfl, D1, _, rfl, SqL.of hD4, npos, fun mn mn1 mn2 => ⟨_, rfl, _, _, rfl, rfl, ?_⟩⟩
      refine ⟨_, rfl, D1, _, rfl, SqL.of hD4, npos, fun mx mx1 mx2 => ⟨_, rfl, _, _, rfl, rfl, _, _, rfl, ?_⟩⟩
      have inR : ∀ r ∈ as ++ bs, ∀ z ∈ endsOf r, mn ≤ z ∧ z ≤ mx := fun r hr z hz' => by
        have : z ∈ (as ++ bs).flatMap endsOf := List.mem_flatMap.mpr ⟨r, hr, hz'⟩
        exact ⟨mn2 z this, mx2 z this⟩
      have law := same_law (fun r hr => (ga.1 r hr).1) (fun r hr => (gb.1 r hr).1) ga.2.2 gb.2.2 posM (mn2 mx mx1) dvR inR
      refine ⟨_, rfl, a, LC, dxa, _, _, rfl, s14 _ _ ha, L.cls, L.nR, rfl, _, rfl, _, rfl, ta, wa, as, mn - M, mx + M, rfl, SqT.of (s14 _ _ hta), hra.same s14, fun r hr => (ga.1 r hr).1, ga.2.1, fun p5 w5 H5 s5 hp5 hr5 => ?_⟩
      have s15 := s14.trans s5
      refine ⟨_, rfl, b, LC, dxb, _, _, rfl, s15 _ _ hb, L.cls, L.nR, rfl, _, rfl, _, rfl, tb, wb, bs, mn - M, mx + M, rfl, SqT.of (s15 _ _ htb), hrb.same s15, fun r hr => (gb.1 r hr).1, gb.2.1, fun p6 w6 H6 s6 hp6 hr6 => ?_⟩
      refine ⟨by show 2 ≤ sizeLine; decide, fun p7 np7 => ?_⟩
      have s7 : Same H6 (upd H6 p7 (.tup [.ref p5, .ref p6])) := same_upd np7
      have hp7 : upd H6 p7 (.tup [.ref p5, .ref p6]) p7 = some (.tup [.ref p5, .ref p6]) := upd_same
      generalize upd H6 p7 (.tup [.ref p5, .ref p6]) = H7 at s7 hp7 ⊢
      refine ⟨p7, _, rfl, SqT.of hp7, rfl, _, _, rfl, _, _, rfl, rfl, ?_⟩
      have s17 := s15.trans (s6.trans s7)
      have hp5' := s7 _ _ (s6 _ _ hp5)
      have hr5' := (hr5.same s6).same s7
      have hp6' := s7 _ _ hp6
      have hr6' := hr6.same s7
      have fA := within_s (lo := mn - M) (hi := mx + M) ga.1
      have fB := within_s (lo := mn - M) (hi := mx + M) gb.1
      have lA := Nat.le_trans (within_len (A := as) (lo := mn - M) (hi := mx + M)) ga.2.1
      have lB := Nat.le_trans (within_len (A := bs) (lo := mn - M) (hi := mx + M)) gb.2.1
      generalize within as (mn - M) (mx + M) = A' at hr5' fA lA law ⊢
      generalize within bs (mn - M) (mx + M) = B' at hr6' fB lB law ⊢
      dsimp only
      refine go_seq ?_
      refine go_asg ?_
      refine go_cb ?_
      refine go_cons ?_
      refine lc_pairs (σ := [some (.ref a), some (.ref b), some (.ref p), some (.ref D1), some (.int M), some (.int (mn - M)), some (.int (mx + M)), some (.ref p5), some (.ref p6), none, none, none, none, none]) (j := 7) (i := 12) (j2 := 8) (i2 := 13) (f := cntS) rfl hp5' hr5' hp6' hr6' lA lB [12, 13] (fun _ => rfl) (fun _ _ => rfl) (fun _ => rfl) (fun x y v1 v2 H' R hx hy h1 h2 kk => ?_) fun D8 H8 s8 hD8 => ?_
      · exact ⟨_, rfl, _, rfl, v1, v2, x, y, rfl, h1, h2, (fA x hx).1, (fB y hy).1, (fA x hx).2, (fB y hy).2, kk⟩
      refine ⟨D8, _, rfl, SqL.of hD8, ?_⟩
      rw [sum_flat]
      dsimp only at law
      generalize (A'.map fun a => (B'.map fun b => cntS a b).sum).sum = sh at law ⊢
      have many : ∀ (rs : List Rw), (∀ r ∈ rs, Fin r ∧ r.s.natAbs < 2 ^ 64) → ∀ (σ : L2.St) (r : Rw) (x : V) (H' : Hp) (R : VK), r ∈ rs → RowAt H' x r → (∀ H2, Same H' H2 → R (.int (manyIn r)) H2) → σ[10]? = some (some x) → tCall spManyIn [] E0 (tCons (tVar 10) tNil) σ H' R :=
        fun rs hf σ r x H' R hm hx kk hσ => ⟨_, hσ, x, r, rfl, hx, (hf r hm).1, (hf r hm).2, kk H' (Same.refl _)⟩
      refine go_name ?_
      dsimp only
      refine go_ret ?_
      refine go_and ?_
      refine go_op ?_
      refine sum_nums (σ := [some (.ref a), some (.ref b), some (.ref p), some (.ref D1), some (.int M), some (.int (mn - M)), some (.int (mx + M)), some (.ref p5), some (.ref p6), some (.int sh), none, none, none, none]) (j := 7) (i := 10) (f := manyIn) rfl (s8 _ _ hp5') (hr5'.same s8) (by omega) (fun r x H' R hm hx kk => many A' fA _ r x H' R hm hx kk rfl) (fun _ => rfl) fun H9 s9 => ?_
      refine ⟨_, rfl, rfl, _, rfl, ?_⟩
      by_cases e1 : (A'.map manyIn).sum = sh
      · refine iteB (decide_eq_true (congrArg V.int e1)) ?_
        refine go_op ?_
        refine sum_nums (σ := [some (.ref a), some (.ref b), some (.ref p), some (.ref D1), some (.int M), some (.int (mn - M)), some (.int (mx + M)), some (.ref p5), some (.ref p6), some (.int sh), none, none, none, none]) (j := 8) (i := 10) (f := manyIn) rfl (s9 _ _ (s8 _ _ hp6')) ((hr6'.same s8).same s9) (by omega) (fun r x H' R hm hx kk => many B' fB _ r x H' R hm hx kk rfl) (fun _ => rfl) fun H10 s10 => ?_
        refine ⟨_, rfl, rfl, ?_⟩
        refine k _ H10 (s17.trans (s8.trans (s9.trans s10))) ?_
        rw [decide_eq_true_iff, ← law]
        exact ⟨fun q => ⟨e1, V.int.inj q⟩, fun q => congrArg V.int q.2⟩
      · refine iteN (decide_eq_false fun z => e1 (V.int.inj z)) ?_
        refine k false H9 (s17.trans (s8.trans s9)) ?_
        rw [← law]
        exact ⟨fun z => (nomatch z), fun z => (e1 z.1).elim⟩
end
end K16
/-! same that raises; try with a first clause that names the exception and takes it -/
namespace K16
open PySem PySem.Spec PyProof.Rows L2
section
variable {P : Program} {w : World} {K : PySem.W.Frag} {mg : Str → Option Value} {base : Heap} {C fI LC lI f : Addr} {fd : FuncData}
def spSameX (C : Addr) (K : PySem.W.Frag) : Sp := fun vs H _ E => ∃ (u v : V), vs = [u, v] ∧ NotL K H v ∧ ∀ (d : Addr) (H' : Hp), Same H H' → H' d = some (.xd [("part", .str "other")]) → E (.ref C) (some d) H'
theorem fn_sameX (F : Fun K "same" "Layout.same" sSame f fd) (c1 : CalX P w K mg base 3 "need_layout" (spNeedX C K)) : FnOk P w K mg base (L2.CX P w) 4 f fd ["self", "other"] (spSameX C K) := by
  refine F.okX scSame (fun vs H Q E h => ?_) (fun cdv A outer s H vs Q E hr h => ?_)
  · obtain ⟨_, _, rfl, _⟩ := h
    rfl
  · obtain ⟨u, v, rfl, hn, k⟩ := h
    obtain ⟨g, gd, ps, G, hm, kp, b⟩ := c1.ex
    exact ⟨_, pss_cons (ps_expr (pe_callS G hr (by rfl) hm kp b (fun σ => passAt (takes_of rfl rfl rfl rfl) σ) (pa_cons (pv 1) (pa_cons pe_str pa_nil)))) pss_never, _, rfl, v, _, rfl, hn, k⟩
end
/-- what the clause wishes of an exception: it takes it -/
def wTake (K : PySem.W.Frag) (c : Value) (i : Nat) (ts : Addr → Value → Option Addr → TS) (D : Ends) : WX := fun cls d σ H =>
  PySem.W.exmOne K cls c = some true ∧ ∀ a, H a = none → ts a cls d { nx := fun σ' H' => D.nx (σ'.set i none) H', rt := D.rt, bk := fun σ' H' => D.bk (σ'.set i none) H', ct := fun σ' H' => D.ct (σ'.set i none) H' } (σ.set i (some (.ref a))) H
section
variable {X : Cx} {x n : Str} {c : Value} {i : Nat} {body suite : List Stmt} {b1 : Stmt} {np pos pos' : Pos} {more : List ExceptHandler} {tb : WX → TS} {ts : Addr → Value → Option Addr → TS}
theorem ps_try_take (hs : X.stack = X.env :: X.outer) (hf : X.env.frame = some X.env.locals) (hN : X.N.Nodup) (hi : X.N[i]? = some n) (hln : X.env.kindOf n = some .local) (hc : Names X x c)
    (hb : ∀ (W : WX) (pn : List (Addr × Obj)) (xe : Value → Shared → Prop), Takes (X.tr pn xe) W → PassesOwn (model X.prog X.w) X.A X.env xe → PSs (X.tr pn xe) body (tb W))
    (hsu : ∀ (a : Addr) (oe : Obj) (cls : Value) (d : Option Addr) (pn : List (Addr × Obj)), Zc cls d oe → (∃ vs, oe.data = .fields vs) → PSs (X.suite a ((a, oe) :: pn)) (b1 :: suite) (ts a cls d)) :
    PS X (.Try body (.ExceptHandler (some (.Name x np)) (some n) (b1 :: suite) pos' :: more) [] [] pos) (fun D σ H => tb (wTake X.K c i ts D) D σ H) := by
  constructor
  intro pins s σ H D I h
  have ok := I.ok
  have fr : X.A.frames = some (X.env :: X.outer) := by rw [ok.frames, hs]
  -- an exception that leaves the body comes to the clause
  have catch_ : ∀ u s', XE (X.tr (X.pn ++ pins) fun e s1 => wpAny (model X.prog X.w) X.A (noteFrame e X.env) (fun _ s2 => wpAny (model X.prog X.w) X.A (setFlight e none) (fun _ s3 =>
      wpAny (model X.prog X.w) X.A (handleBy e X.env (.ExceptHandler (some (.Name x np)) (some n) (b1 :: suite) pos' :: more)) (SP X pins D) X.xe s3) X.xe s2) X.xe s1) (wTake X.K c i ts D) u s' →
      wpAny (model X.prog X.w) X.A (noteFrame u X.env) (fun _ s2 => wpAny (model X.prog X.w) X.A (setFlight u none) (fun _ s3 =>
      wpAny (model X.prog X.w) X.A (handleBy u X.env (.ExceptHandler (some (.Name x np)) (some n) (b1 :: suite) pos' :: more)) (SP X pins D) X.xe s3) X.xe s2) X.xe s' := by
    rintro u s' ⟨a, B, sI, pins', σ', H', cls, d, rfl, J', nb, up, sky, na, os, ag, takes, go⟩
    have J : Inv X pins σ' H' sI := J'.ofTry ok
    have sky' : Sky B (X.env :: X.outer) a (Zc cls d) X.env.locals s'.heap := hs ▸ sky
    refine Sky.land Zc.steady fr hf sky' fun h3 fl3 up3 => ?_
    have J3 : Inv X pins σ' H' { s' with heap := h3 } := J.landed nb fl3.1 (up.trans up3) os ag
    obtain ⟨oe, vs, at3, z3, f3⟩ := fl3.there
    have off : a ∉ frs (X.env :: X.outer) := fun hm => by
      obtain ⟨_, o, e, hnf⟩ := fl3.2.2.1.mem hm
      rw [at3] at e
      cases e
      exact hnf _ f3
    have nL : a ≠ X.env.locals := fun z => off (List.mem_filterMap.mpr ⟨X.env, List.mem_cons_self, z ▸ hf⟩)
    have nF : a ∉ X.fs := fun hm => by
      obtain ⟨e, he, q⟩ := List.mem_filterMap.mp hm
      exact off (List.mem_filterMap.mpr ⟨e, List.mem_cons_of_mem _ he, q⟩)
    have S3 := J3.suite at3 f3 na nL nF
    have ty3 : PySem.W.Looks (model X.prog X.w) h3 (typeOf (.ref a)) cls := fun A Q E s k q => wpAny_typeOf_ref (k _ _ at3) (by rw [z3.1]; exact q)
    refine wpAny_handleBy_cons (codeAny_handlers_test ?_) (fun z => by cases z)
    -- the class is looked up, it matches
    have test : ∀ {Q E : Value → Shared → Prop}, Q c { s' with heap := h3 } → wpAny (model X.prog X.w) (X.A.mark (some (.ref a))) (eval (.Name x np) X.env) Q E { s' with heap := h3 } := fun {Q E} q => by
      obtain ⟨gl, db, m | ⟨m, bt, nn⟩⟩ := hc
      · exact ld_glob S3 gl m q db
      · exact ld_blt S3 gl m bt q nn db
    refine test ((PySem.W.exm_one (M := model X.prog X.w) J3.kIn ty3 takes).here (codeAny_handlers_suite_as ?_))
    refine HandSPX.lands_againZ fl3 fun h4 fl4 up4 => ?_
    have J4 : Inv X pins σ' H' { s' with heap := h4 } := J.landed nb fl4.1 ((up.trans up3).trans up4) os ag
    obtain ⟨oe4, vs4, at4, z4, f4⟩ := fl4.there
    refine store_ok (X := X.suite a ((a, oe4) :: (X.pn ++ pins))) (v := .ref a) (J4.suite at4 f4 na nL nF) hN hi (.inl hln) rfl (fun s5 S5 => ?_) (.inr hln)
    refine wpAny_mono ((hsu a oe4 cls d (X.pn ++ pins) z4 ⟨_, f4⟩).run [] s5 _ H' _ S5 (go a na)) (fun fl s6 q => ?_) (fun _ _ z => z.elim)
    have off_ : ∀ {σ6 : L2.St} {H6 : Hp} {R : Shared → Prop}, Inv (X.suite a ((a, oe4) :: (X.pn ++ pins))) [] σ6 H6 s6 → (∀ s7, Inv X pins (σ6.set i none) H6 s7 → R s7) →
        wpAny (model X.prog X.w) X.A (do bindName X.env n .none; unbindBehindTheSuite X.env n pos') (fun _ s7 => R s7) X.xe s6 := fun S6 hq => gone_ok (S6.unsuite ok) hN hi hln hq
    cases fl with
    | ret u =>
      obtain ⟨v6, σ6, H6, S6, r6, q6⟩ := q
      exact off_ S6 fun s7 J7 => ⟨_, _, _, J7, r6, q6⟩
    | next => obtain ⟨σ6, H6, S6, q6⟩ := q; exact off_ S6 fun s7 J7 => ⟨_, _, J7, q6⟩
    | brk => obtain ⟨σ6, H6, S6, q6⟩ := q; exact off_ S6 fun s7 J7 => ⟨_, _, J7, q6⟩
    | cont => obtain ⟨σ6, H6, S6, q6⟩ := q; exact off_ S6 fun s7 J7 => ⟨_, _, J7, q6⟩
  refine wpAny_Try_except (wpAny_mono ((hb (wTake X.K c i ts D) (X.pn ++ pins) _ catch_ PassesOwn.looking).run [] s σ H D (I.toTry _) h) (fun fl s1 q => ?_) (fun e s1 he => he))
  cases fl with
  | next => obtain ⟨σ', H', J', q⟩ := q; exact wpAny_execs_nil ⟨σ', H', J'.ofTry ok, q⟩
  | brk => obtain ⟨σ', H', J', q⟩ := q; exact ⟨σ', H', J'.ofTry ok, q⟩
  | cont => obtain ⟨σ', H', J', q⟩ := q; exact ⟨σ', H', J'.ofTry ok, q⟩
  | ret u => obtain ⟨v, σ', H', J', r, q⟩ := q; exact ⟨v, σ', H', J'.ofTry ok, r, q⟩
end
end K16
/-! odd_one -/
namespace K16
open PySem PySem.Spec PyProof.Rows L2
/-- o.m(e, ..) whose exceptions are wished for at the caller's slots -/
def tMethS (C : Addr) (m : Str) (sp : Sp) (E : L2.St → XK) (ta : TE) (t : TA) : TE := fun σ H Q => ta σ H fun x H1 => ∃ a dx fs, x = .ref a ∧ H1 a = some (.ins C dx fs) ∧ fs.lookup m = none ∧ t σ H1 fun vs H2 => sp (x :: vs) H2 Q (E σ)
section
variable {X : Cx} {CXx : CXT} {k : Nat} {f C : Addr} {fd : FuncData} {ps : List Str} {sp : Sp} {E : L2.St → XK} {m : Str} {p pos apos : Pos} {e o : Expr} {es : List Expr} {ta : TE} {t : TA}
theorem pe_methS {pl : Sem Bool} (he : PE X o ta) (c : Cls X.K C) (hm : Meth X.K C m f) (F : FnOk X.prog X.w X.K X.mg X.base CXx k f fd ps sp) (hr : Room k X.A) (hb : Binds X.K fd ps []) (hx : ∀ σ, PassesAt CXx X σ (E σ)) (ha : PA X (e :: es) t)
    (hst : starEach (e :: es) X.env = (false, eval e X.env) :: starEach es X.env := by rfl) (hpl : (backTo pos (starEach es X.env)).any (·.1) = false := by rfl)
    (ht : eval (.Call (.Attribute o m apos) (e :: es) [] pos) X.env = (do
      let ov ← eval o X.env
      standAt apos.atName
      let (f, first) ← holding [ov] (getMethod ov m pl)
      callWith pos f first (backTo pos (starEach (e :: es) X.env)) (backToKw pos (keywordEach [] X.env))) := by rfl) :
    PE X (.Call (.Attribute o m apos) (e :: es) [] pos) (tMethS C m sp E ta t) := by
  constructor
  intro pins s σ H Q I h
  refine PySem.W.methodCall_KW (pl := pl) (thn (he.run pins s σ H _ I h) fun u s1 hh => ?_) ht
  obtain ⟨x, H1, I1, rx, a, dx, fs, rfl, ea, l, q⟩ := hh
  cases (show u = Value.ref a from rx)
  refine getmeth_ok I1 ea c hm l (PySem.W.callWith_K (first := [.ref a]) (h₀ := X.base) I.ok.mod.kin hm.kp (thn (ha.run pos pins s1 σ H1 _ I1 q) fun us s2 hh => ?_) hst hpl)
  obtain ⟨vs, H2, I2, r, q2⟩ := hh
  exact ⟨I2.kIn, run_fnS (us := .ref a :: us) (vs := .ref a :: vs) F hr hb (hx σ) I2 (.cons rfl r) q2⟩
end
/-- the method same, as it answers and as it raises -/
structure SameK (P : Program) (w : World) (K : PySem.W.Frag) (mg : Str → Option Value) (base : Heap) (LC C : Addr) : Prop where
  ex : ∃ (f : Addr) (fd : FuncData), Meth K LC "same" f ∧ Binds K fd ["self", "other"] [] ∧ FnOk P w K mg base L2.CX0 5 f fd ["self", "other"] (spSame LC) ∧ FnOk P w K mg base (L2.CX P w) 4 f fd ["self", "other"] (spSameX C K)
section
variable {P : Program} {w : World} {K : PySem.W.Frag} {mg : Str → Option Value} {base : Heap} {C fI LC lI : Addr} {fd : FuncData}
theorem scOdd : FnScope ["_law_layout", "_law_value", "_law_found", "error"] ["_law_layout", "_law_value"] (defScope sOdd) := ⟨rfl, rfl, rfl, by decide +kernel, rfl, by decide +kernel, by decide +kernel⟩
def spOdd (LC : Addr) : Sp := fun vs H Q _ => ∃ (a b : Addr) (as bs : List Rw), vs = [.ref a, .ref b] ∧ LayAt LC H a as ∧ LayAt LC H b bs ∧ Good as ∧ Good bs ∧ ∀ H' : Hp, Same H H' → Q .non H'
theorem cal_odd (D : Def K mg "_law_odd_one" sOdd) (L : LayK K mg LC lI) (S : SameK P w K mg base LC C) : Cal P w K mg base 6 "_law_odd_one" (spOdd LC) := by
  obtain ⟨f, fd, me, bi, F, _⟩ := S.ex
  refine cal_of D (ps := ["_law_layout", "_law_value"]) (fun _ _ _ _ _ _ us hl => match us, hl with | [_, _], _ => rfl) scOdd (fun vs H Q E h => ?_) (fun f' cdv A outer s H vs Q E hr h => ?_)
  · obtain ⟨_, _, _, _, rfl, _⟩ := h
    rfl
  · obtain ⟨a, b, as, bs, rfl, ha, hb, ga, gb, k⟩ := h
    refine ⟨_, pss_cons (ps_set (i := 2) scOdd.nd rfl (.inl rfl) pe_non) (pss_cons (ps_try_thru0 (pss_one (ps_expr (pe_meth (pv 0) L.cls me F (hr.mono (by decide)) bi .nil pass0 (pa_cons (pv 1) pa_nil))))) (pss_one (ps_ret (pv 2)))), ?_⟩
    obtain ⟨dx, t, ws, rs, h1, h2⟩ := id ha
    exact ⟨_, rfl, a, dx, _, rfl, h1, by rfl, _, rfl, a, b, as, bs, rfl, ha, hb, ga, gb, fun c H' s _ => ⟨_, rfl, k H' s⟩⟩
def spOddX (LC : Addr) (K : PySem.W.Frag) : Sp := fun vs H Q _ => ∃ (a : Addr) (v : V) (as : List Rw), vs = [.ref a, v] ∧ LayAt LC H a as ∧ NotL K H v ∧ ∀ H' : Hp, Same H H' → Q (.str "other") H'
theorem cal_oddX (D : Def K mg "_law_odd_one" sOdd) (L : LayK K mg LC lI) (S : SameK P w K mg base LC C) (B : BadK P K mg C fI fd) : Cal P w K mg base 6 "_law_odd_one" (spOddX LC K) := by
  obtain ⟨f, fd', me, bi, _, F⟩ := S.ex
  refine cal_of D (ps := ["_law_layout", "_law_value"]) (fun _ _ _ _ _ _ us hl => match us, hl with | [_, _], _ => rfl) scOdd (fun vs H Q E h => ?_) (fun f' cdv A outer s H vs Q E hr h => ?_)
  · obtain ⟨_, _, _, rfl, _⟩ := h
    rfl
  · obtain ⟨a, v, as, rfl, ha, hn, k⟩ := h
    refine ⟨_, pss_cons (ps_set (i := 2) scOdd.nd rfl (.inl rfl) pe_non) (pss_cons (ps_try_take (i := 3) (c := .ref C) rfl rfl scOdd.nd rfl (by rfl) ⟨by rfl, by decide, .inl B.gC⟩
      (fun W pn xe tk _ => pss_one (ps_expr (pe_methS (pv 0) L.cls me F (hr.mono (by decide)) bi (fun σ => passAt tk σ) (pa_cons (pv 1) pa_nil))))
      (fun ae oe cls d pn hz hf => pss_one (ps_set (i := 2) scOdd.nd rfl (.inl rfl) (pe_xf B.xf B.B.part hz hf (pv 3))))) (pss_one (ps_ret (pv 2)))), ?_⟩
    obtain ⟨dx, t, ws, rs, h1, h2⟩ := id ha
    refine ⟨_, rfl, a, dx, _, rfl, h1, by rfl, _, rfl, _, v, rfl, hn, fun d H' s hd => ⟨B.te, fun ae na => ?_⟩⟩
    exact ⟨_, rfl, rfl, rfl, d, _, _, rfl, hd, by rfl, _, rfl, k H' s⟩
end
end K16
/-! what draws: quilt, stitch, patch -/
namespace K16
open PySem PySem.Spec PyProof.Rows L2
/-- all but the quilt stays -/
def SB (q : Addr) (H H' : Hp) : Prop := ∀ b o, b ≠ q → H b = some o → H' b = some o
theorem SB.refl (q : Addr) (H : Hp) : SB q H H := fun _ _ _ e => e
theorem SB.trans {q : Addr} {H H1 H2 : Hp} (h : SB q H H1) (k : SB q H1 H2) : SB q H H2 := fun b o n e => k b o n (h b o n e)
theorem SB.of {q : Addr} {H H' : Hp} (h : Same H H') : SB q H H' := fun b o _ e => h b o e
/-- the quilt at q: its cells, at most T begun -/
def Qt (H : Hp) (q c : Addr) (T : Nat) : Prop := ∃ (cells : List Int) (turn left : Int), H q = some (.lst [.ref c, .int turn, .int left]) ∧ H c = some (.lst (cells.map V.int)) ∧ 0 ≤ turn ∧ turn ≤ T
theorem Qt.mono {H : Hp} {q c : Addr} {T T' : Nat} (h : Qt H q c T) (l : T ≤ T') : Qt H q c T' := by
  obtain ⟨cells, turn, left, h1, h2, h3, h4⟩ := h
  exact ⟨cells, turn, left, h1, h2, h3, by omega⟩
theorem Qt.same {H H' : Hp} {q c : Addr} {T : Nat} (s : Same H H') (h : Qt H q c T) : Qt H' q c T := by
  obtain ⟨cells, turn, left, h1, h2, h3, h4⟩ := h
  exact ⟨cells, turn, left, s _ _ h1, s _ _ h2, h3, h4⟩
theorem Qt.ne {H : Hp} {q c p : Addr} {T : Nat} (h : Qt H q c T) (np : H p = none) : p ≠ q := fun z => by
  obtain ⟨cells, turn, left, h1, _⟩ := h
  rw [z, h1] at np
  cases np
theorem Qt.is {H : Hp} {q c : Addr} {T : Nat} (h : Qt H q c T) : ∃ xs, H q = some (.lst xs) := by
  obtain ⟨cells, turn, left, h1, _⟩ := h
  exact ⟨_, h1⟩
theorem Qt.nec {H : Hp} {q c p : Addr} {T : Nat} (h : Qt H q c T) (np : H p = none) : p ≠ c := fun z => by
  obtain ⟨cells, turn, left, _, h2, _⟩ := h
  rw [z, h2] at np
  cases np
theorem Qt.put {H : Hp} {q c p : Addr} {T : Nat} {o : HO} (h : Qt H q c T) (n1 : p ≠ q) (n2 : p ≠ c) : Qt (upd H p o) q c T := by
  obtain ⟨cells, turn, left, h1, h2, h3, h4⟩ := h
  exact ⟨cells, turn, left, by rw [upd_ne (Ne.symm n1)]; exact h1, by rw [upd_ne (Ne.symm n2)]; exact h2, h3, h4⟩
theorem RowAt.sb {H H' : Hp} {q c : Addr} {T : Nat} {v : V} {r : Rw} (h : Qt H q c T) (s : SB q H H') (hr : RowAt H v r) : RowAt H' v r := by
  obtain ⟨xs, hq⟩ := h.is
  obtain ⟨t, e, ht⟩ := hr
  exact ⟨t, e, s t _ (fun z => by rw [z, hq] at ht; cases ht) ht⟩
theorem RowsAt.sb {H H' : Hp} {q c : Addr} {T : Nat} {vs : List V} {rs : List Rw} (h : Qt H q c T) (s : SB q H H') (hr : RowsAt H vs rs) : RowsAt H' vs rs := Paired.mapP hr fun _ _ k => k.sb h s
theorem go_if {c : TT} {a b : TS} {D : Ends} {σ : L2.St} {H : Hp} (h : c σ H fun x H1 => if x = true then a D σ H1 else b D σ H1) : tIfS c a b D σ H := h
theorem and_go {t u : TT} {σ : L2.St} {H : Hp} {Q : Bool → Hp → Prop} {c d : Bool} (ht : ∀ R : Bool → Hp → Prop, R c H → t σ H R) (hu : ∀ R : Bool → Hp → Prop, R d H → u σ H R) (h : Q (c && d) H) : tAnd t u σ H Q := by
  refine ht _ ?_
  cases c with
  | false => exact iteF h
  | true => exact iteT (hu _ h)
theorem qt_ne {H : Hp} {q c : Addr} {cells : List Int} {x y : V} (hq : H q = some (.lst [.ref c, x, y])) (hc : H c = some (.lst (cells.map V.int))) : c ≠ q := fun z => by
  rw [z, hq] at hc
  cases cells with
  | nil => cases hc
  | cons a r => cases hc
theorem mul_bd {a b A B : Int} (a0 : 0 ≤ a) (b0 : 0 ≤ b) (hA : a ≤ A) (hB : b ≤ B) : 0 ≤ a * b ∧ a * b ≤ A * B :=
  ⟨Int.mul_nonneg a0 b0, Int.mul_le_mul hA hB b0 (Int.le_trans a0 hA)⟩
section
variable {P : Program} {w : World} {K : PySem.W.Frag} {mg : Str → Option Value} {base : Heap}
/-! stitch -/
theorem scStitch : FnScope ["_law_quilt_here", "_law_many", "_law_left", "_law_turn", "_law_cell", "_law_mixed"] ["_law_quilt_here", "_law_many"] (defScope sStitch) := ⟨rfl, rfl, rfl, by decide +kernel, rfl, by decide +kernel, by decide +kernel⟩
def spStitch : Sp := fun vs H Q _ => ∃ (q c : Addr) (many : Int) (T : Nat), vs = [.ref q, .int many] ∧ Qt H q c T ∧ T < 2 ^ 20 ∧ 0 < many ∧ many < 2 ^ 20 ∧
  ∀ (k : Int) (H' : Hp), 0 ≤ k → k < many → Qt H' q c (T + 1) → SB q H H' → Q (.int k) H'
theorem cal_stitch (T : Bi mg) (D : Def K mg "_law_stitch" sStitch) : Cal P w K mg base 1 "_law_stitch" spStitch := by
  refine cal_of D (ps := ["_law_quilt_here", "_law_many"]) (fun _ _ _ _ _ _ us hl => match us, hl with | [_, _], _ => rfl) scStitch (fun vs H Q E h => ?_) (fun f' cdv A outer s H vs Q E hr h => ?_)
  · obtain ⟨_, _, _, _, rfl, _⟩ := h
    rfl
  · obtain ⟨q, c, many, T0, rfl, ⟨cells, turn, left, hq, hc, t0, t1⟩, hT, m0, m1, k⟩ := h
    refine ⟨_, pss_cons (ps_if (pt_cmpR (op_eqN (hu_of hr)) (pe_ix ix_list (pv 0) pe_int (fun _ _ => rfl)) (pe_lst pa_nil) (nomark _)) (pss_one (ps_ret pe_int)) pss_nil)
      (pss_cons (ps_if (pt_cmpR op_gt (pe_ix ix_list (pv 0) pe_int (fun _ _ => rfl)) pe_int (nomark _))
        (pss_cons (ps_set (i := 2) scStitch.nd rfl (.inl rfl) (pe_callTy call_int1 (by rfl) T.int boot_int (pa_cons (pe_ix ix_list (pv 0) pe_int (fun _ _ => rfl)) pa_nil)))
        (pss_cons (ps_asg (pe_op op_fdiv (pv 2) (pv 1)) (pg_sub (pv 0) pe_int set_list))
        (pss_one (ps_ret (pe_op op_mod (pe_callTy call_int1 (by rfl) T.int boot_int (pa_cons (pv 2) pa_nil)) (pv 1)))))) pss_nil)
      (pss_cons (ps_set (i := 3) scStitch.nd rfl (.inl rfl) (pe_ix ix_list (pv 0) pe_int (fun _ _ => rfl)))
      (pss_cons (ps_asg (pe_op op_add (pv 3) pe_int) (pg_sub (pv 0) pe_int set_list))
      (pss_cons (ps_set (i := 4) scStitch.nd rfl (.inl rfl) (pe_ix ix_list (pe_ix ix_list (pv 0) pe_int (fun _ _ => rfl)) (pe_op op_mod (pe_callTy call_int1 (by rfl) T.int boot_int (pa_cons (pv 3) pa_nil)) (pe_callB call_len_seq (by rfl) T.len PySem.boot_len (pa_cons (pe_ix ix_list (pv 0) pe_int (fun _ _ => rfl)) pa_nil))) (fun _ _ => rfl)))
      (pss_cons (ps_if (PW.pt (pw_and (pt_cmpR op_lt (pv 3) (pe_callB call_len_seq (by rfl) T.len PySem.boot_len (pa_cons (pe_ix ix_list (pv 0) pe_int (fun _ _ => rfl)) pa_nil)) (nomark _))
          (pw_and1 (pt_cmpR op_ge (pe_callB call_abs (by rfl) T.abs (by decide +kernel) (pa_cons (pv 4) pa_nil)) (pe_op op_pow pe_int pe_int) (nomark _)))))
        (pss_cons (ps_set (i := 2) scStitch.nd rfl (.inl rfl) (pe_op op_add (pe_op op_mul pe_int (pe_op op_sub (pe_callB call_abs (by rfl) T.abs (by decide +kernel) (pa_cons (pe_callTy call_int1 (by rfl) T.int boot_int (pa_cons (pv 4) pa_nil)) pa_nil)) (pe_op op_pow pe_int pe_int)))
          (pe_callTy call_int1 (by rfl) T.int boot_int (pa_cons (pe_cmpR op_lt (pv 4) pe_int (nomark _)) pa_nil))))
        (pss_cons (ps_asg (pe_op op_fdiv (pv 2) (pv 1)) (pg_sub (pv 0) pe_int set_list))
        (pss_one (ps_ret (pe_op op_mod (pe_callTy call_int1 (by rfl) T.int boot_int (pa_cons (pv 2) pa_nil)) (pv 1)))))) pss_nil)
      (pss_cons (ps_set (i := 5) scStitch.nd rfl (.inl rfl) (pe_op op_mod (pe_callTy call_int1 (by rfl) T.int boot_int (pa_cons (pe_op op_pow (pe_op op_add (pe_op op_add (pe_op op_mod (pe_callTy call_int1 (by rfl) T.int boot_int (pa_cons (pv 4) pa_nil)) pe_int) (pe_op op_mul pe_int (pv 3))) pe_int) pe_int) pa_nil)) pe_int))
      (pss_cons (ps_set (i := 5) scStitch.nd rfl (.inl rfl) (pe_op op_mod (pe_callTy call_int1 (by rfl) T.int boot_int (pa_cons (pe_op op_pow (pe_op op_add (pe_op op_add (pe_op op_mul (pv 5) (pe_op op_add (pe_op op_mul pe_int (pv 3)) pe_int)) (pe_op op_mul (pe_op op_mul pe_int (pv 3)) (pv 3))) pe_int) pe_int) pa_nil)) pe_int))
      (pss_one (ps_ret (pe_op op_mod (pe_callTy call_int1 (by rfl) T.int boot_int (pa_cons (pe_op op_fdiv (pv 5) pe_int) pa_nil)) (pv 1))))))))))), ?_⟩
    have hcq := qt_ne hq hc
    refine ⟨_, rfl, q, _, _, _, rfl, rfl, SqL.of hq, atI_nat (j := 0) rfl, Nat.zero_le _, fun e ne => ⟨c, e, _, rfl, rfl, SqL.of (same_upd ne _ _ hc), SqL.of upd_same, _, rfl, ?_⟩⟩
    have s1 : Same H (upd H e (.lst [])) := same_upd ne
    have hq1 := s1 _ _ hq
    have hc1 := s1 _ _ hc
    generalize upd H e (.lst []) = H1 at s1 hq1 hc1 ⊢
    by_cases hz : cells = []
    · subst hz
      exact iteT (k 0 H1 (by decide) m0 ⟨[], turn, left, hq1, hc1, t0, by omega⟩ (SB.of s1))
    · refine iteN (by cases cells with | nil => exact (hz rfl).elim | cons a r => rfl) ?_
      have lp : 0 < cells.length := List.length_pos_iff.mpr hz
      refine ⟨_, rfl, q, _, _, _, rfl, rfl, SqL.of hq1, atI_nat (j := 2) rfl, _, _, rfl, rfl, _, rfl, ?_⟩
      by_cases hl : 0 < left
      · refine iteB (decide_eq_true hl) ⟨_, rfl, q, _, _, _, rfl, rfl, SqL.of hq1, atI_nat (j := 2) rfl, .inl ⟨_, rfl, ?_⟩⟩
        refine ⟨_, rfl, _, rfl, _, _, rfl, rfl, ⟨m0, by omega⟩, _, rfl, q, _, _, 2, rfl, rfl, hq1, rfl, ?_⟩
        refine ⟨_, rfl, .inl ⟨_, rfl, _, rfl, _, _, rfl, rfl, m0, k _ _ (Int.emod_nonneg _ (by omega)) (Int.emod_lt_of_pos _ m0) ⟨cells, turn, left / many, upd_same, by rw [upd_ne hcq]; exact hc1, t0, by omega⟩ fun b o n hb => ?_⟩⟩
        rw [upd_ne n]
        exact s1 _ _ hb
      · refine iteN (decide_eq_false hl) ⟨_, rfl, q, _, _, _, rfl, rfl, SqL.of hq1, atI_nat (j := 1) rfl, ?_⟩
        refine ⟨_, rfl, _, _, rfl, rfl, _, rfl, q, _, _, 1, rfl, rfl, hq1, rfl, ?_⟩
        have hq2 : upd H1 q (.lst [.ref c, .int (turn + 1), .int left]) q = some (.lst [.ref c, .int (turn + 1), .int left]) := upd_same
        have hc2 : upd H1 q (.lst [.ref c, .int (turn + 1), .int left]) c = some (.lst (cells.map V.int)) := by rw [upd_ne hcq]; exact hc1
        have sb2 : SB q H (upd H1 q (.lst [.ref c, .int (turn + 1), .int left])) := fun b o n hb => by
          rw [upd_ne n]
          exact s1 _ _ hb
        refine ⟨_, rfl, q, _, _, _, rfl, rfl, SqL.of hq2, atI_nat (j := 0) rfl, ?_⟩
        show tOp _ _ _ _ (upd H1 q (.lst [.ref c, .int (turn + 1), .int left])) _
        generalize upd H1 q (.lst [.ref c, .int (turn + 1), .int left]) = H2 at hq2 hc2 sb2 ⊢
        have ll : ((cells.map V.int).length : Int) = cells.length := by rw [List.length_map]
        have r0 := Int.emod_nonneg turn (show ((cells.map V.int).length : Int) ≠ 0 by omega)
        have r1 := Int.emod_lt_of_pos turn (show 0 < ((cells.map V.int).length : Int) by omega)
        obtain ⟨j, hj⟩ := Int.eq_ofNat_of_zero_le r0
        obtain ⟨cell, hcell⟩ : ∃ cell, cells[j]? = some cell := ⟨cells[j]'(by omega), List.getElem?_eq_getElem (by omega)⟩
        have hat : atI (cells.map V.int) (turn % ((cells.map V.int).length : Int)) = some (.int cell) := by
          rw [hj]
          exact atI_nat (by rw [List.getElem?_map, hcell]; rfl)
        refine ⟨_, rfl, .inl ⟨_, rfl, _, rfl, q, _, _, _, rfl, rfl, SqL.of hq2, atI_nat (j := 0) rfl, c, _, rfl, .inl (SqL.of hc2), _, _, rfl, rfl, by omega, c, _, _, _, rfl, rfl, SqL.of hc2, hat, ?_⟩⟩
        have qt2 : Qt H2 q c (T0 + 1) := ⟨cells, turn + 1, left, hq2, hc2, by omega, by omega⟩
        have pw : ∀ {i j : Int}, 0 ≤ i → i < 2 ^ 64 → 0 ≤ j → j ≤ 100 → CPow i j := fun h1 h2 h3 h4 => ⟨h3, by omega, by omega⟩
        refine go_name ?_
        dsimp only
        refine go_seq ?_
        refine go_if ?_
        refine and_go (c := decide (turn < ((cells.map V.int).length : Int))) (d := decide ((10 : Int) ^ (18 : Int).toNat ≤ if cell < 0 then -cell else cell)) (fun R hR => ?_) (fun R hR => ?_) ?_
        · exact ⟨_, rfl, _, rfl, q, _, _, _, rfl, rfl, SqL.of hq2, atI_nat (j := 0) rfl, c, _, rfl, .inl (SqL.of hc2), _, _, rfl, rfl, _, rfl, hR⟩
        · exact ⟨_, rfl, _, rfl, _, _, rfl, rfl, pw (by decide) (by decide) (by decide) (by decide), _, _, rfl, rfl, _, rfl, hR⟩
        by_cases hb : (decide (turn < ((cells.map V.int).length : Int)) && decide ((10 : Int) ^ (18 : Int).toNat ≤ if cell < 0 then -cell else cell)) = true
        · refine iteB hb ⟨_, rfl, .inl ⟨_, rfl, _, rfl, _, _, rfl, rfl, pw (by decide) (by decide) (by decide) (by decide), _, _, rfl, rfl, _, _, rfl, rfl, .inl ⟨by decide, by decide⟩, _, rfl, _, _, rfl, rfl, .inr ⟨_, rfl, _, _, rfl, rfl, ?_⟩⟩⟩
          refine ⟨_, rfl, _, rfl, _, _, rfl, rfl, ⟨m0, by omega⟩, _, rfl, q, _, _, 2, rfl, rfl, hq2, rfl, ?_⟩
          refine ⟨_, rfl, .inl ⟨_, rfl, _, rfl, _, _, rfl, rfl, m0, k _ _ (Int.emod_nonneg _ (by omega)) (Int.emod_lt_of_pos _ m0) ⟨cells, turn + 1, _, upd_same, by rw [upd_ne hcq]; exact hc2, by omega, by omega⟩ fun b o n hb => ?_⟩⟩
          rw [upd_ne n]
          exact sb2 _ _ n hb
        · refine iteN (Bool.eq_false_iff.mpr hb) ?_
          have c0 := Int.emod_nonneg cell (show (2147483543 : Int) ≠ 0 by decide)
          have c1 := Int.emod_lt_of_pos cell (show (0 : Int) < 2147483543 by decide)
          refine ⟨_, rfl, .inl ⟨_, rfl, _, _, rfl, rfl, (by show (0 : Int) < 2147483543; decide), _, rfl, _, _, rfl, rfl, .inl ⟨by decide, by decide⟩, _, _, rfl, rfl, _, _, rfl, rfl, _, _, rfl, rfl, pw (by omega) (by omega) (by decide) (by decide), .inl ⟨_, rfl, _, _, rfl, rfl, (by show (0 : Int) < 2147483497; decide), ?_⟩⟩⟩
          generalize (cell % 2147483543 + 42043 * turn + 6043) ^ (5 : Int).toNat = z
          have z0 := Int.emod_nonneg z (show (2147483497 : Int) ≠ 0 by decide)
          have z1 := Int.emod_lt_of_pos z (show (0 : Int) < 2147483497 by decide)
          obtain ⟨p0, p1⟩ := mul_bd (A := 2147483497) (B := 2 * 1048576 + 9341) z0 (show 0 ≤ 2 * turn + 9341 by omega) (by omega) (by omega)
          obtain ⟨q0, q1⟩ := mul_bd (A := 190093 * 1048576) (B := 1048576) (show 0 ≤ 190093 * turn by omega) t0 (by omega) (by omega)
          refine ⟨_, rfl, _, rfl, _, _, rfl, rfl, .inl ⟨by decide, by decide⟩, _, _, rfl, rfl, _, _, rfl, rfl, .inl ⟨by omega, by omega⟩, _, rfl, _, _, rfl, rfl, .inl ⟨by decide, by decide⟩, _, rfl, _, _, rfl, rfl, .inr ⟨by omega, by omega⟩, _, _, rfl, rfl, _, _, rfl, rfl, _, _, rfl, rfl, pw (by omega) (by omega) (by decide) (by decide), .inl ⟨_, rfl, _, _, rfl, rfl, (by show (0 : Int) < 2147483489; decide), ?_⟩⟩
          refine ⟨_, rfl, _, _, rfl, rfl, ⟨by decide, by decide⟩, .inl ⟨_, rfl, _, rfl, _, _, rfl, rfl, m0, k _ _ (Int.emod_nonneg _ (by omega)) (Int.emod_lt_of_pos _ m0) qt2 sb2⟩⟩
end
end K16
namespace K16
open PySem PySem.Spec PyProof.Rows L2
section
variable {P : Program} {w : World} {K : PySem.W.Frag} {mg : Str → Option Value} {base : Heap}
/-! patch -/
theorem scPatch : FnScope ["_law_quilt_here", "_law_some"] ["_law_quilt_here", "_law_some"] (defScope sPatch) := ⟨rfl, rfl, rfl, by decide +kernel, rfl, by decide +kernel, by decide +kernel⟩
def spPatch : Sp := fun vs H Q _ => ∃ (q c l : Addr) (xs : List V) (T : Nat), vs = [.ref q, .ref l] ∧ Qt H q c T ∧ T < 2 ^ 20 ∧ H l = some (.lst xs) ∧ l ≠ q ∧ 0 < xs.length ∧ xs.length < 2 ^ 20 ∧
  ∀ (v : V) (H' : Hp), v ∈ xs → Qt H' q c (T + 1) → SB q H H' → Q v H'
theorem cal_patch (T : Bi mg) (D : Def K mg "_law_patch" sPatch) (c1 : Cal P w K mg base 1 "_law_stitch" spStitch) : Cal P w K mg base 2 "_law_patch" spPatch := by
  refine cal_of D (ps := ["_law_quilt_here", "_law_some"]) (fun _ _ _ _ _ _ us hl => match us, hl with | [_, _], _ => rfl) scPatch (fun vs H Q E h => ?_) (fun f' cdv A outer s H vs Q E hr h => ?_)
  · obtain ⟨_, _, _, _, _, rfl, _⟩ := h
    rfl
  · obtain ⟨q, c, l, xs, T0, rfl, hq, hT, hl, hne, l0, l1, k⟩ := h
    refine ⟨_, pss_one (ps_ret (pe_ix ix_list (pv 1) (pe_c c1 hr (by decide) (by rfl) (pa_cons (pv 0) (pa_cons (pe_callB call_len_seq (by rfl) T.len PySem.boot_len (pa_cons (pv 1) pa_nil)) pa_nil))) (fun _ _ => rfl))), ?_⟩
    refine ⟨_, rfl, _, rfl, _, rfl, l, _, rfl, .inl (SqL.of hl), q, c, xs.length, T0, rfl, hq, hT, by omega, by omega, fun i H' i0 i1 hq' sb => ?_⟩
    obtain ⟨j, rfl⟩ := Int.eq_ofNat_of_zero_le i0
    obtain ⟨v, hv⟩ : ∃ v, xs[j]? = some v := ⟨xs[j]'(by omega), List.getElem?_eq_getElem (by omega)⟩
    exact ⟨l, xs, _, v, rfl, rfl, SqL.of (sb _ _ hne hl), atI_nat hv, k v H' (List.mem_of_getElem? hv) hq' sb⟩
/-! quilt -/
theorem scQuilt : FnScope ["_law_script", "_law_cell"] ["_law_script"] (defScope sQuilt) := ⟨rfl, rfl, rfl, by decide +kernel, rfl, by decide +kernel, by decide +kernel⟩
def spQuilt (K : PySem.W.Frag) : Sp := fun vs H Q _ => ∃ (a : Addr) (zs : List Int), vs = [.ref a] ∧ SqL K H a (zs.map V.int) ∧ ∀ (q c : Addr) (H' : Hp), Same H H' → Qt H' q c 0 → Q (.ref q) H'
theorem Same.lst {H H' : Hp} {a : Addr} {xs : List V} (e : Same H H') (h : SqL K H a xs) : SqL K H' a xs := by
  rcases h with (h | ⟨o, h⟩) | h
  · exact .inl (.inl (e _ _ h))
  · exact .inl (.inr ⟨o, e _ _ h⟩)
  · exact .inr h
theorem cal_quilt (T : Bi mg) (D : Def K mg "_law_quilt" sQuilt) : Cal P w K mg base 1 "_law_quilt" (spQuilt K) := by
  refine cal_of D (ps := ["_law_script"]) (fun _ _ _ _ _ _ us hl => match us, hl with | [_], _ => rfl) scQuilt (fun vs H Q E h => ?_) (fun f' cdv A outer s H vs Q E hr h => ?_)
  · obtain ⟨_, _, rfl, _⟩ := h
    rfl
  · obtain ⟨a, zs, rfl, ha, k⟩ := h
    refine ⟨_, pss_one (ps_ret (pe_lst (pa_cons (pe_lc (own := [("_law_cell", 1)]) (g := gName 1) (by rfl) scQuilt.nd (pi_list (pe_slice sl_list (pv 0) po_none (po_some pe_int))) (blkOk_by (N := ["_law_script", "_law_cell"]) (sc := defScope sQuilt) (by decide +kernel))
      (fun _ _ _ _ _ => pg_name (i := 1) scQuilt.nd rfl (Or.inl rfl)) (fun _ _ _ _ _ => pts_nil) (fun _ _ _ _ _ => pe_callTy call_int1 (by rfl) T.int boot_int (pa_cons (pv 1) pa_nil))) (pa_cons pe_int (pa_cons pe_int pa_nil))))), ?_⟩
    refine ⟨_, rfl, 60, rfl, a, _, rfl, ha, fun p np => ?_⟩
    have ec : ∃ ys : List Int, cutV (zs.map V.int) none (some 60) = ys.map V.int ∧ ys.length ≤ 60 := by
      refine ⟨zs.take (min 60 zs.length), ?_, by rw [List.length_take]; omega⟩
      unfold cutV HT.sIx
      rw [List.map_take, List.length_map]
      rfl
    obtain ⟨ys, ey, ly⟩ := ec
    rw [ey]
    have s1 : Same H (upd H p (.lst (ys.map V.int))) := same_upd np
    have hp : upd H p (.lst (ys.map V.int)) p = some (.lst (ys.map V.int)) := upd_same
    generalize upd H p (.lst (ys.map V.int)) = H1 at s1 hp ⊢
    refine ⟨p, rfl, ⟨_, SqL.of hp⟩, fun D nD => ?_⟩
    refine lc_list (K := K) (a := p) (xs := ys.map V.int) (fun i H' => Same H1 H' ∧ H' D = some (.lst ((ys.take i).map V.int))) ⟨same_upd nD, upd_same⟩ (fun i H' _ ⟨sm, _⟩ => SqL.of (sm _ _ hp)) ?_ ?_
    · rintro i x H' hi ⟨sm, hD⟩
      rw [List.getElem?_map] at hi
      obtain ⟨y, hy, rfl⟩ := Option.map_eq_some_iff.mp hi
      refine ⟨rfl, ?_⟩
      unfold tYes
      refine iteT ⟨_, rfl, .inl ⟨_, rfl, _, hD, ?_, same_D nD sm, ?_⟩⟩
      · rw [List.length_map, List.length_take]
        exact small1000 (by omega)
      · rw [upd_same, take_snoc hy, List.map_append]; rfl
    · rintro H2 ⟨sm, hD⟩
      rw [List.length_map, List.take_length] at hD
      refine ⟨by show 3 ≤ sizeLine; decide, fun q nq => k q D _ (s1.trans (sm.trans (same_upd nq))) ⟨ys, 0, 0, upd_same, ?_, by decide, by decide⟩⟩
      rw [upd_ne (ne_of_none hD nq)]
      exact hD
end
end K16
/-! rows broken into rows -/
namespace K16
theorem mem_up {f s x : Int} (hs : 0 < s) : (⟨some f, none, s⟩ : Rw).Mem x ↔ ∃ k : Nat, x = f + s * k := by
  constructor
  · rintro ⟨h1, h2, _⟩
    have h2 := h2 f rfl
    have h3 : s ∣ x - f := Int.dvd_of_emod_eq_zero (Int.emod_eq_emod_iff_emod_sub_eq_zero.mp h1)
    have h4 : 0 ≤ (x - f) / s := Int.ediv_nonneg (by omega) (Int.le_of_lt hs)
    obtain ⟨k, hk⟩ := Int.eq_ofNat_of_zero_le h4
    have h5 := Int.mul_ediv_cancel' h3
    rw [hk] at h5
    exact ⟨k, by omega⟩
  · rintro ⟨k, rfl⟩
    have h4 : 0 ≤ s * (k : Int) := Int.mul_nonneg (Int.le_of_lt hs) (Int.natCast_nonneg k)
    refine ⟨Int.add_mul_emod_self_left .., fun f' e => ?_, fun l e => nomatch e⟩
    cases e
    omega
theorem mem_down {l s x : Int} (hs : 0 < s) : (⟨none, some l, s⟩ : Rw).Mem x ↔ ∃ k : Nat, x = l - s * k := by
  constructor
  · rintro ⟨h1, _, h2⟩
    have h2 := h2 l rfl
    have h3 : s ∣ l - x := Int.dvd_of_emod_eq_zero (Int.emod_eq_emod_iff_emod_sub_eq_zero.mp h1.symm)
    have h4 : 0 ≤ (l - x) / s := Int.ediv_nonneg (by omega) (Int.le_of_lt hs)
    obtain ⟨k, hk⟩ := Int.eq_ofNat_of_zero_le h4
    have h5 := Int.mul_ediv_cancel' h3
    rw [hk] at h5
    exact ⟨k, by omega⟩
  · rintro ⟨k, rfl⟩
    have h4 : 0 ≤ s * (k : Int) := Int.mul_nonneg (Int.le_of_lt hs) (Int.natCast_nonneg k)
    refine ⟨?_, fun f e => (nomatch e), fun l' e => ?_⟩
    · show (l - s * (k : Int)) % s = l % s
      exact Int.sub_mul_emod_self_left ..
    · cases e
      omega
theorem mem_fin {f l s x : Int} (hs : 0 < s) : (⟨some f, some l, s⟩ : Rw).Mem x ↔ ∃ k : Nat, x = f + s * k ∧ x ≤ l := by
  constructor
  · rintro ⟨h1, h2, h3⟩
    obtain ⟨k, hk⟩ := (mem_up (x := x) (f := f) hs).mp ⟨h1, h2, fun l e => nomatch e⟩
    exact ⟨k, hk, h3 l rfl⟩
  · rintro ⟨k, hk, hl⟩
    obtain ⟨h1, h2, _⟩ := (mem_up (x := x) (f := f) hs).mpr ⟨k, hk⟩
    exact ⟨h1, h2, fun l' e => by cases e; exact hl⟩
/-- what a row is broken into -/
structure Parts (r : Rw) (bs : List Rw) : Prop where
  ok : ∀ b ∈ bs, b.Ok
  sz : ∀ b ∈ bs, b.s ≤ 4 * r.s
  disj : bs.Pairwise Disj
  nums : ∀ x, Nums bs x ↔ r.Mem x
  len : bs.length ≤ 4
theorem nums_one {r : Rw} {x : Int} : Nums [r] x ↔ r.Mem x := by
  unfold Nums
  simp
theorem parts_one {r : Rw} (ok : r.Ok) : Parts r [r] where
  ok := fun b hb => by simp at hb; exact hb ▸ ok
  sz := fun b hb => by
    simp at hb
    have := ok.1
    rw [hb]; omega
  disj := List.pairwise_singleton _ _
  nums := fun x => nums_one
  len := by simp
theorem gap {x a s : Int} (hs : 0 < s) (h : x % s = a % s) (hx : a < x) : a + s ≤ x := by
  have h3 : s ∣ x - a := Int.dvd_of_emod_eq_zero (Int.emod_eq_emod_iff_emod_sub_eq_zero.mp h)
  obtain ⟨c, hc⟩ := h3
  have c0 : 0 < c := by
    rcases Int.lt_trichotomy c 0 with h | h | h
    · have := Int.mul_neg_of_pos_of_neg hs h
      omega
    · rw [h, Int.mul_zero] at hc; omega
    · exact h
  have : s * 1 ≤ s * c := Int.mul_le_mul_of_nonneg_left (by omega) (Int.le_of_lt hs)
  omega
theorem split_parts {fo lo : Option Int} {s a : Int} (ok : (⟨fo, lo, s⟩ : Rw).Ok) (ha : a % s = (⟨fo, lo, s⟩ : Rw).rest) (hf : ∀ f, fo = some f → f ≤ a) (hl : ∀ l, lo = some l → a + s ≤ l) : Parts ⟨fo, lo, s⟩ [⟨fo, some a, s⟩, ⟨some (a + s), lo, s⟩] := by
  have hs : 0 < s := ok.1
  have e2 : (a + s) % s = a % s := Int.add_emod_right ..
  have r1 : (⟨fo, some a, s⟩ : Rw).rest = (⟨fo, lo, s⟩ : Rw).rest := by
    cases fo with
    | none => exact ha
    | some f => rfl
  have r2 : (⟨some (a + s), lo, s⟩ : Rw).rest = (⟨fo, lo, s⟩ : Rw).rest := by
    show (a + s) % s = _
    rw [e2, ha]
  have dj : ∀ x, ¬ ((⟨fo, some a, s⟩ : Rw).Mem x ∧ (⟨some (a + s), lo, s⟩ : Rw).Mem x) := fun x ⟨h1, h2⟩ => by
    have := h1.2.2 a rfl
    have := h2.2.1 (a + s) rfl
    omega
  constructor
  · intro b hb
    simp at hb
    rcases hb with rfl | rfl
    · refine ⟨hs, .inr (by simp), fun f l e1 e2' => ?_⟩
      cases e2'
      refine ⟨hf f e1, ?_⟩
      have : fo = some f := e1
      subst this
      exact Int.emod_eq_emod_iff_emod_sub_eq_zero.mp ha
    · refine ⟨hs, .inl (by simp), fun f l e1 e2' => ?_⟩
      cases e1
      refine ⟨hl l e2', ?_⟩
      have e3 := ok.restL (l := l) e2'
      have e3 : l % s = (⟨fo, lo, s⟩ : Rw).rest := e3
      exact Int.emod_eq_emod_iff_emod_sub_eq_zero.mp (by show l % s = (a + s) % s; rw [e3, e2, ha])
  · intro b hb
    simp at hb
    rcases hb with rfl | rfl <;> (show s ≤ 4 * s; omega)
  · simp only [List.pairwise_cons, List.mem_singleton, forall_eq, List.not_mem_nil, false_implies, implies_true, List.Pairwise.nil, and_true]
    exact dj
  · intro x
    have : Nums [(⟨fo, some a, s⟩ : Rw), ⟨some (a + s), lo, s⟩] x ↔ (⟨fo, some a, s⟩ : Rw).Mem x ∨ (⟨some (a + s), lo, s⟩ : Rw).Mem x := by
      unfold Nums
      simp
    rw [this]
    constructor
    · rintro (⟨h1, h2, h3⟩ | ⟨h1, h2, h3⟩)
      · refine ⟨h1.trans r1, h2, fun l e => ?_⟩
        have := h3 a rfl
        have := hl l e
        omega
      · refine ⟨h1.trans r2, fun f e => ?_, h3⟩
        have := h2 (a + s) rfl
        have := hf f e
        omega
    · rintro ⟨h1, h2, h3⟩
      by_cases c : x ≤ a
      · exact .inl ⟨h1.trans r1.symm, h2, fun l e => by cases e; exact c⟩
      · refine .inr ⟨h1.trans r2.symm, fun f e => ?_, h3⟩
        cases e
        exact gap hs (h1.trans ha.symm) (by omega)
  · simp
/-- parts by rests -/
theorem tk {m t t' k k' : Nat} (ht : t < m) (ht' : t' < m) (h : t + m * k = t' + m * k') : t = t' := by
  have h1 : (t + m * k) % m = t := by rw [Nat.add_mul_mod_self_left, Nat.mod_eq_of_lt ht]
  have h2 : (t' + m * k') % m = t' := by rw [Nat.add_mul_mod_self_left, Nat.mod_eq_of_lt ht']
  rw [← h1, h, h2]
theorem lin {s : Int} {m t k : Nat} : s * ((t + m * k : Nat) : Int) = s * t + s * m * k := by
  rw [Int.natCast_add, Int.natCast_mul, Int.mul_add, Int.mul_assoc]
theorem rg {m : Nat} {R : Nat → Nat → Prop} (h : ∀ t t', t < m → t' < m → t ≠ t' → R t t') : (List.range m).Pairwise R := by
  have h1 := List.pairwise_lt_range (n := m)
  refine List.Pairwise.imp_of_mem (fun {a b} ha hb hab => ?_) h1
  exact h a b (List.mem_range.mp ha) (List.mem_range.mp hb) (by omega)
theorem step_pos {s : Int} {m : Nat} (hs : 0 < s) (hm : 0 < m) (hm4 : m ≤ 4) : 0 < s * (m : Int) ∧ s * (m : Int) ≤ 4 * s := by
  have : s * 1 ≤ s * (m : Int) := Int.mul_le_mul_of_nonneg_left (by omega) (Int.le_of_lt hs)
  have : s * (m : Int) ≤ s * 4 := Int.mul_le_mul_of_nonneg_left (by omega) (Int.le_of_lt hs)
  omega
theorem inj_s {s : Int} {a b : Nat} (hs : 0 < s) (h : s * (a : Int) = s * (b : Int)) : a = b := by
  have := Int.eq_of_mul_eq_mul_left (by omega : s ≠ 0) h
  omega
theorem resid_up {f s : Int} {m : Nat} (hs : 0 < s) (hm : 0 < m) (hm4 : m ≤ 4) : Parts ⟨some f, none, s⟩ ((List.range m).map fun (t : Nat) => (⟨some (f + s * t), none, s * m⟩ : Rw)) := by
  obtain ⟨p1, p2⟩ := step_pos hs hm hm4
  constructor
  · intro b hb
    obtain ⟨t, ht, rfl⟩ := List.mem_map.mp hb
    exact ⟨p1, .inl (by simp), fun _ _ _ e => nomatch e⟩
  · intro b hb
    obtain ⟨t, ht, rfl⟩ := List.mem_map.mp hb
    exact p2
  · rw [List.pairwise_map]
    refine rg fun t t' ht ht' hne x ⟨h1, h2⟩ => ?_
    obtain ⟨k, e1⟩ := (mem_up p1).mp h1
    obtain ⟨k', e2⟩ := (mem_up p1).mp h2
    refine hne (tk (k := k) (k' := k') ht ht' (inj_s hs ?_))
    rw [lin, lin]
    omega
  · intro x
    rw [mem_up hs]
    constructor
    · rintro ⟨b, hb, hx⟩
      obtain ⟨t, ht, rfl⟩ := List.mem_map.mp hb
      obtain ⟨k, e⟩ := (mem_up p1).mp hx
      refine ⟨t + m * k, ?_⟩
      rw [lin]
      omega
    · rintro ⟨k, e⟩
      refine ⟨_, List.mem_map.mpr ⟨k % m, List.mem_range.mpr (Nat.mod_lt _ hm), rfl⟩, (mem_up p1).mpr ⟨k / m, ?_⟩⟩
      have h2 := Nat.mod_add_div k m
      have h3 : s * (k : Int) = s * ((k % m : Nat) : Int) + s * m * ((k / m : Nat) : Int) := by
        rw [← lin, h2]
      omega
  · rw [List.length_map, List.length_range]; exact hm4
theorem resid_down {l s : Int} {m : Nat} (hs : 0 < s) (hm : 0 < m) (hm4 : m ≤ 4) : Parts ⟨none, some l, s⟩ ((List.range m).map fun (t : Nat) => (⟨none, some (l - s * t), s * m⟩ : Rw)) := by
  obtain ⟨p1, p2⟩ := step_pos hs hm hm4
  constructor
  · intro b hb
    obtain ⟨t, ht, rfl⟩ := List.mem_map.mp hb
    exact ⟨p1, .inr (by simp), fun _ _ e _ => nomatch e⟩
  · intro b hb
    obtain ⟨t, ht, rfl⟩ := List.mem_map.mp hb
    exact p2
  · rw [List.pairwise_map]
    refine rg fun t t' ht ht' hne x ⟨h1, h2⟩ => ?_
    obtain ⟨k, e1⟩ := (mem_down p1).mp h1
    obtain ⟨k', e2⟩ := (mem_down p1).mp h2
    refine hne (tk (k := k) (k' := k') ht ht' (inj_s hs ?_))
    rw [lin, lin]
    omega
  · intro x
    rw [mem_down hs]
    constructor
    · rintro ⟨b, hb, hx⟩
      obtain ⟨t, ht, rfl⟩ := List.mem_map.mp hb
      obtain ⟨k, e⟩ := (mem_down p1).mp hx
      refine ⟨t + m * k, ?_⟩
      rw [lin]
      omega
    · rintro ⟨k, e⟩
      refine ⟨_, List.mem_map.mpr ⟨k % m, List.mem_range.mpr (Nat.mod_lt _ hm), rfl⟩, (mem_down p1).mpr ⟨k / m, ?_⟩⟩
      have h2 := Nat.mod_add_div k m
      have h3 : s * (k : Int) = s * ((k % m : Nat) : Int) + s * m * ((k / m : Nat) : Int) := by
        rw [← lin, h2]
      omega
  · rw [List.length_map, List.length_range]; exact hm4
/-- the piece with rest t -/
def piece (f l s : Int) (m : Nat) (t : Nat) : Option Rw := if f + s * t ≤ l then some ⟨some (f + s * t), some (f + s * t + (l - (f + s * t)) / (s * m) * s * m), s * m⟩ else none
theorem piece_mem {f l s x : Int} {m t : Nat} (p1 : 0 < s * (m : Int)) (h : f + s * t ≤ l) : (⟨some (f + s * t), some (f + s * t + (l - (f + s * t)) / (s * m) * s * m), s * m⟩ : Rw).Mem x ↔ ∃ k : Nat, x = f + s * t + s * m * k ∧ x ≤ l := by
  rw [mem_fin p1]
  have e0 : (l - (f + s * t)) / (s * m) * s * m = s * m * ((l - (f + s * t)) / (s * m)) := by
    rw [Int.mul_assoc, Int.mul_comm]
  have d1 := Int.mul_ediv_add_emod (l - (f + s * t)) (s * m)
  have d2 := Int.emod_nonneg (l - (f + s * t)) (show s * (m : Int) ≠ 0 by omega)
  have d3 := Int.emod_lt_of_pos (l - (f + s * t)) p1
  constructor
  · rintro ⟨k, e, hl⟩
    refine ⟨k, e, ?_⟩
    rw [e0] at hl
    omega
  · rintro ⟨k, e, hl⟩
    refine ⟨k, e, ?_⟩
    rw [e0]
    have h1 : s * m * (k : Int) ≤ l - (f + s * t) := by omega
    have h2 : (k : Int) ≤ (l - (f + s * t)) / (s * m) := (Int.le_ediv_iff_mul_le p1).mpr (by rw [Int.mul_comm]; exact h1)
    have h3 := Int.mul_le_mul_of_nonneg_left h2 (Int.le_of_lt p1)
    omega
theorem piece_some {f l s : Int} {m t : Nat} {b : Rw} (h : piece f l s m t = some b) : f + s * t ≤ l ∧ b = ⟨some (f + s * t), some (f + s * t + (l - (f + s * t)) / (s * m) * s * m), s * m⟩ := by
  unfold piece at h
  split at h
  · rename_i hc
    exact ⟨hc, (Option.some.inj h).symm⟩
  · cases h
theorem resid_fin {f l s : Int} {m : Nat} (hs : 0 < s) (hm : 0 < m) (hm4 : m ≤ 4) : Parts ⟨some f, some l, s⟩ ((List.range m).filterMap (piece f l s m)) := by
  obtain ⟨p1, p2⟩ := step_pos hs hm hm4
  constructor
  · intro b hb
    obtain ⟨t, ht, e⟩ := List.mem_filterMap.mp hb
    obtain ⟨hc, rfl⟩ := piece_some e
    refine ⟨p1, .inl (by simp), fun f' l' e1 e2 => ?_⟩
    cases e1
    cases e2
    have e0 : (l - (f + s * t)) / (s * m) * s * m = s * m * ((l - (f + s * t)) / (s * m)) := by
      rw [Int.mul_assoc, Int.mul_comm]
    have q0 : 0 ≤ (l - (f + s * t)) / (s * m) := Int.ediv_nonneg (by omega) (Int.le_of_lt p1)
    have q1 := Int.mul_nonneg (Int.le_of_lt p1) q0
    rw [e0]
    refine ⟨by omega, ?_⟩
    rw [show f + s * t + s * m * ((l - (f + s * t)) / (s * m)) - (f + s * t) = s * m * ((l - (f + s * t)) / (s * m)) by omega]
    exact Int.mul_emod_right ..
  · intro b hb
    obtain ⟨t, ht, e⟩ := List.mem_filterMap.mp hb
    obtain ⟨hc, rfl⟩ := piece_some e
    exact p2
  · rw [List.pairwise_filterMap]
    refine rg fun t t' ht ht' hne b hb b' hb' x ⟨h1, h2⟩ => ?_
    obtain ⟨hc, rfl⟩ := piece_some hb
    obtain ⟨hc', rfl⟩ := piece_some hb'
    obtain ⟨k, e1, _⟩ := (piece_mem p1 hc).mp h1
    obtain ⟨k', e2, _⟩ := (piece_mem p1 hc').mp h2
    refine hne (tk (k := k) (k' := k') ht ht' (inj_s hs ?_))
    rw [lin, lin]
    omega
  · intro x
    rw [mem_fin hs]
    constructor
    · rintro ⟨b, hb, hx⟩
      obtain ⟨t, ht, e⟩ := List.mem_filterMap.mp hb
      obtain ⟨hc, rfl⟩ := piece_some e
      obtain ⟨k, e, hl⟩ := (piece_mem p1 hc).mp hx
      refine ⟨t + m * k, ?_, hl⟩
      rw [lin]
      omega
    · rintro ⟨k, e, hl⟩
      have h2 := Nat.mod_add_div k m
      have h3 : s * (k : Int) = s * ((k % m : Nat) : Int) + s * m * ((k / m : Nat) : Int) := by
        rw [← lin, h2]
      have h4 : 0 ≤ s * m * ((k / m : Nat) : Int) := Int.mul_nonneg (Int.le_of_lt p1) (Int.natCast_nonneg _)
      have hc : f + s * ((k % m : Nat) : Int) ≤ l := by omega
      refine ⟨_, List.mem_filterMap.mpr ⟨k % m, List.mem_range.mpr (Nat.mod_lt _ hm), ?_⟩, (piece_mem p1 hc).mpr ⟨k / m, by omega, hl⟩⟩
      unfold piece
      rw [if_pos hc]
  · exact Nat.le_trans (List.length_filterMap_le _ _) (by rw [List.length_range]; exact hm4)
end K16
/-! rows drawn, broken all, changed -/
namespace K16
structure Drawn (rs : List Rw) : Prop where
  ok : ∀ r ∈ rs, r.Ok ∧ r.s ≤ 10 ^ 15
  len : rs.length ≤ 6
  disj : rs.Pairwise Disj
structure Acc (left rows : List Rw) : Prop where
  ok : ∀ b ∈ left, b.Ok ∧ b.s ≤ 4 * 10 ^ 15
  len : left.length ≤ 4 * rows.length
  disj : left.Pairwise Disj
  nums : ∀ x, Nums left x ↔ Nums rows x
theorem nums_app {A B : List Rw} {x : Int} : Nums (A ++ B) x ↔ Nums A x ∨ Nums B x := by
  unfold Nums
  constructor
  · rintro ⟨r, h, m⟩
    rcases List.mem_append.mp h with h | h
    · exact .inl ⟨r, h, m⟩
    · exact .inr ⟨r, h, m⟩
  · rintro (⟨r, h, m⟩ | ⟨r, h, m⟩)
    · exact ⟨r, List.mem_append_left _ h, m⟩
    · exact ⟨r, List.mem_append_right _ h, m⟩
theorem Acc.nil : Acc [] [] := ⟨(fun _ h => nomatch h), Nat.le_refl _, .nil, fun _ => Iff.rfl⟩
theorem Acc.step {left rows bs : List Rw} {r : Rw} (h : Acc left rows) (p : Parts r bs) (hs : r.s ≤ 10 ^ 15) (d : ∀ a ∈ rows, Disj a r) : Acc (left ++ bs) (rows ++ [r]) where
  ok := fun b hb => by
    rcases List.mem_append.mp hb with hb | hb
    · exact h.ok b hb
    · have := p.sz b hb
      exact ⟨p.ok b hb, by omega⟩
  len := by
    have := h.len
    have := p.len
    rw [List.length_append, List.length_append, List.length_singleton]
    omega
  disj := by
    refine List.pairwise_append.mpr ⟨h.disj, p.disj, fun a ha b hb x ⟨m1, m2⟩ => ?_⟩
    obtain ⟨r', hr', m'⟩ := (h.nums x).mp ⟨a, ha, m1⟩
    exact d r' hr' x ⟨m', (p.nums x).mp ⟨b, hb, m2⟩⟩
  nums := fun x => by rw [nums_app, nums_app, h.nums x, p.nums x, nums_one]
/-- fewer numbers than a row -/
structure Less (r : Rw) (ns : List Rw) : Prop where
  ok : ∀ n ∈ ns, n.Ok ∧ n.s = r.s
  len : ns.length ≤ 1
  sub : ∀ x, Nums ns x → r.Mem x
  miss : ∃ x, r.Mem x ∧ ¬ Nums ns x
theorem less_of {r n : Rw} (ok : n.Ok) (hs : n.s = r.s) (hr : n.rest = r.rest) (hf : ∀ f, r.f = some f → ∃ f', n.f = some f' ∧ f ≤ f') (hl : ∀ l, r.l = some l → ∃ l', n.l = some l' ∧ l' ≤ l) (miss : ∃ x, r.Mem x ∧ ¬ n.Mem x) : Less r [n] where
  ok := fun b hb => by
    simp at hb
    exact hb ▸ ⟨ok, hs⟩
  len := by simp
  sub := fun x hx => by
    obtain ⟨h1, h2, h3⟩ := nums_one.mp hx
    refine ⟨by rw [← hs, h1, hr], fun f e => ?_, fun l e => ?_⟩
    · obtain ⟨f', e', le⟩ := hf f e
      have := h2 f' e'
      omega
    · obtain ⟨l', e', le⟩ := hl l e
      have := h3 l' e'
      omega
  miss := by
    obtain ⟨x, h1, h2⟩ := miss
    exact ⟨x, h1, fun h => h2 (nums_one.mp h)⟩
theorem mem_f {f s : Int} {lo : Option Int} (h : ∀ l, lo = some l → f ≤ l) : (⟨some f, lo, s⟩ : Rw).Mem f := ⟨rfl, fun f' e => by cases e; exact Int.le_refl _, fun l e => h l e⟩
theorem mem_l {fo : Option Int} {l s : Int} (ok : (⟨fo, some l, s⟩ : Rw).Ok) : (⟨fo, some l, s⟩ : Rw).Mem l := ⟨ok.restL (l := l) rfl, fun f e => (ok.2.2 f l e rfl).1, fun l' e => by cases e; exact Int.le_refl _⟩
theorem less_first {f s : Int} {lo : Option Int} (ok : (⟨some f, lo, s⟩ : Rw).Ok) (h : ∀ l, lo = some l → f < l) : Less ⟨some f, lo, s⟩ [⟨some (f + s), lo, s⟩] := by
  have hs : 0 < s := ok.1
  refine less_of ⟨hs, .inl (by simp), fun f' l e1 e2 => ?_⟩ rfl (Int.add_emod_right ..) (fun f' e => ⟨f + s, rfl, by cases e; omega⟩) (fun l e => ⟨l, e, Int.le_refl _⟩) ⟨f, mem_f fun l e => (ok.2.2 f l rfl e).1, fun m => ?_⟩
  · cases e1
    have e3 : l % s = f % s := ok.restL (l := l) e2
    have g := gap hs e3 (h l e2)
    refine ⟨g, ?_⟩
    exact Int.emod_eq_emod_iff_emod_sub_eq_zero.mp (by show l % s = (f + s) % s; rw [e3, Int.add_emod_right])
  · have := m.2.1 (f + s) rfl
    omega
theorem less_last {l s : Int} {fo : Option Int} (ok : (⟨fo, some l, s⟩ : Rw).Ok) (h : ∀ f, fo = some f → f < l) : Less ⟨fo, some l, s⟩ [⟨fo, some (l - s), s⟩] := by
  have hs : 0 < s := ok.1
  have e3 : l % s = (⟨fo, some l, s⟩ : Rw).rest := ok.restL (l := l) rfl
  have e4 : (l - s) % s = l % s := Int.sub_emod_right ..
  refine less_of ⟨hs, .inr (by simp), fun f l' e1 e2 => ?_⟩ rfl ?_ (fun f e => ⟨f, e, Int.le_refl _⟩) (fun l' e => ⟨l - s, rfl, by cases e; omega⟩) ⟨l, mem_l ok, fun m => ?_⟩
  · cases e2
    have e1 : fo = some f := e1
    subst e1
    have g := gap (a := f) hs e3 (h f rfl)
    refine ⟨by omega, ?_⟩
    exact Int.emod_eq_emod_iff_emod_sub_eq_zero.mp (by show (l - s) % s = f % s; rw [e4]; exact e3)
  · cases fo with
    | none => exact e4
    | some f => rfl
  · have := m.2.2 (l - s) rfl
    omega
theorem less_all {f s : Int} (_hs : 0 < s) : Less ⟨some f, some f, s⟩ [] where
  ok := fun _ h => nomatch h
  len := by simp
  sub := fun x ⟨_, h, _⟩ => nomatch h
  miss := ⟨f, mem_f fun l e => by cases e; exact Int.le_refl _, fun ⟨_, h, _⟩ => nomatch h⟩
theorem less_far_up {f s m : Int} (hs : 0 < s) (hm : 0 ≤ m) : Less ⟨some f, none, s⟩ [⟨some f, some (f + s * m), s⟩] := by
  have h1 : 0 ≤ s * m := Int.mul_nonneg (Int.le_of_lt hs) hm
  refine less_of ⟨hs, .inl (by simp), fun f' l e1 e2 => ?_⟩ rfl rfl (fun f' e => ⟨f', e, Int.le_refl _⟩) (fun l e => (nomatch e)) ⟨f + s * m + s, ⟨?_, fun f' e => ?_, fun l e => (nomatch e)⟩, fun h => ?_⟩
  · cases e1
    cases e2
    exact ⟨by omega, by rw [show f + s * m - f = s * m by omega]; exact Int.mul_emod_right ..⟩
  · show (f + s * m + s) % s = f % s
    rw [Int.add_emod_right, Int.add_mul_emod_self_left]
  · cases e
    omega
  · have := h.2.2 _ rfl
    omega
theorem less_far_down {l s m : Int} (hs : 0 < s) (hm : 0 ≤ m) : Less ⟨none, some l, s⟩ [⟨some (l - s * m), some l, s⟩] := by
  have h1 : 0 ≤ s * m := Int.mul_nonneg (Int.le_of_lt hs) hm
  have e0 : (l - s * m) % s = l % s := Int.sub_mul_emod_self_left ..
  refine less_of ⟨hs, .inl (by simp), fun f' l' e1 e2 => ?_⟩ rfl e0 (fun f' e => (nomatch e)) (fun l' e => ⟨l', e, Int.le_refl _⟩) ⟨l - s * m - s, ⟨?_, fun f' e => (nomatch e), fun l' e => ?_⟩, fun h => ?_⟩
  · cases e1
    cases e2
    exact ⟨by omega, by rw [show l - (l - s * m) = s * m by omega]; exact Int.mul_emod_right ..⟩
  · show (l - s * m - s) % s = l % s
    rw [Int.sub_emod_right, e0]
  · cases e
    omega
  · have := h.2.1 _ rfl
    omega
theorem changed_rows {rs ns : List Rw} {i : Nat} {r : Rw} (h : Drawn rs) (hr : rs[i]? = some r) (l : Less r ns) : Drawn (rs.take i ++ ns ++ rs.drop (i + 1)) ∧ ¬ SameN (rs.take i ++ ns ++ rs.drop (i + 1)) rs := by
  obtain ⟨hi, hri⟩ := List.getElem?_eq_some_iff.mp hr
  have e0 : rs = rs.take i ++ [r] ++ rs.drop (i + 1) := by
    rw [List.append_assoc, ← hri]
    simp
  have hm : r ∈ rs := List.mem_of_getElem? hr
  have hd := h.disj
  rw [e0, List.pairwise_append] at hd
  obtain ⟨hd1, hd2, hd3⟩ := hd
  rw [List.pairwise_append] at hd1
  obtain ⟨ha, _, hb⟩ := hd1
  have nx : ∀ n ∈ ns, ∀ x, n.Mem x → r.Mem x := fun n hn x hx => l.sub x ⟨n, hn, hx⟩
  constructor
  · constructor
    · intro b hb'
      rcases List.mem_append.mp hb' with hb' | hb'
      · rcases List.mem_append.mp hb' with hb' | hb'
        · exact h.ok b (List.mem_of_mem_take hb')
        · have := (h.ok r hm).2
          exact ⟨(l.ok b hb').1, by rw [(l.ok b hb').2]; exact this⟩
      · exact h.ok b (List.mem_of_mem_drop hb')
    · have := h.len
      have := l.len
      have e1 : rs.length = (rs.take i ++ [r] ++ rs.drop (i + 1)).length := by rw [← e0]
      rw [List.length_append, List.length_append, List.length_singleton] at e1
      rw [List.length_append, List.length_append]
      omega
    · rw [List.pairwise_append, List.pairwise_append]
      refine ⟨⟨ha, ?_, fun a ha' b hb' x ⟨m1, m2⟩ => hb a ha' r (by simp) x ⟨m1, nx b hb' x m2⟩⟩, hd2, fun a ha' b hb' x ⟨m1, m2⟩ => ?_⟩
      · match ns, l.len with
        | [], _ => exact .nil
        | [n], _ => exact List.pairwise_singleton _ _
      · rcases List.mem_append.mp ha' with q | q
        · exact hd3 a (List.mem_append_left _ q) b hb' x ⟨m1, m2⟩
        · exact hd3 r (List.mem_append_right _ (by simp)) b hb' x ⟨nx a q x m1, m2⟩
  · intro hs
    obtain ⟨x, m1, m2⟩ := l.miss
    have h1 := (hs x).mpr ⟨r, hm, m1⟩
    rw [nums_app, nums_app] at h1
    rcases h1 with (⟨a, q, m⟩ | h1) | ⟨a, q, m⟩
    · exact hb a q r (by simp) x ⟨m, m1⟩
    · exact m2 h1
    · exact hd3 r (List.mem_append_right _ (by simp)) a q x ⟨m1, m⟩
/-- rows of one step with rests of their own -/
structure Rests (step base : Int) (n : Nat) (rs : List Rw) : Prop where
  ok : ∀ r ∈ rs, r.Ok ∧ r.s = step ∧ ∃ t : Nat, t < n ∧ r.rest = (base + t) % step
  len : rs.length ≤ n
  disj : rs.Pairwise Disj
theorem Rests.nil {step base : Int} : Rests step base 0 [] := ⟨(fun _ h => nomatch h), Nat.le_refl _, .nil⟩
theorem Rests.skip {step base : Int} {n : Nat} {rs : List Rw} (h : Rests step base n rs) : Rests step base (n + 1) rs :=
  ⟨fun r hr => by obtain ⟨a, b, t, ht, e⟩ := h.ok r hr; exact ⟨a, b, t, by omega, e⟩, Nat.le_succ_of_le h.len, h.disj⟩
theorem Rests.add {step base : Int} {n : Nat} {rs : List Rw} {r : Rw} (h : Rests step base n rs) (hn : (n : Int) < step) (ok : r.Ok) (hs : r.s = step) (hr : r.rest = (base + n) % step) : Rests step base (n + 1) (rs ++ [r]) where
  ok := fun b hb => by
    rcases List.mem_append.mp hb with hb | hb
    · obtain ⟨a, b, t, ht, e⟩ := h.ok b hb
      exact ⟨a, b, t, by omega, e⟩
    · simp at hb
      subst hb
      exact ⟨ok, hs, n, by omega, hr⟩
  len := by
    rw [List.length_append, List.length_singleton]
    exact Nat.succ_le_succ h.len
  disj := by
    refine List.pairwise_append.mpr ⟨h.disj, List.pairwise_singleton _ _, fun a ha b hb x ⟨m1, m2⟩ => ?_⟩
    simp at hb
    subst hb
    obtain ⟨_, sa, t, ht, e⟩ := h.ok a ha
    have h1 := m1.1
    have h2 := m2.1
    rw [sa, e] at h1
    rw [hs, hr] at h2
    have h3 : (base + n) % step = (base + t) % step := h2.symm.trans h1
    have h4 := Int.emod_eq_emod_iff_emod_sub_eq_zero.mp h3
    rw [show base + (n : Int) - (base + t) = (n : Int) - t by omega, Int.emod_eq_of_lt (by omega) (by omega)] at h4
    omega
theorem Rests.drawn {step base : Int} {n : Nat} {rs : List Rw} (h : Rests step base n rs) (hn : n ≤ 6) (hs : step ≤ 10 ^ 15) : Drawn rs :=
  ⟨fun r hr => ⟨(h.ok r hr).1, by rw [(h.ok r hr).2.1]; exact hs⟩, Nat.le_trans h.len hn, h.disj⟩
theorem row_some {r : Rw} (ok : r.Ok) : ∃ x, r.Mem x := by
  obtain ⟨f, l, s⟩ := r
  cases f with
  | some f => exact ⟨f, mem_f fun l e => (ok.2.2 f l rfl e).1⟩
  | none =>
    cases l with
    | some l => exact ⟨l, mem_l ok⟩
    | none => exact (ok.2.1.elim (fun h => h rfl) (fun h => h rfl)).elim
theorem not_empty {rs : List Rw} (h : rs ≠ []) (ok : ∀ r ∈ rs, r.Ok) : ¬ SameN [] rs := fun hs => by
  cases rs with
  | nil => exact h rfl
  | cons r t =>
    obtain ⟨x, m⟩ := row_some (ok r (by simp))
    obtain ⟨_, q, _⟩ := (hs x).mpr ⟨r, by simp, m⟩
    cases q
end K16
/-! broken -/
namespace K16
open PySem PySem.Spec PyProof.Rows L2
theorem go_next {D : Ends} {σ : L2.St} {H : Hp} (h : D.nx σ H) : tNext D σ H := h
section
variable {P : Program} {w : World} {K : PySem.W.Frag} {mg : Str → Option Value} {base : Heap}
def N_broken : List Str := ["_law_quilt_here", "_law_row", "_law_first", "_law_last", "_law_step", "_law_way", "_law_many", "_law_at", "_law_base", "_law_sign", "_law_some", "_law_found", "_law_turn", "_law_begin"]
theorem scBroken : FnScope N_broken ["_law_quilt_here", "_law_row"] (defScope sBroken) := ⟨rfl, rfl, rfl, by decide +kernel, rfl, by decide +kernel, by decide +kernel⟩
def spBroken : Sp := fun vs H Q _ => ∃ (q c : Addr) (v : V) (r : Rw) (T : Nat), vs = [.ref q, v] ∧ Qt H q c T ∧ T + 2 < 2 ^ 20 ∧ RowAt H v r ∧ r.Ok ∧ r.s ≤ 10 ^ 15 ∧
  ∀ (p : Addr) (ws : List V) (bs : List Rw) (H' : Hp), Qt H' q c (T + 2) → SB q H H' → H' p = some (.lst ws) → RowsAt H' ws bs → Parts r bs → Q (.ref p) H'
theorem cal_broken (T : Bi mg) (D : Def K mg "_law_broken" sBroken) (c1 : Cal P w K mg base 1 "_law_stitch" spStitch) : Cal P w K mg base 2 "_law_broken" spBroken := by
  refine cal_of D (ps := ["_law_quilt_here", "_law_row"]) (fun _ _ _ _ _ _ us hl => match us, hl with | [_, _], _ => rfl) scBroken (fun vs H Q E h => ?_) (fun f' cdv A outer s H vs Q E hr h => ?_)
  · obtain ⟨_, _, _, _, _, rfl, _⟩ := h
    rfl
  · obtain ⟨q, c, v, r, T0, rfl, hq, hT, ⟨t, rfl, ht⟩, ok, hs15, k⟩ := h
    refine ⟨_, pss_cons (ps_asg (pv 1) (pg_tup rfl (pgs_cons (pg_name (i := 2) scBroken.nd rfl (.inr rfl)) (pgs_cons (pg_name (i := 3) scBroken.nd rfl (.inl rfl)) (pgs_cons (pg_name (i := 4) scBroken.nd rfl (.inr rfl)) pgs_nil)))))
      (pss_cons (ps_asg (pe_tup (pa_cons (pe_c c1 hr (by decide) (by rfl) (pa_cons (pv 0) (pa_cons pe_int pa_nil))) (pa_cons (pe_op op_add pe_int (pe_c c1 hr (by decide) (by rfl) (pa_cons (pv 0) (pa_cons pe_int pa_nil)))) pa_nil)))
        (pg_tup rfl (pgs_cons (pg_name (i := 5) scBroken.nd rfl (.inl rfl)) (pgs_cons (pg_name (i := 6) scBroken.nd rfl (.inr rfl)) pgs_nil))))
      (pss_cons (ps_if (pt_cmpR op_eq (pv 5) pe_int (nomark _))
        (pss_cons (ps_set (i := 7) scBroken.nd rfl (.inl rfl) (pe_ifExp (pt_cmp (pc_isN (pv 2))) (pe_op op_sub (pv 3) (pe_op op_mul (pv 4) (pv 6))) (pe_op op_add (pv 2) (pe_op op_mul (pv 4) (pv 6)))))
        (pss_cons (ps_if (PW.pt (pw_and (pt_cmp (pc_notN (pv 2))) (pw_and (pt_cmp (pc_notN (pv 3))) (pw_and1 (pt_cmpR op_ge (pv 7) (pv 3) (nomark _)))))) (pss_one (ps_ret (pe_lst (pa_cons (pv 1) pa_nil)))) pss_nil)
        (pss_one (ps_ret (pe_ifExp (pt_cmpR op_ne (pv 7) (pv 3) (nomark _)) (pe_lst (pa_cons (pe_tup (pa_cons (pv 2) (pa_cons (pv 7) (pa_cons (pv 4) pa_nil)))) (pa_cons (pe_tup (pa_cons (pe_op op_add (pv 7) (pv 4)) (pa_cons (pv 3) (pa_cons (pv 4) pa_nil)))) pa_nil)))
          (pe_lst (pa_cons (pv 1) pa_nil))))))) pss_nil)
      (pss_cons (ps_if (PW.pt (pw_and (pt_cmpR op_eq (pv 5) pe_int (nomark _)) (pw_and1 (PW.pt (pw_or (pt_cmp (pc_isN (pv 2))) (pw_or1 (pt_cmp (pc_isN (pv 3)))))))))
        (pss_cons (ps_set (i := 8) scBroken.nd rfl (.inr rfl) (pe_ifExp (pt_cmp (pc_isN (pv 2))) (pv 3) (pv 2)))
        (pss_cons (ps_set (i := 9) scBroken.nd rfl (.inr rfl) (pe_ifExp (pt_cmp (pc_isN (pv 2))) (pe_un un_neg pe_int) pe_int))
        (pss_cons (ps_setLc (i := 10) (own := [("_law_turn", 12)]) (g := gName 12) (tt := tYes) rfl scBroken.nd rfl rfl (sw_true rfl rfl rfl (by decide +kernel)) (pi_range1 (by rfl) T.range (pa_cons (pv 6) pa_nil))
          (blkOk_by (N := N_broken) (sc := defScope sBroken) (by decide +kernel)) (fun _ _ _ _ _ => pg_name (i := 12) scBroken.nd rfl (Or.inl rfl))
          (fun _ _ _ _ _ => pts_nil) (fun _ _ _ _ _ => pe_op op_add (pv 8) (pe_op op_mul (pe_op op_mul (pv 9) (pv 4)) (pv 12))))
        (pss_one (ps_ret (pe_lc (own := [("_law_at", 7)]) (g := gName 7) (by rfl) scBroken.nd (pi_list (pv 10)) (blkOk_by (N := N_broken) (sc := defScope sBroken) (by decide +kernel))
          (fun _ _ _ _ _ => pg_name (i := 7) scBroken.nd rfl (Or.inl rfl)) (fun _ _ _ _ _ => pts_nil) (fun _ _ _ _ _ => pe_ifExp (pt_cmp (pc_isN (pv 2))) (pe_tup (pa_cons pe_non (pa_cons (pv 7) (pa_cons (pe_op op_mul (pv 4) (pv 6)) pa_nil))))
            (pe_tup (pa_cons (pv 7) (pa_cons pe_non (pa_cons (pe_op op_mul (pv 4) (pv 6)) pa_nil))))))))))) pss_nil)
      (pss_cons (ps_if (PW.pt (pw_and (pt_cmpR op_gt (pv 5) pe_int (nomark _)) (pw_and (pt_cmp (pc_notN (pv 2))) (pw_and1 (pt_cmp (pc_notN (pv 3)))))))
        (pss_cons (ps_set (i := 11) scBroken.nd rfl (.inl rfl) (pe_lst pa_nil))
        (pss_cons (ps_for PassesOwn.never rfl (pi_range1 (by rfl) T.range (pa_cons (pv 6) pa_nil)) (pg_name (i := 12) scBroken.nd rfl (.inl rfl))
          (pss_cons (ps_set (i := 13) scBroken.nd rfl (.inl rfl) (pe_op op_add (pv 2) (pe_op op_mul (pv 4) (pv 12))))
          (pss_one (ps_if (pt_cmpR op_le (pv 13) (pv 3) (nomark _))
            (pss_one (ps_expr (pe_bm PySem.F.plainAttrs_list PySem.F.slot_list_append PySem.F.type_list_append mt_append (pv 11) (pa_cons (pe_tup (pa_cons (pv 13) (pa_cons (pe_op op_add (pv 13) (pe_op op_mul (pe_op op_mul (pe_op op_fdivW (pe_op op_sub (pv 3) (pv 13)) (pe_op op_mul (pv 4) (pv 6))) (pv 4)) (pv 6))) (pa_cons (pe_op op_mul (pv 4) (pv 6)) pa_nil)))) pa_nil)))) pss_nil))))
        (pss_one (ps_ret (pv 11))))) pss_nil)
      (pss_one (ps_ret (pe_lst (pa_cons (pv 1) pa_nil)))))))), ?_⟩
    have hs : 0 < r.s := ok.1
    refine ⟨_, rfl, t, _, rfl, SqT.of ht, rfl, _, _, rfl, _, _, rfl, _, _, rfl, rfl, ?_⟩
    refine ⟨_, rfl, q, c, 4, T0, rfl, hq, by omega, by decide, by decide, fun way H1 w0 w1 hq1 sb1 => ?_⟩
    refine ⟨_, rfl, q, c, 3, T0 + 1, rfl, hq1, by omega, by decide, by decide, fun mm H2 m0 m1 hq2 sb2 => ⟨_, _, rfl, rfl, by show 2 ≤ sizeLine; decide, fun p np => ?_⟩⟩
    have s3 : Same H2 (upd H2 p (.tup [.int way, .int (2 + mm)])) := same_upd np
    have hp : upd H2 p (.tup [.int way, .int (2 + mm)]) p = some (.tup [.int way, .int (2 + mm)]) := upd_same
    generalize upd H2 p (.tup [.int way, .int (2 + mm)]) = H3 at s3 hp ⊢
    have hq3 : Qt H3 q c (T0 + 2) := hq2.same s3
    have sb3 : SB q H H3 := (sb1.trans sb2).trans (SB.of s3)
    have ht3 : RowAt H3 (.ref t) r := RowAt.sb hq sb3 ⟨t, rfl, ht⟩
    have k3 : ∀ (p : Addr) (ws : List V) (bs : List Rw) (H' : Hp), Same H3 H' → H' p = some (.lst ws) → RowsAt H' ws bs → Parts r bs → Q (.ref p) H' := fun p ws bs H' s' hp' hr' pt => k p ws bs H' (hq3.same s') (sb3.trans (SB.of s')) hp' hr' pt
    refine ⟨p, _, rfl, SqT.of hp, rfl, _, _, rfl, _, _, rfl, rfl, ?_⟩
    clear k hq2 sb2 sb1 hq1 hq sb3 hq3 np
    obtain ⟨f0, l0, s⟩ := r
    obtain ⟨m, hm⟩ : ∃ m : Nat, 2 + mm = (m : Int) := Int.eq_ofNat_of_zero_le (by omega)
    rw [hm]
    have hm1 : 2 ≤ m := by omega
    have hm4 : m ≤ 4 := by omega
    obtain ⟨sm0, sm4⟩ := step_pos (s := s) (m := m) hs (by omega) hm4
    have hs15 : s ≤ 10 ^ 15 := hs15
    have hs : 0 < s := hs
    have smm : s * 2 ≤ s * (m : Int) := Int.mul_le_mul_of_nonneg_left (by omega) (Int.le_of_lt hs)
    -- one row as it is
    have one : ∀ (σ : L2.St) (H' : Hp), σ[1]? = some (some (.ref t)) → Same H3 H' → tLst (tCons (tVar 1) tNil) σ H' Q := fun σ H' e s' => by
      refine ⟨_, e, by show 1 ≤ sizeLine; decide, fun p2 np2 => k3 p2 _ [_] _ (s'.trans (same_upd np2)) upd_same (.cons ?_ .nil) (parts_one ok)⟩
      exact (ht3.same s').same (same_upd np2)
    -- two rows
    have two : ∀ (at' : Int) (σ : L2.St), σ[2]? = some (some (oV f0)) → σ[7]? = some (some (.int at')) → σ[4]? = some (some (.int s)) → σ[3]? = some (some (oV l0)) → Parts ⟨f0, l0, s⟩ [⟨f0, some at', s⟩, ⟨some (at' + s), l0, s⟩] →
        tLst (tCons (tTup (tCons (tVar 2) (tCons (tVar 7) (tCons (tVar 4) tNil)))) (tCons (tTup (tCons (tOp (rI0 fun i j => .int (i + j)) (tVar 7) (tVar 4)) (tCons (tVar 3) (tCons (tVar 4) tNil)))) tNil)) σ H3 Q := fun at' σ e2 e7 e4 e3 pt => by
      refine ⟨_, e2, _, e7, _, e4, by show 3 ≤ sizeLine; decide, fun p1 n1 => ⟨_, e7, _, e4, _, _, rfl, rfl, _, e3, _, e4, by show 3 ≤ sizeLine; decide, fun p2 n2 => ⟨by show 2 ≤ sizeLine; decide, fun p3 n3 => ?_⟩⟩⟩
      have t1 := same_upd (o := .tup [oV f0, .int at', .int s]) n1
      have t2 := same_upd (o := .tup [.int (at' + s), oV l0, .int s]) n2
      have t3 := same_upd (o := .lst [.ref p1, .ref p2]) n3
      exact k3 p3 _ _ _ (t1.trans (t2.trans t3)) upd_same (.cons ⟨p1, rfl, t3 _ _ (t2 _ _ upd_same)⟩ (.cons ⟨p2, rfl, t3 _ _ upd_same⟩ .nil)) pt
    refine ⟨_, rfl, rfl, _, rfl, ?_⟩
    by_cases c1 : way = 1
    · refine iteB (decide_eq_true (congrArg V.int c1)) ?_
      refine ⟨_, rfl, ?_⟩
      cases f0 with
      | none =>
        cases l0 with
        | none => exact (ok.2.1.elim (fun h => h rfl) (fun h => h rfl)).elim
        | some l =>
          refine ⟨true, rfl, iteT ⟨_, rfl, _, rfl, _, rfl, _, _, rfl, rfl, .inr ⟨by omega, by omega⟩, _, _, rfl, rfl, ?_⟩⟩
          refine ⟨_, rfl, false, rfl, iteF (iteF ?_)⟩
          refine ⟨_, rfl, _, rfl, rfl, _, rfl, iteB ?_ (two (l - s * m) _ rfl rfl rfl rfl (split_parts ok ?_ (fun f e => nomatch e) (fun l' e => by cases e; omega)))⟩
          · have : l - s * m ≠ l := by omega
            simp [oV, this]
          · exact Int.sub_mul_emod_self_left ..
      | some f =>
        refine ⟨false, rfl, iteF ⟨_, rfl, _, rfl, _, rfl, _, _, rfl, rfl, .inr ⟨by omega, by omega⟩, _, _, rfl, rfl, ?_⟩⟩
        cases l0 with
        | none =>
          refine ⟨_, rfl, true, rfl, iteT ⟨_, rfl, false, rfl, iteF (iteF ?_)⟩⟩
          exact ⟨_, rfl, _, rfl, rfl, _, rfl, iteB rfl (two (f + s * m) _ rfl rfl rfl rfl (split_parts ok (Int.add_mul_emod_self_left ..) (fun f' e => by cases e; omega) (fun l e => nomatch e)))⟩
        | some l =>
          refine ⟨_, rfl, true, rfl, iteT ⟨_, rfl, true, rfl, iteT ⟨_, rfl, _, rfl, _, _, rfl, rfl, _, rfl, ?_⟩⟩⟩
          by_cases c2 : l ≤ f + s * m
          · exact iteB (decide_eq_true c2) (one _ _ rfl (Same.refl _))
          · refine iteN (decide_eq_false c2) ?_
            have e1 : (f + s * (m : Int)) % s = f % s := Int.add_mul_emod_self_left ..
            have e2 : l % s = f % s := ok.restL (l := l) rfl
            refine ⟨_, rfl, _, rfl, rfl, _, rfl, iteB ?_ (two (f + s * m) _ rfl rfl rfl rfl (split_parts ok e1 (fun f' e => by cases e; omega) (fun l' e => by cases e; exact gap hs (e2.trans e1.symm) (by omega))))⟩
            have : f + s * m ≠ l := by omega
            simp [oV, this]
    · refine iteN (decide_eq_false fun z => c1 (V.int.inj z)) ?_
      refine go_next ?_
      dsimp only
      refine go_seq ?_
      refine go_if ?_
      refine and_go (c := decide (V.int way = V.int 2)) (d := f0.isNone || l0.isNone) (fun R hR => ⟨_, rfl, rfl, _, rfl, hR⟩) (fun R hR => ?_) ?_
      · cases f0 with
        | none => exact ⟨_, rfl, true, rfl, iteT hR⟩
        | some f =>
          refine ⟨_, rfl, false, rfl, iteF ?_⟩
          cases l0 with
          | none => exact ⟨_, rfl, true, rfl, hR⟩
          | some l => exact ⟨_, rfl, false, rfl, hR⟩
      by_cases c2 : (decide (V.int way = V.int 2) && (f0.isNone || l0.isNone)) = true
      · refine iteB c2 ?_
        cases f0 with
        | none =>
          cases l0 with
          | none => exact (ok.2.1.elim (fun h => h rfl) (fun h => h rfl)).elim
          | some l =>
            refine ⟨_, rfl, true, rfl, iteT ⟨_, rfl, _, rfl, true, rfl, iteT ⟨_, rfl, ?_⟩⟩⟩
            refine ⟨_, rfl, (m : Int), rfl, by omega, by omega, fun D1 nD1 => ?_⟩
            refine lc_range (lo := 0) (n := m) (fun i H' => Same H3 H' ∧ H' D1 = some (.lst ((List.range i).map fun (t : Nat) => V.int (l + (-1) * s * (0 + (t : Int)))))) ⟨same_upd nD1, upd_same⟩ ?_ ?_
            · rintro i H' hi ⟨s4, hD1⟩
              refine ⟨rfl, ?_⟩
              unfold tYes
              refine iteT ⟨_, rfl, _, rfl, _, rfl, _, _, rfl, rfl, .inl ⟨by decide, by decide⟩, _, rfl, _, _, rfl, rfl, .inr ⟨by omega, by omega⟩, _, _, rfl, rfl, _, hD1, ?_, same_D nD1 s4, ?_⟩
              · rw [List.length_map, List.length_range]
                exact small1000 (by omega)
              · rw [upd_same, List.range_succ, List.map_append]; rfl
            · rintro H4 ⟨s4, hD1⟩
              refine ⟨_, rfl, D1, rfl, ⟨_, SqL.of hD1⟩, fun D2 nD2 => ?_⟩
              refine lc_list (K := K) (a := D1) (xs := (List.range m).map fun (t : Nat) => V.int (l + (-1) * s * (0 + (t : Int)))) (fun i H' => Same H4 H' ∧ ∃ ws, H' D2 = some (.lst ws) ∧ RowsAt H' ws (((List.range m).map fun (t : Nat) => (⟨none, some (l - s * (t : Int)), s * m⟩ : Rw)).take i)) ⟨same_upd nD2, [], upd_same, .nil⟩ (fun i H' _ ⟨s5, _⟩ => SqL.of (s5 _ _ hD1)) ?_ ?_
              · rintro i x H' hx ⟨s5, ws, hD2, hr2⟩
                obtain ⟨hi, hx⟩ : i < m ∧ x = V.int (l + (-1) * s * (0 + (i : Int))) := by
                  rw [List.getElem?_map, Option.map_eq_some_iff] at hx
                  obtain ⟨y, hy, rfl⟩ := hx
                  obtain ⟨h1, h2⟩ := List.getElem?_eq_some_iff.mp hy
                  rw [List.getElem_range] at h2
                  rw [List.length_range] at h1
                  exact ⟨h1, by rw [h2]⟩
                subst hx
                refine ⟨rfl, ?_⟩
                unfold tYes
                refine iteT ⟨_, rfl, true, rfl, iteT ⟨_, rfl, _, rfl, _, rfl, _, _, rfl, rfl, .inr ⟨by omega, by omega⟩, by show 3 ≤ sizeLine; decide, fun p2 np2 => ?_⟩⟩
                refine ⟨ws, same_upd np2 _ _ hD2, ?_, same_D nD2 (s5.trans (same_upd np2)), ws ++ [.ref p2], upd_same, ?_⟩
                · have e := pairedLen hr2
                  rw [List.length_take, List.length_map, List.length_range] at e
                  exact small1000 (by omega)
                · have hi2 : ((List.range m).map fun (t : Nat) => (⟨none, some (l - s * (t : Int)), s * m⟩ : Rw))[i]? = some ((fun (t : Nat) => (⟨none, some (l - s * (t : Int)), s * m⟩ : Rw)) i) := by
                    rw [List.getElem?_map, List.getElem?_range hi]; rfl
                  rw [take_snoc hi2]
                  have s6 := same_upd (o := .tup [.non, .int (l + (-1) * s * (0 + (i : Int))), .int (s * m)]) np2
                  refine pairedSnoc (Paired.mapP hr2 fun _ _ z => keepRow _ (s6 _ _ hD2) (z.same s6)) (keepRow _ (s6 _ _ hD2) ⟨p2, rfl, ?_⟩)
                  rw [upd_same]
                  have e4 : l + (-1) * s * (0 + (i : Int)) = l - s * i := by rw [Int.zero_add, Int.mul_assoc, Int.neg_mul, Int.one_mul]; rfl
                  rw [e4]
                  rfl
              · rintro H5 ⟨s5, ws, hD2, hr2⟩
                have e3 : ((List.range m).map fun (t : Nat) => (⟨none, some (l - s * (t : Int)), s * m⟩ : Rw)).take ((List.range m).map fun (t : Nat) => V.int (l + (-1) * s * (0 + (t : Int)))).length = (List.range m).map fun (t : Nat) => (⟨none, some (l - s * (t : Int)), s * m⟩ : Rw) := by
                  rw [List.length_map, List.length_range]
                  exact List.take_of_length_le (by rw [List.length_map, List.length_range]; exact Nat.le_refl _)
                rw [e3] at hr2
                exact k3 D2 ws _ H5 (s4.trans s5) hD2 hr2 (resid_down hs (by omega) hm4)

        | some f =>
          cases l0 with
          | some l => simp at c2
          | none =>
            refine ⟨_, rfl, false, rfl, iteF ⟨_, rfl, _, rfl, false, rfl, iteF ?_⟩⟩
            refine ⟨_, rfl, (m : Int), rfl, by omega, by omega, fun D1 nD1 => ?_⟩
            refine lc_range (lo := 0) (n := m) (fun i H' => Same H3 H' ∧ H' D1 = some (.lst ((List.range i).map fun (t : Nat) => V.int (f + 1 * s * (0 + (t : Int)))))) ⟨same_upd nD1, upd_same⟩ ?_ ?_
            · rintro i H' hi ⟨s4, hD1⟩
              refine ⟨rfl, ?_⟩
              unfold tYes
              refine iteT ⟨_, rfl, _, rfl, _, rfl, _, _, rfl, rfl, .inl ⟨by decide, by decide⟩, _, rfl, _, _, rfl, rfl, .inr ⟨by omega, by omega⟩, _, _, rfl, rfl, _, hD1, ?_, same_D nD1 s4, ?_⟩
              · rw [List.length_map, List.length_range]
                exact small1000 (by omega)
              · rw [upd_same, List.range_succ, List.map_append]; rfl
            · rintro H4 ⟨s4, hD1⟩
              refine ⟨_, rfl, D1, rfl, ⟨_, SqL.of hD1⟩, fun D2 nD2 => ?_⟩
              refine lc_list (K := K) (a := D1) (xs := (List.range m).map fun (t : Nat) => V.int (f + 1 * s * (0 + (t : Int)))) (fun i H' => Same H4 H' ∧ ∃ ws, H' D2 = some (.lst ws) ∧ RowsAt H' ws (((List.range m).map fun (t : Nat) => (⟨some (f + s * (t : Int)), none, s * m⟩ : Rw)).take i)) ⟨same_upd nD2, [], upd_same, .nil⟩ (fun i H' _ ⟨s5, _⟩ => SqL.of (s5 _ _ hD1)) ?_ ?_
              · rintro i x H' hx ⟨s5, ws, hD2, hr2⟩
                obtain ⟨hi, hx⟩ : i < m ∧ x = V.int (f + 1 * s * (0 + (i : Int))) := by
                  rw [List.getElem?_map, Option.map_eq_some_iff] at hx
                  obtain ⟨y, hy, rfl⟩ := hx
                  obtain ⟨h1, h2⟩ := List.getElem?_eq_some_iff.mp hy
                  rw [List.getElem_range] at h2
                  rw [List.length_range] at h1
                  exact ⟨h1, by rw [h2]⟩
                subst hx
                refine ⟨rfl, ?_⟩
                unfold tYes
                refine iteT ⟨_, rfl, false, rfl, iteF ⟨_, rfl, _, rfl, _, rfl, _, _, rfl, rfl, .inr ⟨by omega, by omega⟩, by show 3 ≤ sizeLine; decide, fun p2 np2 => ?_⟩⟩
                refine ⟨ws, same_upd np2 _ _ hD2, ?_, same_D nD2 (s5.trans (same_upd np2)), ws ++ [.ref p2], upd_same, ?_⟩
                · have e := pairedLen hr2
                  rw [List.length_take, List.length_map, List.length_range] at e
                  exact small1000 (by omega)
                · have hi2 : ((List.range m).map fun (t : Nat) => (⟨some (f + s * (t : Int)), none, s * m⟩ : Rw))[i]? = some ((fun (t : Nat) => (⟨some (f + s * (t : Int)), none, s * m⟩ : Rw)) i) := by
                    rw [List.getElem?_map, List.getElem?_range hi]; rfl
                  rw [take_snoc hi2]
                  have s6 := same_upd (o := .tup [.int (f + 1 * s * (0 + (i : Int))), .non, .int (s * m)]) np2
                  refine pairedSnoc (Paired.mapP hr2 fun _ _ z => keepRow _ (s6 _ _ hD2) (z.same s6)) (keepRow _ (s6 _ _ hD2) ⟨p2, rfl, ?_⟩)
                  rw [upd_same]
                  have e4 : f + 1 * s * (0 + (i : Int)) = f + s * i := by rw [Int.zero_add, Int.one_mul]
                  rw [e4]
                  rfl
              · rintro H5 ⟨s5, ws, hD2, hr2⟩
                have e3 : ((List.range m).map fun (t : Nat) => (⟨some (f + s * (t : Int)), none, s * m⟩ : Rw)).take ((List.range m).map fun (t : Nat) => V.int (f + 1 * s * (0 + (t : Int)))).length = (List.range m).map fun (t : Nat) => (⟨some (f + s * (t : Int)), none, s * m⟩ : Rw) := by
                  rw [List.length_map, List.length_range]
                  exact List.take_of_length_le (by rw [List.length_map, List.length_range]; exact Nat.le_refl _)
                rw [e3] at hr2
                exact k3 D2 ws _ H5 (s4.trans s5) hD2 hr2 (resid_up hs (by omega) hm4)

      · refine iteN (Bool.eq_false_iff.mpr c2) ?_
        refine go_next ?_
        dsimp only
        refine go_seq ?_
        refine go_if ?_
        refine and_go (c := decide (1 < way)) (d := f0.isSome && l0.isSome) (fun R hR => ⟨_, rfl, _, _, rfl, rfl, _, rfl, hR⟩) (fun R hR => and_go (c := f0.isSome) (d := l0.isSome) (fun R hR => ?_) (fun R hR => ?_) hR) ?_
        · cases f0 with
          | none => exact ⟨_, rfl, _, rfl, hR⟩
          | some f => exact ⟨_, rfl, _, rfl, hR⟩
        · cases l0 with
          | none => exact ⟨_, rfl, _, rfl, hR⟩
          | some l => exact ⟨_, rfl, _, rfl, hR⟩
        by_cases c3 : (decide (1 < way) && (f0.isSome && l0.isSome)) = true
        · refine iteB c3 ?_
          cases f0 with
          | none => simp at c3
          | some f =>
          cases l0 with
          | none => simp at c3
          | some l =>
          refine ⟨Nat.zero_le _, fun D1 nD1 => ?_⟩
          refine ⟨_, rfl, (m : Int), rfl, by omega, by omega, for_range (lo := 0) (n := m) (fun i σ H' => ∃ o12 o13, σ = [some (.ref q), some (.ref t), some (.int f), some (.int l), some (.int s), some (.int way), some (.int (m : Int)), none, none, none, none, some (.ref D1), o12, o13] ∧
            Same H3 H' ∧ ∃ ws, H' D1 = some (.lst ws) ∧ RowsAt H' ws ((List.range i).filterMap (piece f l s m))) ⟨_, _, rfl, same_upd nD1, [], upd_same, .nil⟩ ?_ ?_⟩
          · rintro i σ H' hi ⟨o12, o13, rfl, s4, ws, hD1, hr1⟩
            have ei : (0 : Int) + (i : Int) = i := Int.zero_add _
            rw [ei]
            refine ⟨_, rfl, _, rfl, _, rfl, _, _, rfl, rfl, .inr ⟨by omega, by omega⟩, _, _, rfl, rfl, ?_⟩
            refine ⟨_, rfl, _, rfl, _, _, rfl, rfl, _, rfl, ?_⟩
            rw [List.range_succ, List.filterMap_append]
            by_cases c4 : f + s * (i : Int) ≤ l
            · refine iteB (decide_eq_true c4) ?_
              have lw := pairedLen hr1
              have lw2 := List.length_filterMap_le (piece f l s m) (List.range i)
              rw [List.length_range] at lw2
              have q0 : (l - (f + s * i)) / (s * m) * s * m = s * m * ((l - (f + s * i)) / (s * m)) := by rw [Int.mul_assoc, Int.mul_comm]
              refine ⟨_, rfl, .inl ⟨rfl, _, SqL.of hD1⟩, _, rfl, _, rfl, _, rfl, _, rfl, _, _, rfl, rfl, _, rfl, _, rfl, _, _, rfl, rfl, .inr ⟨by omega, by omega⟩, _, _, rfl, rfl, wide_div (b := 64) sm0 (by omega) (by decide) (by decide),
                _, rfl, _, _, rfl, rfl, .inr ⟨by omega, by omega⟩, _, rfl, _, _, rfl, rfl, .inr ⟨by omega, by omega⟩, _, _, rfl, rfl, _, rfl, _, rfl, _, _, rfl, rfl, .inr ⟨by omega, by omega⟩, by show 3 ≤ sizeLine; decide, fun p2 np2 => ?_⟩
              have s6 := same_upd (o := .tup [.int (f + s * i), .int (f + s * i + (l - (f + s * i)) / (s * m) * s * m), .int (s * m)]) np2
              refine ⟨D1, ws, _, rfl, rfl, s6 _ _ hD1, small1000 (by omega), _, _, rfl, same_D nD1 (s4.trans s6), _, upd_same, ?_⟩
              have ep : piece f l s m i = some ⟨some (f + s * i), some (f + s * i + (l - (f + s * i)) / (s * m) * s * m), s * m⟩ := by
                unfold piece
                rw [if_pos c4]
              rw [List.filterMap_cons, ep, List.filterMap_nil]
              exact pairedSnoc (Paired.mapP hr1 fun _ _ z => keepRow _ (s6 _ _ hD1) (z.same s6)) (keepRow _ (s6 _ _ hD1) ⟨p2, rfl, upd_same⟩)
            · refine iteN (decide_eq_false c4) ⟨_, _, rfl, s4, ws, hD1, ?_⟩
              have ep : piece f l s m i = none := by
                unfold piece
                rw [if_neg c4]
              rw [List.filterMap_cons, ep, List.filterMap_nil, List.append_nil]
              exact hr1
          · rintro σ H' ⟨o12, o13, rfl, s4, ws, hD1, hr1⟩
            exact ⟨_, rfl, k3 D1 ws _ H' s4 hD1 hr1 (resid_fin hs (by omega) hm4)⟩
        · refine iteN (Bool.eq_false_iff.mpr c3) ?_
          exact one _ _ rfl (Same.refl _)
end
end K16
/-! drawn -/
namespace K16
open PySem PySem.Spec PyProof.Rows L2
/-- one of some whole numbers, handed back by patch -/
theorem patch_int {H : Hp} {q c p : Addr} {T : Nat} {ns : List Int} {Q : VK} (hq : Qt H q c T) (hT : T < 2 ^ 20) (np : H p = none) (h0 : 0 < ns.length) (h1 : ns.length < 2 ^ 20)
    (k : ∀ (n : Int) (H' : Hp), n ∈ ns → Qt H' q c (T + 1) → SB q H H' → Q (.int n) H') : spPatch [.ref q, .ref p] (upd H p (.lst (ns.map V.int))) Q E0 := by
  refine ⟨q, c, p, _, T, rfl, hq.same (same_upd np), hT, upd_same, hq.ne np, by rw [List.length_map]; exact h0, by rw [List.length_map]; exact h1, fun v H' hv hq' sb => ?_⟩
  obtain ⟨n, hn, rfl⟩ := List.mem_map.mp hv
  exact k n H' hn hq' ((SB.of (same_upd np)).trans sb)
section
variable {P : Program} {w : World} {K : PySem.W.Frag} {mg : Str → Option Value} {base : Heap}
def N_drawn : List Str := ["_law_quilt_here", "_law_step", "_law_base", "_law_found", "_law_rest", "_law_way", "_law_first", "_law_last"]
theorem scDrawn : FnScope N_drawn ["_law_quilt_here"] (defScope sDrawn) := ⟨rfl, rfl, rfl, by decide +kernel, rfl, by decide +kernel, by decide +kernel⟩
def spDrawn : Sp := fun vs H Q _ => ∃ (q c : Addr) (T : Nat), vs = [.ref q] ∧ Qt H q c T ∧ T + 100 < 2 ^ 20 ∧
  ∀ (p : Addr) (ws : List V) (rs : List Rw) (H' : Hp), Qt H' q c (T + 100) → SB q H H' → H' p = some (.lst ws) → H p = none → RowsAt H' ws rs → Drawn rs → Q (.ref p) H'
theorem cal_drawn (T : Bi mg) (D : Def K mg "_law_drawn" sDrawn) (c1 : Cal P w K mg base 1 "_law_stitch" spStitch) (c2 : Cal P w K mg base 2 "_law_patch" spPatch) : Cal P w K mg base 3 "_law_drawn" spDrawn := by
  refine cal_of D (ps := ["_law_quilt_here"]) (fun _ _ _ _ _ _ us hl => match us, hl with | [_], _ => rfl) scDrawn (fun vs H Q E h => ?_) (fun f' cdv A outer s H vs Q E hr h => ?_)
  · obtain ⟨_, _, _, rfl, _⟩ := h
    rfl
  · obtain ⟨q, c, T0, rfl, hq, hT, k⟩ := h
    refine ⟨_, pss_cons (ps_par3 (i := 1) (j := 2) (l := 3) (by rfl) scDrawn.nd rfl rfl rfl (by decide) (by decide) (by decide) (by rfl) (by rfl) (by rfl)
        (pa_cons (pe_c c2 hr (by decide) (by rfl) (pa_cons (pv 0) (pa_cons (pe_lst (pa_cons pe_int (pa_cons pe_int (pa_cons pe_int (pa_cons pe_int (pa_cons (pe_op op_pow pe_int pe_int) pa_nil)))))) pa_nil)))
        (pa_cons (pe_c c2 hr (by decide) (by rfl) (pa_cons (pv 0) (pa_cons (pe_lst (pa_cons pe_int (pa_cons (pe_un un_neg pe_int) (pa_cons (pe_op op_pow pe_int pe_int) pa_nil)))) pa_nil))) (pa_cons (pe_lst pa_nil) pa_nil))) (by rfl))
      (pss_cons (ps_for PassesOwn.never rfl (pi_range1 (by rfl) T.range (pa_cons (pe_callB (call_min2 (by rfl)) (by rfl) T.min (by decide +kernel) (pa_cons (pv 1) (pa_cons pe_int pa_nil))) pa_nil)) (pg_name (i := 4) scDrawn.nd rfl (.inl rfl))
        (pss_cons (ps_par (i := 5) (j := 6) (by rfl) scDrawn.nd rfl rfl (by decide) (by rfl) (by rfl) (pa_cons (pe_c c1 hr (by decide) (by rfl) (pa_cons (pv 0) (pa_cons pe_int pa_nil)))
          (pa_cons (pe_op op_add (pe_op op_add (pv 2) (pv 4)) (pe_op op_mul (pv 1) (pe_c c1 hr (by decide) (by rfl) (pa_cons (pv 0) (pa_cons pe_int pa_nil))))) pa_nil)) (by rfl))
        (pss_cons (ps_set (i := 7) scDrawn.nd rfl (.inl rfl) (pe_op op_add (pv 6) (pe_op op_mul (pv 1) (pe_c c2 hr (by decide) (by rfl) (pa_cons (pv 0) (pa_cons (pe_lst (pa_cons pe_int (pa_cons pe_int (pa_cons pe_int (pa_cons pe_int (pa_cons (pe_op op_pow pe_int pe_int) pa_nil)))))) pa_nil))))))
        (pss_one (ps_if (pt_cmpR op_lt (pv 5) pe_int (nomark _)) (pss_one (ps_expr (pe_bm PySem.F.plainAttrs_list PySem.F.slot_list_append PySem.F.type_list_append mt_append (pv 3) (pa_cons
          (pe_ix ix_list (pe_lst (pa_cons (pe_tup (pa_cons (pv 6) (pa_cons (pv 7) (pa_cons (pv 1) pa_nil)))) (pa_cons (pe_tup (pa_cons pe_non (pa_cons (pv 7) (pa_cons (pv 1) pa_nil)))) (pa_cons (pe_tup (pa_cons (pv 6) (pa_cons pe_non (pa_cons (pv 1) pa_nil))))
            (pa_cons (pe_tup (pa_cons (pv 6) (pa_cons (pv 7) (pa_cons (pv 1) pa_nil)))) pa_nil))))) (pv 5) (fun _ _ => rfl)) pa_nil)))) pss_nil)))))
      (pss_one (ps_ret (pv 3)))), ?_⟩
    have pw : ∀ {i j : Int}, 0 ≤ i → i < 2 ^ 64 → 0 ≤ j → j ≤ 100 → CPow i j := fun h1 h2 h3 h4 => ⟨h3, by omega, by omega⟩
    refine ⟨_, rfl, _, _, rfl, rfl, pw (by decide) (by decide) (by decide) (by decide), by show 5 ≤ sizeLine; decide, fun p1 np1 => ?_⟩
    refine patch_int (ns := [2, 1, 3, 6, 10 ^ 15]) hq (by omega) np1 (by decide) (by decide) fun step H1 hstep hq1 sb1 => ?_
    have st0 : 0 < step ∧ step ≤ 10 ^ 15 := by
      simp only [List.mem_cons, List.not_mem_nil, or_false] at hstep
      rcases hstep with rfl | rfl | rfl | rfl | rfl <;> decide
    refine ⟨_, rfl, _, rfl, _, _, rfl, rfl, pw (by decide) (by decide) (by decide) (by decide), by show 3 ≤ sizeLine; decide, fun p2 np2 => ?_⟩
    refine patch_int (ns := [0, -9, 10 ^ 30]) hq1 (by omega) np2 (by decide) (by decide) fun bs H2 hbs hq2 sb2 => ?_
    refine ⟨Nat.zero_le _, fun D nD => ⟨_, _, _, rfl, ?_⟩⟩
    have nD2 : H2 D = none := nD
    have sb12 := sb1.trans sb2
    obtain ⟨N, hN, hN6, hNs⟩ : ∃ N : Nat, (if (6 : Int) < step then 6 else step) = (N : Int) ∧ N ≤ 6 ∧ (N : Int) ≤ step := by
      by_cases c6 : (6 : Int) < step
      · exact ⟨6, if_pos c6, by omega, by omega⟩
      · exact ⟨step.toNat, by rw [if_neg c6]; omega, by omega, by omega⟩
    have hDq : D ≠ q := hq2.ne nD2
    have hDc : D ≠ c := hq2.nec nD2
    have nDH : H D = none := by
      cases e : H D with
      | none => rfl
      | some o => rw [sb12 D o hDq e] at nD2; cases nD2
    refine ⟨_, rfl, _, _, rfl, (N : Int), by rw [hN], by omega, by omega, for_range (lo := 0) (n := N) (fun i σ H' => ∃ o4 o5 o6 o7, σ = [some (.ref q), some (.int step), some (.int bs), some (.ref D), o4, o5, o6, o7] ∧ SB q H H' ∧ Qt H' q c (T0 + 2 + 3 * i) ∧
      ∃ ws rs, H' D = some (.lst ws) ∧ RowsAt H' ws rs ∧ Rests step bs i rs) ?_ ?_ ?_⟩
    · exact ⟨none, none, none, none, rfl, sb12.trans (SB.of (same_upd nD2)), hq2.same (same_upd nD2), [], [], upd_same, .nil, Rests.nil⟩
    · rintro i σ H3 hi ⟨o4, o5, o6, o7, rfl, sb3, hq3, ws, rs, hD, hr', hR⟩
      refine ⟨_, rfl, q, c, 5, _, rfl, hq3, by omega, by decide, by decide, fun way H4 w0 w1 hq4 sb4 => ?_⟩
      refine ⟨_, rfl, _, rfl, _, _, rfl, rfl, _, rfl, _, rfl, q, c, 3, _, rfl, hq4, by omega, by decide, by decide, fun k1 H5 k0 k1' hq5 sb5 => ⟨_, _, rfl, rfl, .inl ⟨by omega, by omega⟩, _, _, rfl, rfl, _, _, rfl, ?_⟩⟩
      refine ⟨_, rfl, _, rfl, _, rfl, _, _, rfl, rfl, pw (by decide) (by decide) (by decide) (by decide), by show 5 ≤ sizeLine; decide, fun p3 np3 => ?_⟩
      refine patch_int (ns := [3, 0, 8, 25, 10 ^ 20]) hq5 (by omega) np3 (by decide) (by decide) fun k2 H6 hk2 hq6 sb6 => ⟨_, _, rfl, rfl, .inl ⟨by omega, by omega⟩, _, _, rfl, rfl, ?_⟩
      have k20 : 0 ≤ k2 := by
        simp only [List.mem_cons, List.not_mem_nil, or_false] at hk2
        rcases hk2 with rfl | rfl | rfl | rfl | rfl <;> decide
      have sb46 := (sb4.trans sb5).trans sb6
      have hD6 := sb46 D _ hDq hD
      have hr6 := hr'.sb hq3 sb46
      have sbH6 := sb3.trans sb46
      have hq6' : Qt H6 q c (T0 + 2 + 3 * (i + 1)) := hq6.mono (by omega)
      have lw := pairedLen hr'
      have lr := hR.len
      rw [Int.zero_add]
      dsimp only
      generalize hfi : bs + (i : Int) + step * k1 = first
      have f1 : first % step = (bs + i) % step := by
        rw [← hfi]
        exact Int.add_mul_emod_self_left ..
      have q1 : 0 ≤ step * k2 := Int.mul_nonneg (by omega) k20
      generalize hla : first + step * k2 = last
      have l1 : last % step = first % step := by
        rw [← hla]
        exact Int.add_mul_emod_self_left ..
      have ok1 : (⟨some first, some last, step⟩ : Rw).Ok := ⟨st0.1, .inl (by simp), fun f l e1 e2 => by
        cases e1
        cases e2
        exact ⟨by omega, Int.emod_eq_emod_iff_emod_sub_eq_zero.mp l1⟩⟩
      have ok2 : (⟨none, some last, step⟩ : Rw).Ok := ⟨st0.1, .inr (by simp), fun f l e1 _ => nomatch e1⟩
      have ok3 : (⟨some first, none, step⟩ : Rw).Ok := ⟨st0.1, .inl (by simp), fun f l _ e2 => nomatch e2⟩
      refine ⟨_, rfl, _, _, rfl, rfl, _, rfl, ?_⟩
      by_cases cw : way < 4
      · refine iteB (decide_eq_true cw) ?_
        refine ⟨_, rfl, .inl ⟨rfl, _, SqL.of hD6⟩, _, rfl, _, rfl, _, rfl, by show 3 ≤ sizeLine; decide, fun a1 n1 => ⟨_, rfl, _, rfl, by show 3 ≤ sizeLine; decide, fun a2 n2 => ⟨_, rfl, _, rfl, by show 3 ≤ sizeLine; decide, fun a3 n3 =>
          ⟨_, rfl, _, rfl, _, rfl, by show 3 ≤ sizeLine; decide, fun a4 n4 => ⟨by show 4 ≤ sizeLine; decide, fun a5 n5 => ?_⟩⟩⟩⟩⟩
        have t1 := same_upd (o := .tup [.int first, .int last, .int step]) n1
        have t2 := same_upd (o := .tup [.non, .int last, .int step]) n2
        have t3 := same_upd (o := .tup [.int first, .non, .int step]) n3
        have t4 := same_upd (o := .tup [.int first, .int last, .int step]) n4
        have t5 := same_upd (o := .lst [.ref a1, .ref a2, .ref a3, .ref a4]) n5
        have s15 := t1.trans (t2.trans (t3.trans (t4.trans t5)))
        have r1 := t5 _ _ (t4 _ _ (t3 _ _ (t2 _ _ (upd_same (H := H6) (a := a1) (o := .tup [.int first, .int last, .int step])))))
        have r2 := t5 _ _ (t4 _ _ (t3 _ _ upd_same))
        have r3 := t5 _ _ (t4 _ _ upd_same)
        have r4 := t5 _ _ upd_same
        obtain ⟨j, rfl⟩ := Int.eq_ofNat_of_zero_le w0
        have hj : j < 4 := by omega
        have pick : ∀ H7 : Hp, H7 a1 = some (.tup [.int first, .int last, .int step]) → H7 a2 = some (.tup [.non, .int last, .int step]) → H7 a3 = some (.tup [.int first, .non, .int step]) → H7 a4 = some (.tup [.int first, .int last, .int step]) →
            ∃ a r, [V.ref a1, V.ref a2, V.ref a3, V.ref a4][j]? = some (.ref a) ∧ RowAt H7 (.ref a) r ∧ r.Ok ∧ r.s = step ∧ r.rest = (bs + i) % step := fun H7 r1 r2 r3 r4 => by
          match j, hj with
          | 0, _ => exact ⟨a1, ⟨some first, some last, step⟩, rfl, ⟨_, rfl, r1⟩, ok1, rfl, f1⟩
          | 1, _ => exact ⟨a2, ⟨none, some last, step⟩, rfl, ⟨_, rfl, r2⟩, ok2, rfl, l1.trans f1⟩
          | 2, _ => exact ⟨a3, ⟨some first, none, step⟩, rfl, ⟨_, rfl, r3⟩, ok3, rfl, f1⟩
          | 3, _ => exact ⟨a4, ⟨some first, some last, step⟩, rfl, ⟨_, rfl, r4⟩, ok1, rfl, f1⟩
        obtain ⟨a, r, g1, g2, g3, g4, g5⟩ := pick _ r1 r2 r3 r4
        refine ⟨_, rfl, a5, _, _, _, rfl, rfl, SqL.of upd_same, atI_nat g1, D, ws, _, rfl, rfl, s15 _ _ hD6, small1000 (by omega), ?_⟩
        refine ⟨_, _, _, _, rfl, fun b o n hb => ?_, ?_, _, _, upd_same, pairedSnoc (Paired.mapP hr6 fun _ _ z => keepRow _ (s15 _ _ hD6) (z.same s15)) (keepRow _ (s15 _ _ hD6) g2), hR.add (by omega) g3 g4 g5⟩
        · rw [upd_ne (ne_of_none hb nDH)]
          exact s15 _ _ (sbH6 _ _ n hb)
        · exact (hq6'.same s15).put hDq hDc
      · refine iteN (decide_eq_false cw) ⟨_, _, _, _, rfl, sbH6, hq6', ws, rs, hD6, hr6, hR.skip⟩
    · rintro σ H3 ⟨o4, o5, o6, o7, rfl, sb3, hq3, ws, rs, hD, hr', hR⟩
      exact ⟨_, rfl, k D ws rs H3 (hq3.mono (by omega)) sb3 hD nDH hr' (hR.drawn hN6 st0.2)⟩
end
end K16
/-! patched -/
namespace K16
open PySem PySem.Spec PyProof.Rows L2
theorem pairedErase {α β : Type} {F : α → β → Prop} : ∀ {xs : List α} {ys : List β} (k : Nat), Paired F xs ys → Paired F (xs.eraseIdx k) (ys.eraseIdx k)
  | _, _, _, .nil => .nil
  | _, _, 0, .cons _ t => t
  | _, _, k + 1, .cons a t => .cons a (pairedErase k t)
theorem erase_perm {α : Type} {x : α} : ∀ {l : List α} {k : Nat}, l[k]? = some x → (x :: l.eraseIdx k).Perm l
  | [], _, h => by simp at h
  | a :: l, 0, h => by
    simp at h
    subst h
    exact List.Perm.refl _
  | a :: l, k + 1, h => (List.Perm.swap a x _).trans ((erase_perm (l := l) (k := k) (by simpa using h)).cons a)
theorem seqIdx {k n : Nat} (h : k < n) : seqIndex? (k : Int) n = some k := by
  unfold seqIndex?
  simp
  omega
section
variable {P : Program} {w : World} {K : PySem.W.Frag} {mg : Str → Option Value} {base : Heap}
def N_patched : List Str := ["_law_quilt_here", "_law_rows", "_law_found", "_law_left", "_law_row"]
theorem scPatched : FnScope N_patched ["_law_quilt_here", "_law_rows"] (defScope sPatched) := ⟨rfl, rfl, rfl, by decide +kernel, rfl, by decide +kernel, by decide +kernel⟩
def spPatched : Sp := fun vs H Q _ => ∃ (q c p : Addr) (us : List V) (rs : List Rw) (T : Nat), vs = [.ref q, .ref p] ∧ Qt H q c T ∧ T + 100 < 2 ^ 20 ∧ H p = some (.lst us) ∧ p ≠ q ∧ RowsAt H us rs ∧ Drawn rs ∧
  ∀ (p' : Addr) (ws : List V) (bs : List Rw) (H' : Hp), Qt H' q c (T + 100) → SB q H H' → H' p' = some (.lst ws) → RowsAt H' ws bs → Good bs → SameN bs rs → Q (.ref p') H'
theorem cal_patched (T : Bi mg) (D : Def K mg "_law_patched" sPatched) (c1 : Cal P w K mg base 1 "_law_stitch" spStitch) (c2 : Cal P w K mg base 2 "_law_broken" spBroken) : Cal P w K mg base 3 "_law_patched" spPatched := by
  refine cal_of D (ps := ["_law_quilt_here", "_law_rows"]) (fun _ _ _ _ _ _ us hl => match us, hl with | [_, _], _ => rfl) scPatched (fun vs H Q E h => ?_) (fun f' cdv A outer s H vs Q E hr h => ?_)
  · obtain ⟨_, _, _, _, _, _, rfl, _⟩ := h
    rfl
  · obtain ⟨q, c, p, us, rs, T0, rfl, hq, hT, hp, hpq, hR, hdr, k⟩ := h
    refine ⟨_, pss_cons (ps_par (i := 2) (j := 3) (by rfl) scPatched.nd rfl rfl (by decide) (by rfl) (by rfl) (pa_cons (pe_lst pa_nil) (pa_cons (pe_lst pa_nil) pa_nil)) (by rfl))
      (pss_cons (ps_for PassesOwn.never rfl (pi_list (pv 1)) (pg_name (i := 4) scPatched.nd rfl (.inl rfl))
        (pss_one (ps_set (i := 3) scPatched.nd rfl (.inl rfl) (pe_op op_cat (pv 3) (pe_c c2 hr (by decide) (by rfl) (pa_cons (pv 0) (pa_cons (pv 4) pa_nil)))))))
      (pss_cons (ps_while PassesOwn.never (pt_cmpR (op_neN (hu_of hr)) (pv 3) (pe_lst pa_nil) (nomark _))
        (pss_one (ps_expr (pe_bm PySem.F.plainAttrs_list PySem.F.slot_list_append PySem.F.type_list_append mt_append (pv 2) (pa_cons
          (pe_bm PySem.F.plainAttrs_list PySem.F.slot_list_pop PySem.F.type_list_pop mt_popAt (pv 3) (pa_cons (pe_c c1 hr (by decide) (by rfl) (pa_cons (pv 0) (pa_cons (pe_callB call_len_seq (by rfl) T.len PySem.boot_len (pa_cons (pv 3) pa_nil)) pa_nil))) pa_nil)) pa_nil)))))
      (pss_one (ps_ret (pv 2))))), ?_⟩
    have hul := pairedLen hR
    have h6 := hdr.len
    refine ⟨Nat.zero_le _, fun F nF => ⟨Nat.zero_le _, fun L nL => ⟨_, _, rfl, ?_⟩⟩⟩
    have sF : Same H (upd H F (.lst [])) := same_upd nF
    have sL : Same (upd H F (.lst [])) (upd (upd H F (.lst [])) L (.lst [])) := same_upd nL
    have hFL : F ≠ L := ne_of_none (upd_same (H := H) (a := F) (o := .lst [])) nL
    refine ⟨_, rfl, p, rfl, ⟨_, SqL.of (sL _ _ (sF _ _ hp))⟩, for_list (K := K) (a := p) (xs := us) (fun i σ H' => ∃ L o4 ws bs, σ = [some (.ref q), some (.ref p), some (.ref F), some (.ref L), o4] ∧ SB q H H' ∧ Qt H' q c (T0 + 2 * i) ∧ H' F = some (.lst []) ∧ H' L = some (.lst ws) ∧ F ≠ L ∧ L ≠ q ∧ L ≠ c ∧
      H L = none ∧ RowsAt H' ws bs ∧ Acc bs (rs.take i)) ?_ ?_ ?_ ?_⟩
    · refine ⟨L, none, [], [], rfl, SB.of (sF.trans sL), hq.same (sF.trans sL), sL _ _ upd_same, upd_same, hFL, (hq.same sF).ne nL, (hq.same sF).nec nL, sF.free nL, .nil, Acc.nil⟩
    · rintro i σ H' _ ⟨L, o4, ws, bs, rfl, sb, _⟩
      exact SqL.of (sb _ _ hpq hp)
    · rintro i x σ H1 hx ⟨L, o4, ws, bs, rfl, sb1, hq1, hF1, hL1, nFL, nLq, nLc, nLH, hr1, ac⟩
      obtain ⟨r, hr', hxr⟩ := pairedGet hR hx
      have hm := List.mem_of_getElem? hr'
      have hi : i < 6 := by
        obtain ⟨h1, _⟩ := List.getElem?_eq_some_iff.mp hr'
        omega
      refine ⟨_, rfl, _, rfl, _, rfl, q, c, x, r, _, rfl, hq1, by omega, hxr.sb hq sb1, (hdr.ok r hm).1, (hdr.ok r hm).2, fun b zs ps' H2 hq2 sb2 hb hrb pt => ?_⟩
      have lw := pairedLen hr1
      have lz := pairedLen hrb
      have la := ac.len
      have lp := pt.len
      have lt : (rs.take i).length ≤ 6 := Nat.le_trans (List.length_take_le' _ _) h6
      refine ⟨L, b, ws, zs, rfl, rfl, sb2 _ _ nLq hL1, hb, Nat.le_of_lt (small1000 (by omega)), fun L2 nL2 => ?_⟩
      have s3 : Same H2 (upd H2 L2 (.lst (ws ++ zs))) := same_upd nL2
      have nF : F ≠ q := fun z => by
        obtain ⟨cells, turn, left, e, _⟩ := hq1
        rw [← z, hF1] at e
        cases e
      refine ⟨L2, _, _, _, rfl, (sb1.trans sb2).trans (SB.of s3), (hq2.same s3).mono (by omega), s3 _ _ (sb2 _ _ nF hF1), upd_same, ne_of_none (sb2 _ _ nF hF1) nL2, hq2.ne nL2, hq2.nec nL2, ?_, pairedApp ((hr1.sb hq1 sb2).same s3) (hrb.same s3), ?_⟩
      · cases e : H L2 with
        | none => rfl
        | some o =>
          rw [(sb1.trans sb2) L2 o (hq2.ne nL2) e] at nL2
          cases nL2
      · rw [take_snoc hr']
        refine ac.step pt (hdr.ok r hm).2 fun a ha => ?_
        have e0 : rs.take (i + 1) = rs.take i ++ [r] := take_snoc hr'
        have hd := hdr.disj.sublist (List.take_sublist (i + 1) rs)
        rw [e0, List.pairwise_append] at hd
        exact hd.2.2 a ha r (by simp)
    · rintro σ H1 ⟨L, o4, ws, bs, rfl, sb1, hq1, hF1, hL1, nFL, nLq, nLc, nLH, hr1, ac⟩
      rw [hul, List.take_length] at ac
      have la := ac.len
      have lw := pairedLen hr1
      have nFq : F ≠ q := fun z => by
        obtain ⟨cells, turn, left, e, _⟩ := hq1
        rw [← z, hF1] at e
        cases e
      dsimp only
      refine go_seq ?_
      refine while_by (fun σ H' => ∃ ws zs ws2 zs2, σ = [some (.ref q), some (.ref p), some (.ref F), some (.ref L), o4] ∧ SB q H H' ∧ Qt H' q c (T0 + 12 + zs2.length) ∧ H' F = some (.lst ws2) ∧ H' L = some (.lst ws) ∧ RowsAt H' ws2 zs2 ∧ RowsAt H' ws zs ∧ (zs2 ++ zs).Perm bs)
        (fun σ H' => match H' L with | some (.lst ws) => ws.length | _ => 0) ⟨ws, bs, [], [], rfl, sb1, hq1.mono (by show _ ≤ T0 + 12 + 0; omega), hF1, hL1, .nil, hr1, List.Perm.refl _⟩ ?_ ?_
      · rintro σ H2 ⟨ws, zs, ws2, zs2, rfl, sb2, hq2, hF2, hL2, hrf, hrz, pm⟩
        have lp := pm.length_eq
        rw [List.length_append] at lp
        have lw1 := pairedLen hrf
        have lw2 := pairedLen hrz
        refine ⟨_, rfl, Nat.zero_le _, fun e ne => ⟨L, e, _, rfl, rfl, SqL.of (same_upd ne _ _ hL2), SqL.of upd_same, _, rfl, ?_⟩⟩
        have s3 : Same H2 (upd H2 e (.lst [])) := same_upd ne
        generalize upd H2 e (.lst []) = H3 at s3 ⊢
        by_cases hz : ws = []
        · subst hz
          have hzs : zs = [] := by
            cases zs with
            | nil => rfl
            | cons a b => simp at lw2
          subst hzs
          rw [List.append_nil] at pm
          refine iteF ⟨_, rfl, k F ws2 zs2 H3 ((hq2.same s3).mono (by simp at lp; omega)) (sb2.trans (SB.of s3)) (s3 _ _ hF2) (hrf.same s3) (Good.perm (rs := bs) ⟨fun b hb => ?_, by omega, ac.disj⟩ pm) ((nums_perm pm).trans ac.nums)⟩
          have := ac.ok b hb
          exact ⟨this.1, by have := this.1.1; omega⟩
        · have hne : (!ws.isEmpty) = true := by
            cases ws with
            | nil => exact (hz rfl).elim
            | cons a b => rfl
          have lpos : 0 < ws.length := List.length_pos_iff.mpr hz
          have hF3 := s3 _ _ hF2
          have hL3 := s3 _ _ hL2
          refine iteB hne ⟨_, rfl, .inl ⟨rfl, _, SqL.of hF3⟩, _, rfl, .inl ⟨rfl, _, SqL.of hL3⟩, _, rfl, _, rfl, L, _, rfl, .inl (SqL.of hL3), q, c, ws.length, _, rfl, hq2.same s3, by omega, by omega, by omega, fun j H4 j0 j1 hq4 sb4 => ?_⟩
          obtain ⟨n, rfl⟩ := Int.eq_ofNat_of_zero_le j0
          have hn : n < ws.length := by omega
          obtain ⟨v, hv⟩ : ∃ v, ws[n]? = some v := ⟨ws[n], List.getElem?_eq_getElem hn⟩
          obtain ⟨z, hz', hrv⟩ := pairedGet hrz hv
          have hL4 := sb4 _ _ nLq hL3
          have hF4 := sb4 _ _ nFq hF3
          refine ⟨L, ws, _, n, v, rfl, rfl, hL4, by omega, by omega, seqIdx hn, hv, F, ws2, v, rfl, rfl, by rw [upd_ne nFL]; exact hF4, small1000 (by omega), ?_⟩
          have hq3 := hq2.same s3
          have hF5 : upd H4 L (.lst (ws.eraseIdx n)) F = some (.lst ws2) := by rw [upd_ne nFL]; exact hF4
          have kp : ∀ {u : V} {r : Rw}, RowAt H2 u r → RowAt (upd (upd H4 L (.lst (ws.eraseIdx n))) F (.lst (ws2 ++ [v]))) u r := fun hu => keepRow _ hF5 (keepRow _ hL4 ((hu.same s3).sb hq3 sb4))
          refine ⟨⟨ws.eraseIdx n, zs.eraseIdx n, ws2 ++ [v], zs2 ++ [z], rfl, fun b o nb hb => ?_, ?_, upd_same, by rw [upd_ne (Ne.symm nFL), upd_same], pairedSnoc (Paired.mapP hrf fun _ _ y => kp y) (kp hrv), pairedErase n (Paired.mapP hrz fun _ _ y => kp y), ?_⟩, ?_⟩
          · rw [upd_ne (ne_of_none hb nF), upd_ne (ne_of_none hb nLH)]
            exact sb4 _ _ nb (s3 _ _ (sb2 _ _ nb hb))
          · rw [List.length_append]
            exact (hq4.put nLq nLc).put nFq (hq.nec nF)
          · rw [List.append_assoc]
            refine List.Perm.trans ?_ pm
            exact List.Perm.append_left _ (erase_perm hz')
          · show (match upd (upd H4 L (.lst (ws.eraseIdx n))) F (.lst (ws2 ++ [v])) L with | some (.lst ws) => ws.length | _ => 0) < match H2 L with | some (.lst ws) => ws.length | _ => 0
            rw [upd_ne (Ne.symm nFL), upd_same, hL2]
            show (ws.eraseIdx n).length < ws.length
            rw [List.length_eraseIdx_of_lt hn]
            omega
      · rintro σ H' Q1 Q2 hq ⟨v, e1, l, g⟩
        exact ⟨v, e1, l, fun e ne => by
          obtain ⟨a, b, xs, h1, h2, h3, h4, c', h5, h6⟩ := g e ne
          exact ⟨a, b, xs, h1, h2, h3, h4, c', h5, hq _ _ h6⟩⟩
end
end K16
/-! changed -/
namespace K16
open PySem PySem.Spec PyProof.Rows L2
theorem cutV_pre {us : List V} {n : Nat} (h : n ≤ us.length) : cutV us none (some (n : Int)) = us.take n := by
  unfold cutV HT.sIx
  simp only [if_neg (Int.not_lt.mpr (Int.natCast_nonneg n)), List.drop_zero, Int.toNat_natCast, Nat.sub_zero]
  rw [Nat.min_eq_left h]
theorem cutV_post {us : List V} {n : Nat} (h : n < us.length) : cutV us (some ((n : Int) + 1)) none = us.drop (n + 1) := by
  unfold cutV HT.sIx
  have e : ((n : Int) + 1).toNat = n + 1 := by omega
  simp only [if_neg (show ¬ ((n : Int) + 1 < 0) by omega), e]
  rw [Nat.min_eq_left (by omega)]
  exact List.take_of_length_le (by rw [List.length_drop]; exact Nat.le_refl _)
theorem pairedTake {α β : Type} {F : α → β → Prop} : ∀ {xs : List α} {ys : List β} (k : Nat), Paired F xs ys → Paired F (xs.take k) (ys.take k)
  | _, _, _, .nil => by simp; exact .nil
  | _, _, 0, .cons _ t => .nil
  | _, _, k + 1, .cons a t => .cons a (pairedTake k t)
theorem pairedDrop {α β : Type} {F : α → β → Prop} : ∀ {xs : List α} {ys : List β} (k : Nat), Paired F xs ys → Paired F (xs.drop k) (ys.drop k)
  | _, _, _, .nil => by simp; exact .nil
  | _, _, 0, .cons a t => .cons a t
  | _, _, k + 1, .cons a t => pairedDrop k t
section
variable {K : PySem.W.Frag} {σ : L2.St} {H : Hp} {q c p : Addr} {T T' n : Nat} {us : List V} {rs : List Rw} {Q : VK}
abbrev tPre (K : PySem.W.Frag) (i j : Nat) : TE := tSl (rSlL K) (tVar i) tNoPart (tPart (tVar j))
abbrev tPost (K : PySem.W.Frag) (i j : Nat) : TE := tSl (rSlL K) (tVar i) (tPart (tOp (rI0 fun i j => .int (i + j)) (tVar j) (tC (.int 1)))) tNoPart
theorem cat_one {te : TE} {ok : Rw → Prop} {i1 i2 : Nat} (h1 : σ[i1]? = some (some (.ref p))) (h2 : σ[i2]? = some (some (.int (n : Int)))) (hp : H p = some (.lst us)) (hn : n < us.length) (hlen : us.length ≤ 900) (hpq : p ≠ q) (hq : Qt H q c T) (hR : RowsAt H us rs)
    (hte : ∀ (H1 : Hp) (R : VK), Same H H1 → (∀ v H2 r', Qt H2 q c T' → SB q H1 H2 → RowAt H2 v r' → ok r' → R v H2) → te σ H1 R)
    (k : ∀ p' ws H' r', Qt H' q c T' → SB q H H' → H' p' = some (.lst ws) → p' ≠ q → ok r' → RowsAt H' ws (rs.take n ++ [r'] ++ rs.drop (n + 1)) → Q (.ref p') H') :
    tOp rCat (tOp rCat (tPre K i1 i2) (tLst (tCons te tNil))) (tPost K i1 i2) σ H Q := by
  refine ⟨_, h1, _, h2, n, rfl, p, us, rfl, SqL.of hp, fun a na => ?_⟩
  rw [cutV_pre (Nat.le_of_lt hn)]
  have s1 : Same H (upd H a (.lst (us.take n))) := same_upd na
  have ha : upd H a (.lst (us.take n)) a = some (.lst (us.take n)) := upd_same
  generalize upd H a (.lst (us.take n)) = H1 at s1 ha ⊢
  refine hte H1 _ s1 fun v H2 r' hq2 sb2 hv hok => ?_
  have naq : a ≠ q := hq.ne na
  have ha2 := sb2 _ _ naq ha
  have hp2 := sb2 _ _ hpq (s1 _ _ hp)
  have hR2 := (hR.same s1).sb (hq.same s1) sb2
  refine ⟨by show 1 ≤ sizeLine; decide, fun b nb => ?_⟩
  have s3 : Same H2 (upd H2 b (.lst [v])) := same_upd nb
  have hb : upd H2 b (.lst [v]) b = some (.lst [v]) := upd_same
  generalize upd H2 b (.lst [v]) = H3 at s3 hb ⊢
  refine ⟨a, b, _, _, rfl, rfl, s3 _ _ ha2, hb, ?_, fun d nd => ?_⟩
  · rw [List.length_take]
    exact Nat.le_of_lt (small1000 (by show min n us.length + 1 ≤ 1000; omega))
  have s4 : Same H3 (upd H3 d (.lst (us.take n ++ [v]))) := same_upd nd
  have hd : upd H3 d (.lst (us.take n ++ [v])) d = some (.lst (us.take n ++ [v])) := upd_same
  generalize upd H3 d (.lst (us.take n ++ [v])) = H4 at s4 hd ⊢
  refine ⟨_, h1, _, h2, _, _, rfl, rfl, _, rfl, p, us, rfl, SqL.of (s4 _ _ (s3 _ _ hp2)), fun e ne => ?_⟩
  rw [cutV_post hn]
  have s5 : Same H4 (upd H4 e (.lst (us.drop (n + 1)))) := same_upd ne
  have he : upd H4 e (.lst (us.drop (n + 1))) e = some (.lst (us.drop (n + 1))) := upd_same
  generalize upd H4 e (.lst (us.drop (n + 1))) = H5 at s5 he ⊢
  refine ⟨d, e, _, _, rfl, rfl, s5 _ _ hd, he, ?_, fun g ng => ?_⟩
  · rw [List.length_append, List.length_take, List.length_drop]
    exact Nat.le_of_lt (small1000 (by show min n us.length + 1 + (us.length - (n + 1)) ≤ 1000; omega))
  have s6 : Same H5 (upd H5 g (.lst (us.take n ++ [v] ++ us.drop (n + 1)))) := same_upd ng
  have s36 := s3.trans (s4.trans (s5.trans s6))
  have hq3 := hq2.same (s3.trans (s4.trans s5))
  exact k g _ _ r' (hq2.same s36) ((SB.of s1).trans (sb2.trans (SB.of s36))) upd_same (hq3.ne ng) hok (pairedApp (pairedSnoc (pairedTake n (hR2.same s36)) (hv.same s36)) (pairedDrop (n + 1) (hR2.same s36)))
theorem cat_none {i1 i2 : Nat} (h1 : σ[i1]? = some (some (.ref p))) (h2 : σ[i2]? = some (some (.int (n : Int)))) (hp : H p = some (.lst us)) (hn : n < us.length) (hlen : us.length ≤ 900) (hq : Qt H q c T) (hR : RowsAt H us rs)
    (k : ∀ p' ws H', Qt H' q c T → SB q H H' → H' p' = some (.lst ws) → p' ≠ q → RowsAt H' ws (rs.take n ++ [] ++ rs.drop (n + 1)) → Q (.ref p') H') :
    tOp rCat (tPre K i1 i2) (tPost K i1 i2) σ H Q := by
  refine ⟨_, h1, _, h2, n, rfl, p, us, rfl, SqL.of hp, fun a na => ?_⟩
  rw [cutV_pre (Nat.le_of_lt hn)]
  have s1 : Same H (upd H a (.lst (us.take n))) := same_upd na
  have ha : upd H a (.lst (us.take n)) a = some (.lst (us.take n)) := upd_same
  generalize upd H a (.lst (us.take n)) = H1 at s1 ha ⊢
  refine ⟨_, h1, _, h2, _, _, rfl, rfl, _, rfl, p, us, rfl, SqL.of (s1 _ _ hp), fun e ne => ?_⟩
  rw [cutV_post hn]
  have s5 : Same H1 (upd H1 e (.lst (us.drop (n + 1)))) := same_upd ne
  have he : upd H1 e (.lst (us.drop (n + 1))) e = some (.lst (us.drop (n + 1))) := upd_same
  generalize upd H1 e (.lst (us.drop (n + 1))) = H5 at s5 he ⊢
  refine ⟨a, e, _, _, rfl, rfl, s5 _ _ ha, he, ?_, fun g ng => ?_⟩
  · rw [List.length_take, List.length_drop]
    exact Nat.le_of_lt (small1000 (by omega))
  have s6 : Same H5 (upd H5 g (.lst (us.take n ++ us.drop (n + 1)))) := same_upd ng
  have s16 := s1.trans (s5.trans s6)
  refine k g _ _ (hq.same s16) (SB.of s16) upd_same ((hq.same (s1.trans s5)).ne ng) ?_
  rw [List.append_nil]
  exact pairedApp (pairedTake n (hR.same s16)) (pairedDrop (n + 1) (hR.same s16))
end
theorem patch_two {H : Hp} {q c a1 a2 a3 : Addr} {T : Nat} {r1 r2 : Rw} {R : VK} (hq : Qt H q c T) (hT : T < 2 ^ 20) (n1 : H a1 = none) (n2 : upd H a1 (.tup (rwV r1)) a2 = none) (n3 : upd (upd H a1 (.tup (rwV r1))) a2 (.tup (rwV r2)) a3 = none)
    (kk : ∀ v H2 r', Qt H2 q c (T + 1) → SB q H H2 → RowAt H2 v r' → (r' = r1 ∨ r' = r2) → R v H2) : spPatch [.ref q, .ref a3] (upd (upd (upd H a1 (.tup (rwV r1))) a2 (.tup (rwV r2))) a3 (.lst [.ref a1, .ref a2])) R E0 := by
  have t1 : Same H _ := same_upd (o := .tup (rwV r1)) n1
  have t2 := same_upd (o := .tup (rwV r2)) n2
  have t3 := same_upd (o := .lst [.ref a1, .ref a2]) n3
  have q2 := hq.same (t1.trans t2)
  have q3 := q2.same t3
  have e1 := t3 _ _ (t2 _ _ (upd_same (H := H) (a := a1) (o := .tup (rwV r1))))
  have e2 := t3 _ _ (upd_same (H := upd H a1 (.tup (rwV r1))) (a := a2) (o := .tup (rwV r2)))
  refine ⟨q, c, a3, _, T, rfl, q3, hT, upd_same, q2.ne n3, by simp, by show 2 < 2 ^ 20; decide, fun v H' hv hq' sb => ?_⟩
  have sb0 : SB q H H' := (SB.of (t1.trans (t2.trans t3))).trans sb
  simp only [List.mem_cons, List.not_mem_nil, or_false] at hv
  rcases hv with rfl | rfl
  · exact kk _ H' r1 hq' sb0 (RowAt.sb q3 sb ⟨_, rfl, e1⟩) (.inl rfl)
  · exact kk _ H' r2 hq' sb0 (RowAt.sb q3 sb ⟨_, rfl, e2⟩) (.inr rfl)
section
variable {P : Program} {w : World} {K : PySem.W.Frag} {mg : Str → Option Value} {base : Heap}
def N_changed : List Str := ["_law_quilt_here", "_law_rows", "_law_at", "_law_first", "_law_last", "_law_step", "_law_far"]
theorem scChanged : FnScope N_changed ["_law_quilt_here", "_law_rows"] (defScope sChanged) := ⟨rfl, rfl, rfl, by decide +kernel, rfl, by decide +kernel, by decide +kernel⟩
def spChanged : Sp := fun vs H Q _ => ∃ (q c p : Addr) (us : List V) (rs : List Rw) (T : Nat), vs = [.ref q, .ref p] ∧ Qt H q c T ∧ T + 100 < 2 ^ 20 ∧ H p = some (.lst us) ∧ p ≠ q ∧ RowsAt H us rs ∧ Drawn rs ∧ rs ≠ [] ∧
  ∀ (p' : Addr) (ws : List V) (rs' : List Rw) (H' : Hp), Qt H' q c (T + 100) → SB q H H' → H' p' = some (.lst ws) → p' ≠ q → RowsAt H' ws rs' → Drawn rs' → ¬ SameN rs' rs → Q (.ref p') H'
theorem cal_changed (T : Bi mg) (D : Def K mg "_law_changed" sChanged) (c1 : Cal P w K mg base 1 "_law_stitch" spStitch) (c2 : Cal P w K mg base 2 "_law_patch" spPatch) : Cal P w K mg base 3 "_law_changed" spChanged := by
  refine cal_of D (ps := ["_law_quilt_here", "_law_rows"]) (fun _ _ _ _ _ _ us hl => match us, hl with | [_, _], _ => rfl) scChanged (fun vs H Q E h => ?_) (fun f' cdv A outer s H vs Q E hr h => ?_)
  · obtain ⟨_, _, _, _, _, _, rfl, _⟩ := h
    rfl
  · obtain ⟨q, c, p, us, rs, T0, rfl, hq, hT, hp, hpq, hR, hdr, hne, k⟩ := h
    refine ⟨_, pss_cons (ps_set (i := 2) scChanged.nd rfl (.inl rfl) (pe_c c1 hr (by decide) (by rfl) (pa_cons (pv 0) (pa_cons (pe_callB call_len_seq (by rfl) T.len PySem.boot_len (pa_cons (pv 1) pa_nil)) pa_nil))))
      (pss_cons (ps_asg (pe_ix ix_list (pv 1) (pv 2) (fun _ _ => rfl)) (pg_tup rfl (pgs_cons (pg_name (i := 3) scChanged.nd rfl (.inl rfl)) (pgs_cons (pg_name (i := 4) scChanged.nd rfl (.inl rfl)) (pgs_cons (pg_name (i := 5) scChanged.nd rfl (.inl rfl)) pgs_nil)))))
      (pss_cons (ps_if (PW.pt (pw_and (pt_cmp (pc_notN (pv 3))) (pw_and1 (pt_cmp (pc_notN (pv 4))))))
        (pss_cons (ps_if (PW.pt (pw_and (pt_cmpR op_eq (pe_c c1 hr (by decide) (by rfl) (pa_cons (pv 0) (pa_cons pe_int pa_nil))) pe_int (nomark _)) (pw_and1 (pt_cmpR op_lt (pv 3) (pv 4) (nomark _)))))
          (pss_one (ps_ret (pe_op op_cat (pe_op op_cat (pe_slice sl_list (pv 1) po_none (po_some (pv 2))) (pe_lst (pa_cons (pe_tup (pa_cons (pe_op op_add (pv 3) (pv 5)) (pa_cons (pv 4) (pa_cons (pv 5) pa_nil)))) pa_nil))) (pe_slice sl_list (pv 1) (po_some (pe_op op_add (pv 2) pe_int)) po_none)))) pss_nil)
        (pss_one (ps_ret (pe_ifExp (pt_cmpR op_eq (pv 3) (pv 4) (nomark _)) (pe_op op_cat (pe_slice sl_list (pv 1) po_none (po_some (pv 2))) (pe_slice sl_list (pv 1) (po_some (pe_op op_add (pv 2) pe_int)) po_none))
          (pe_op op_cat (pe_op op_cat (pe_slice sl_list (pv 1) po_none (po_some (pv 2))) (pe_lst (pa_cons (pe_tup (pa_cons (pv 3) (pa_cons (pe_op op_sub (pv 4) (pv 5)) (pa_cons (pv 5) pa_nil)))) pa_nil))) (pe_slice sl_list (pv 1) (po_some (pe_op op_add (pv 2) pe_int)) po_none)))))) pss_nil)
      (pss_cons (ps_set (i := 6) scChanged.nd rfl (.inl rfl) (pe_op op_mul (pv 5) (pe_c c2 hr (by decide) (by rfl) (pa_cons (pv 0) (pa_cons (pe_lst (pa_cons pe_int (pa_cons pe_int (pa_cons (pe_op op_pow pe_int pe_int) pa_nil)))) pa_nil)))))
      (pss_cons (ps_if (pt_cmp (pc_isN (pv 3))) (pss_one (ps_ret (pe_op op_cat (pe_op op_cat (pe_slice sl_list (pv 1) po_none (po_some (pv 2))) (pe_lst (pa_cons (pe_c c2 hr (by decide) (by rfl) (pa_cons (pv 0) (pa_cons
            (pe_lst (pa_cons (pe_tup (pa_cons (pe_op op_sub (pv 4) (pv 6)) (pa_cons (pv 4) (pa_cons (pv 5) pa_nil)))) (pa_cons (pe_tup (pa_cons pe_non (pa_cons (pe_op op_sub (pv 4) (pv 5)) (pa_cons (pv 5) pa_nil)))) pa_nil))) pa_nil))) pa_nil)))
          (pe_slice sl_list (pv 1) (po_some (pe_op op_add (pv 2) pe_int)) po_none)))) pss_nil)
      (pss_one (ps_ret (pe_op op_cat (pe_op op_cat (pe_slice sl_list (pv 1) po_none (po_some (pv 2))) (pe_lst (pa_cons (pe_c c2 hr (by decide) (by rfl) (pa_cons (pv 0) (pa_cons
            (pe_lst (pa_cons (pe_tup (pa_cons (pv 3) (pa_cons (pe_op op_add (pv 3) (pv 6)) (pa_cons (pv 5) pa_nil)))) (pa_cons (pe_tup (pa_cons (pe_op op_add (pv 3) (pv 5)) (pa_cons pe_non (pa_cons (pv 5) pa_nil)))) pa_nil))) pa_nil))) pa_nil)))
          (pe_slice sl_list (pv 1) (po_some (pe_op op_add (pv 2) pe_int)) po_none)))))))), ?_⟩
    have pw : ∀ {i j : Int}, 0 ≤ i → i < 2 ^ 64 → 0 ≤ j → j ≤ 100 → CPow i j := fun h1 h2 h3 h4 => ⟨h3, by omega, by omega⟩
    have hul := pairedLen hR
    have h6 := hdr.len
    have lpos : 0 < rs.length := List.length_pos_iff.mpr hne
    refine ⟨_, rfl, _, rfl, p, _, rfl, .inl (SqL.of hp), q, c, us.length, T0, rfl, hq, by omega, by omega, by omega, fun j H1 j0 j1 hq1 sb1 => ?_⟩
    obtain ⟨n, rfl⟩ := Int.eq_ofNat_of_zero_le j0
    have hn : n < us.length := by omega
    obtain ⟨v, hv⟩ : ∃ v, us[n]? = some v := ⟨us[n], List.getElem?_eq_getElem hn⟩
    have hp1 := sb1 _ _ hpq hp
    have hR1 := hR.sb hq sb1
    obtain ⟨r, hr', t, rfl, ht⟩ := pairedGet hR1 hv
    have okr := hdr.ok r (List.mem_of_getElem? hr')
    refine ⟨_, rfl, _, rfl, p, us, _, _, rfl, rfl, SqL.of hp1, atI_nat hv, t, _, rfl, SqT.of ht, rfl, _, _, rfl, _, _, rfl, _, _, rfl, rfl, ?_⟩
    -- the end
    have fin : ∀ (p' : Addr) (ws : List V) (ns : List Rw) (H' : Hp), Qt H' q c (T0 + 100) → SB q H1 H' → H' p' = some (.lst ws) → p' ≠ q → Less r ns → RowsAt H' ws (rs.take n ++ ns ++ rs.drop (n + 1)) → Q (.ref p') H' := fun p' ws ns H' hq' sb' hp' np' l hr'' =>
      k p' ws _ H' hq' (sb1.trans sb') hp' np' hr'' (changed_rows hdr hr' l).1 (changed_rows hdr hr' l).2
    clear k
    obtain ⟨f0, l0, s⟩ := r
    have hs : 0 < s := okr.1.1
    have hs15 : s ≤ 10 ^ 15 := okr.2
    have ok := okr.1
    cases f0 with
    | none =>
      cases l0 with
      | none => exact (ok.2.1.elim (fun h => h rfl) (fun h => h rfl)).elim
      | some l =>
        refine ⟨_, rfl, false, rfl, iteF (iteF ?_)⟩
        refine ⟨_, rfl, _, rfl, _, _, rfl, rfl, pw (by decide) (by decide) (by decide) (by decide), by show 3 ≤ sizeLine; decide, fun p3 np3 => ?_⟩
        refine patch_int (ns := [1, 5, 10 ^ 30]) hq1 (by omega) np3 (by decide) (by decide) fun m H2 hm hq2 sb2 => ⟨_, _, rfl, rfl, .inl ⟨by show -(2 ^ 64) < s; omega, by show s < 2 ^ 64; omega⟩, ?_⟩
        have m0 : 0 ≤ m := by
          simp only [List.mem_cons, List.not_mem_nil, or_false] at hm
          rcases hm with rfl | rfl | rfl <;> decide
        have hR2 := hR1.sb hq1 sb2
        have hp2 := sb2 _ _ hpq hp1
        refine ⟨_, rfl, true, rfl, iteT ?_⟩
        refine go_ret ?_
        refine cat_one (K := K) (T := T0 + 1 + 1) (T' := T0 + 1 + 1 + 1) (ok := fun r' => Less ⟨none, some l, s⟩ [r']) (σ := [some (.ref q), some (.ref p), some (.int (n : Int)), some .non, some (.int l), some (.int s), some (.int (s * m))]) rfl rfl hp2 hn (by omega) hpq hq2 hR2 (fun H3 R s3 kk => ?_) fun p' ws H' r' hq' sb' hp' np' l' hr'' => fin p' ws [r'] H' (hq'.mono (by omega)) (sb2.trans sb') hp' np' l' hr''
        refine ⟨_, rfl, _, rfl, _, rfl, _, _, rfl, rfl, _, rfl, _, rfl, by show 3 ≤ sizeLine; decide, fun a1 n1 => ⟨_, rfl, _, rfl, _, _, rfl, rfl, _, rfl, by show 3 ≤ sizeLine; decide, fun a2 n2 => ⟨by show 2 ≤ sizeLine; decide, fun a3 n3 => ?_⟩⟩⟩
        refine patch_two (r1 := ⟨some (l - s * m), some l, s⟩) (r2 := ⟨none, some (l - s), s⟩) (hq2.same s3) (by omega) n1 n2 n3 fun v H4 r' hq4 sb4 hv e => kk v H4 r' hq4 sb4 hv ?_
        rcases e with rfl | rfl
        · exact less_far_down hs m0
        · exact less_last ok fun f e => nomatch e
    | some f =>
      cases l0 with
      | none =>
        refine ⟨_, rfl, true, rfl, iteT ⟨_, rfl, false, rfl, iteF ?_⟩⟩
        refine ⟨_, rfl, _, rfl, _, _, rfl, rfl, pw (by decide) (by decide) (by decide) (by decide), by show 3 ≤ sizeLine; decide, fun p3 np3 => ?_⟩
        refine patch_int (ns := [1, 5, 10 ^ 30]) hq1 (by omega) np3 (by decide) (by decide) fun m H2 hm hq2 sb2 => ⟨_, _, rfl, rfl, .inl ⟨by show -(2 ^ 64) < s; omega, by show s < 2 ^ 64; omega⟩, ?_⟩
        have m0 : 0 ≤ m := by
          simp only [List.mem_cons, List.not_mem_nil, or_false] at hm
          rcases hm with rfl | rfl | rfl <;> decide
        have hR2 := hR1.sb hq1 sb2
        have hp2 := sb2 _ _ hpq hp1
        refine ⟨_, rfl, false, rfl, iteF ?_⟩
        refine go_next ?_
        dsimp only
        refine go_ret ?_
        refine cat_one (K := K) (T := T0 + 1 + 1) (T' := T0 + 1 + 1 + 1) (ok := fun r' => Less ⟨some f, none, s⟩ [r']) (σ := [some (.ref q), some (.ref p), some (.int (n : Int)), some (.int f), some .non, some (.int s), some (.int (s * m))]) rfl rfl hp2 hn (by omega) hpq hq2 hR2 (fun H3 R s3 kk => ?_) fun p' ws H' r' hq' sb' hp' np' l' hr'' => fin p' ws [r'] H' (hq'.mono (by omega)) (sb2.trans sb') hp' np' l' hr''
        refine ⟨_, rfl, _, rfl, _, rfl, _, rfl, _, _, rfl, rfl, _, rfl, by show 3 ≤ sizeLine; decide, fun a1 n1 => ⟨_, rfl, _, rfl, _, _, rfl, rfl, _, rfl, by show 3 ≤ sizeLine; decide, fun a2 n2 => ⟨by show 2 ≤ sizeLine; decide, fun a3 n3 => ?_⟩⟩⟩
        refine patch_two (r1 := ⟨some f, some (f + s * m), s⟩) (r2 := ⟨some (f + s), none, s⟩) (hq2.same s3) (by omega) n1 n2 n3 fun v H4 r' hq4 sb4 hv e => kk v H4 r' hq4 sb4 hv ?_
        rcases e with rfl | rfl
        · exact less_far_up hs m0
        · exact less_first ok fun l e => nomatch e
      | some l =>
        refine ⟨_, rfl, true, rfl, iteT ⟨_, rfl, true, rfl, iteT ?_⟩⟩
        have hfl := (ok.2.2 f l rfl rfl).1
        refine go_seq ?_
        refine go_if ?_
        refine ⟨_, rfl, q, c, 2, T0 + 1, rfl, hq1, by omega, by decide, by decide, fun b H2 b0 b1 hq2 sb2 => ⟨rfl, _, rfl, ?_⟩⟩
        have hR2 := hR1.sb hq1 sb2
        have hp2 := sb2 _ _ hpq hp1
        have other : (tRet (tIf (tTest (tOp rEq (tVar 3) (tVar 4))) (tOp rCat (tPre K 1 2) (tPost K 1 2)) (tOp rCat (tOp rCat (tPre K 1 2) (tLst (tCons (tTup (tCons (tVar 3) (tCons (tOp (rI0 fun i j => .int (i - j)) (tVar 4) (tVar 5)) (tCons (tVar 5) tNil)))) tNil))) (tPost K 1 2)))) { nx := fun _ H' => Q .non H', rt := Q } [some (.ref q), some (.ref p), some (.int (n : Int)), some (.int f), some (.int l), some (.int s), none] H2 := by
          refine ⟨_, rfl, _, rfl, rfl, _, rfl, ?_⟩
          by_cases c1 : f = l
          · subst c1
            refine iteB (decide_eq_true rfl) ?_
            exact cat_none (K := K) (T := T0 + 1 + 1) (σ := [some (.ref q), some (.ref p), some (.int (n : Int)), some (.int f), some (.int f), some (.int s), none]) rfl rfl hp2 hn (by omega) hq2 hR2 fun p' ws H' hq' sb' hp' np' hr'' => fin p' ws [] H' (hq'.mono (by omega)) (sb2.trans sb') hp' np' (less_all hs) hr''
          · refine iteN (decide_eq_false fun z => c1 (V.int.inj z)) ?_
            refine cat_one (K := K) (T := T0 + 1 + 1) (T' := T0 + 1 + 1) (ok := fun r' => Less ⟨some f, some l, s⟩ [r']) (σ := [some (.ref q), some (.ref p), some (.int (n : Int)), some (.int f), some (.int l), some (.int s), none]) rfl rfl hp2 hn (by omega) hpq hq2 hR2 (fun H3 R s3 kk => ?_) fun p' ws H' r' hq' sb' hp' np' l' hr'' => fin p' ws [r'] H' (hq'.mono (by omega)) (sb2.trans sb') hp' np' l' hr''
            refine ⟨_, rfl, _, rfl, _, rfl, _, _, rfl, rfl, _, rfl, by show 3 ≤ sizeLine; decide, fun a1 n1 => ?_⟩
            exact kk _ _ ⟨some f, some (l - s), s⟩ ((hq2.same s3).same (same_upd n1)) (SB.of (same_upd n1)) ⟨a1, rfl, upd_same⟩ (less_last ok fun f' e => by cases e; omega)
        by_cases c1 : b = 0
        · refine iteB (decide_eq_true (congrArg V.int c1)) ⟨_, rfl, _, rfl, _, _, rfl, rfl, _, rfl, ?_⟩
          by_cases c2 : f < l
          · refine iteB (decide_eq_true c2) ?_
            refine go_ret ?_
            refine cat_one (K := K) (T := T0 + 1 + 1) (T' := T0 + 1 + 1) (ok := fun r' => Less ⟨some f, some l, s⟩ [r']) (σ := [some (.ref q), some (.ref p), some (.int (n : Int)), some (.int f), some (.int l), some (.int s), none]) rfl rfl hp2 hn (by omega) hpq hq2 hR2 (fun H3 R s3 kk => ?_) fun p' ws H' r' hq' sb' hp' np' l' hr'' => fin p' ws [r'] H' (hq'.mono (by omega)) (sb2.trans sb') hp' np' l' hr''
            refine ⟨_, rfl, _, rfl, _, _, rfl, rfl, _, rfl, _, rfl, by show 3 ≤ sizeLine; decide, fun a1 n1 => ?_⟩
            exact kk _ _ ⟨some (f + s), some l, s⟩ ((hq2.same s3).same (same_upd n1)) (SB.of (same_upd n1)) ⟨a1, rfl, upd_same⟩ (less_first ok fun l' e => by cases e; exact c2)
          · exact iteN (decide_eq_false c2) other
        · exact iteN (decide_eq_false fun z => c1 (V.int.inj z)) (iteF other)
end
end K16
/-! a hundred rows with primes as steps, each in a block of its own -/
namespace K16
structure Blk (k : Nat) (r : Rw) : Prop where
  ok : r.Ok
  sz : r.s < 600
  ends : ∃ f l, r.f = some f ∧ r.l = some l ∧ (k : Int) * 1000000 ≤ f ∧ l < (k : Int) * 1000000 + 10000
theorem Blk.apart {i j : Nat} {a b : Rw} (ha : Blk i a) (hb : Blk j b) (h : i < j) : Disj a b := fun x ⟨m1, m2⟩ => by
  obtain ⟨fa, la, _, e2, _, h4⟩ := ha.ends
  obtain ⟨fb, lb, e1, _, h3, _⟩ := hb.ends
  have := m1.2.2 la e2
  have := m2.2.1 fb e1
  omega
def Blks (rs : List Rw) : Prop := ∀ (i : Nat) (r : Rw), rs[i]? = some r → Blk i r
theorem Blks.disj {rs : List Rw} (h : Blks rs) : rs.Pairwise Disj :=
  List.pairwise_iff_getElem.mpr fun i j hi hj hij => (h i _ (List.getElem?_eq_getElem hi)).apart (h j _ (List.getElem?_eq_getElem hj)) hij
theorem Blks.ne {rs : List Rw} (h : Blks rs) {i j : Nat} {a b : Rw} (ha : rs[i]? = some a) (hb : rs[j]? = some b) (hij : i ≠ j) : Disj a b := by
  rcases Nat.lt_or_gt_of_ne hij with c | c
  · exact (h i a ha).apart (h j b hb) c
  · exact ((h j b hb).apart (h i a ha) c).symm
theorem Blks.snoc {rs : List Rw} {r : Rw} (h : Blks rs) (hr : Blk rs.length r) : Blks (rs ++ [r]) := fun i a e => by
  rcases Nat.lt_trichotomy i rs.length with c | c | c
  · rw [List.getElem?_append_left c] at e
    exact h i a e
  · subst c
    rw [List.getElem?_append_right (Nat.le_refl _), Nat.sub_self] at e
    simp at e
    exact e ▸ hr
  · rw [List.getElem?_eq_none (by rw [List.length_append, List.length_singleton]; omega)] at e
    cases e
theorem take_set {α : Type} {rs : List α} {n : Nat} {r : α} (h : n < rs.length) : rs.take n ++ [r] ++ rs.drop (n + 1) = rs.set n r := by
  rw [List.set_eq_take_append_cons_drop, if_pos h, List.append_assoc]
  rfl
theorem Blks.set {rs : List Rw} {n : Nat} {r' : Rw} (h : Blks rs) (hn : Blk n r') : Blks (rs.set n r') := fun i a e => by
  by_cases c : n = i
  · subst c
    rw [List.getElem?_set] at e
    simp at e
    exact e.2 ▸ hn
  · rw [List.getElem?_set_ne c] at e
    exact h i a e
theorem Blks.differ {rs : List Rw} {n : Nat} {r r' : Rw} {x : Int} (h : Blks rs) (hr : rs[n]? = some r) (m1 : r.Mem x) (m2 : ¬ r'.Mem x) : ¬ SameN (rs.set n r') rs := fun hs => by
  obtain ⟨a, ha, hx⟩ := (hs x).mpr ⟨r, List.mem_of_getElem? hr, m1⟩
  obtain ⟨i, hi⟩ := List.getElem?_of_mem ha
  by_cases c : n = i
  · subst c
    rw [List.getElem?_set] at hi
    simp at hi
    exact m2 (hi.2 ▸ hx)
  · rw [List.getElem?_set_ne c] at hi
    exact h.ne hi hr (Ne.symm c) x ⟨hx, m1⟩
/-- a row of the hundred -/
structure Hund (k : Nat) (r : Rw) (f l : Int) : Prop where
  e : r = ⟨some f, some l, r.s⟩
  s0 : 0 < r.s
  s1 : r.s < 600
  lo : (k : Int) * 1000000 ≤ f
  hi : l ≤ (k : Int) * 1000000 + 6000
  gap : f + 2 * r.s ≤ l
  dv : (l - f) % r.s = 0
theorem hund_row {k : Nat} {p a b : Int} (p0 : 0 < p) (p1 : p < 600) (a0 : 0 ≤ a) (a1 : a < p) (b0 : 0 ≤ b) (b1 : b < 5) :
    Hund k ⟨some (1000000 * k + a), some (1000000 * k + a + p * (2 + b)), p⟩ (1000000 * k + a) (1000000 * k + a + p * (2 + b)) := by
  have h1 : p * (2 + b) ≤ p * 6 := Int.mul_le_mul_of_nonneg_left (by omega) (Int.le_of_lt p0)
  have h2 : p * 2 ≤ p * (2 + b) := Int.mul_le_mul_of_nonneg_left (by omega) (Int.le_of_lt p0)
  refine ⟨rfl, p0, p1, by omega, by omega, by show _ + 2 * p ≤ _; omega, ?_⟩
  show (1000000 * (k : Int) + a + p * (2 + b) - (1000000 * k + a)) % p = 0
  rw [show 1000000 * (k : Int) + a + p * (2 + b) - (1000000 * k + a) = p * (2 + b) by omega]
  exact Int.mul_emod_right ..
theorem Hund.blk {k : Nat} {r : Rw} {f l : Int} (h : Hund k r f l) : Blk k r := by
  have := h.s0
  have := h.gap
  have := h.lo
  have := h.hi
  have ef : r.f = some f := by rw [h.e]
  have el : r.l = some l := by rw [h.e]
  refine ⟨⟨h.s0, .inl (by rw [ef]; simp), fun f' l' e1 e2 => ?_⟩, h.s1, f, l, ef, el, h.lo, by omega⟩
  rw [ef] at e1
  rw [el] at e2
  cases e1
  cases e2
  exact ⟨by omega, h.dv⟩
theorem Hund.up {k : Nat} {r : Rw} {f l d : Int} (h : Hund k r f l) (d0 : 0 < d) (d1 : d < 600) : Blk k ⟨some (f + d), some (l + d), r.s⟩ ∧ r.Mem f ∧ ¬ (⟨some (f + d), some (l + d), r.s⟩ : Rw).Mem f := by
  have := h.s0
  have := h.gap
  have := h.lo
  have := h.hi
  refine ⟨⟨⟨h.s0, .inl (by simp), fun f' l' e1 e2 => ?_⟩, h.s1, _, _, rfl, rfl, by omega, by omega⟩, ?_, fun m => ?_⟩
  · cases e1
    cases e2
    refine ⟨by omega, ?_⟩
    rw [show l + d - (f + d) = l - f by omega]
    exact h.dv
  · rw [h.e]
    exact mem_f fun l' e => by cases e; omega
  · have := m.2.1 _ rfl
    omega
theorem Hund.down {k : Nat} {r : Rw} {f l : Int} (h : Hund k r f l) : Blk k ⟨some f, some (l - r.s), r.s⟩ ∧ r.Mem l ∧ ¬ (⟨some f, some (l - r.s), r.s⟩ : Rw).Mem l := by
  have := h.s0
  have := h.gap
  have := h.lo
  have := h.hi
  refine ⟨⟨⟨h.s0, .inl (by simp), fun f' l' e1 e2 => ?_⟩, h.s1, _, _, rfl, rfl, by omega, by omega⟩, ?_, fun m => ?_⟩
  · cases e1
    cases e2
    refine ⟨by omega, ?_⟩
    rw [show l - r.s - f = l - f - r.s by omega, Int.sub_emod_right]
    exact h.dv
  · have ok := h.blk.ok
    rw [h.e] at ok ⊢
    exact mem_l ok
  · have := m.2.2 _ rfl
    omega
/-- the primes, as they are found -/
def prs : Nat → List Nat
  | 0 => [2]
  | i + 1 => if (prs i).all (fun p => (3 + i) % p != 0) = true then prs i ++ [3 + i] else prs i
theorem prs_bd : ∀ i, ∀ p ∈ prs i, 1 < p ∧ p < 3 + i
  | 0, p, h => by
    simp [prs] at h
    omega
  | i + 1, p, h => by
    unfold prs at h
    split at h
    · rcases List.mem_append.mp h with h | h
      · have := prs_bd i p h
        omega
      · simp at h
        omega
    · have := prs_bd i p h
      omega
theorem prs_len : ∀ i, (prs i).length ≤ i + 1
  | 0 => by simp [prs]
  | i + 1 => by
    have := prs_len i
    unfold prs
    split
    · rw [List.length_append, List.length_singleton]; omega
    · omega
theorem prs_100 : 100 ≤ (prs 597).length := by decide +kernel
end K16
/-! layouts made and asked -/
namespace K16
open PySem PySem.Spec PyProof.Rows L2
/-- the class Layout at work -/
structure LayF (P : Program) (w : World) (K : PySem.W.Frag) (mg : Str → Option Value) (base : Heap) (LC lI C : Addr) : Prop where
  L : LayK K mg LC lI
  ini : ∃ fd, FnOk P w K mg base L2.CX0 6 lI fd ["self", "rows"] (spInit LC) ∧ Binds K fd ["self", "rows"] []
  same : ∃ (f : Addr) (fd : FuncData), Meth K LC "same" f ∧ Binds K fd ["self", "other"] [] ∧ (∀ (s : Shared) (u v : Value), K.In s.heap → BindsTo s fd ⟨[u], [("other", v)]⟩ [("self", u), ("other", v)]) ∧ FnOk P w K mg base L2.CX0 5 f fd ["self", "other"] (spSame LC)
section
variable {X : Cx} {LC lI C : Addr} {k : Nat} {p pos apos kp : Pos} {e o : Expr} {ta te : TE}
/-- Layout(e) -/
def tLay (LC : Addr) (te : TE) : TE := fun σ H Q => te σ H fun v H1 => ∃ (p : Addr) (us : List V) (rs : List Rw), v = .ref p ∧ (H1 p = some (.lst us) ∨ H1 p = some (.tup us)) ∧ RowsAt H1 us rs ∧ Good rs ∧ ∀ (x : Addr) (H2 : Hp), Same H1 H2 → LayAt LC H2 x rs → Q (.ref x) H2
/-- a reading whose wish may be widened -/
def tUp (t : TE) : TE := fun σ H Q => ∃ R : VK, t σ H R ∧ ∀ v H1, R v H1 → Q v H1
theorem pe_up {t : TE} (h : PE X e t) : PE X e (tUp t) := ⟨fun pins s σ H Q I ⟨R, hR, k⟩ => wpAny_mono (h.run pins s σ H R I hR) (fun u s' ⟨v, H', I', r, q⟩ => ⟨v, H', I', r, k v H' q⟩) (fun _ _ x => x)⟩
theorem pe_wk {t t' : TE} (h : PE X e t) (k : ∀ σ H Q, t' σ H Q → t σ H Q) : PE X e t' := ⟨fun pins s σ H Q I hq => h.run pins s σ H Q I (k _ _ _ hq)⟩
theorem pe_lay (F : LayF X.prog X.w X.K X.mg X.base LC lI C) (hr : Room 7 X.A) (hg : Gl X "Layout") (he : PE X e te) (hs : starEach [e] X.env = (false, eval e X.env) :: starEach [] X.env := by rfl) (hpl : (backTo pos (starEach [] X.env)).any (·.1) = false := by rfl) :
    PE X (.Call (.Name "Layout" p) [e] [] pos) (tLay LC te) := by
  obtain ⟨fd, F1, b⟩ := F.ini
  refine pe_wk (pe_make F.L.made F1 hr hg F.L.gL b .nil (fun _ _ _ _ _ _ _ h => h.elim) (E := E0) (pa_cons (pe_up he) pa_nil hs) (by decide) hs hpl) (fun σ H Q h => ⟨_, h, fun v H1 q => ?_⟩)
  obtain ⟨p, us, rs, rfl, hp, hR, hg, k⟩ := q
  intro x dx nx nd ne
  have s1 : Same H1 (upd H1 dx (.own x)) := same_upd nd
  have nx2 : upd H1 dx (.own x) x = none := by rw [upd_ne (Ne.symm ne)]; exact nx
  have s2 : Same H1 (upd (upd H1 dx (.own x)) x (.ins LC dx [])) := s1.trans (same_upd nx2)
  exact ⟨x, p, dx, us, rs, rfl, upd_same, hp.imp (s2 _ _) (s2 _ _), hR.same s2, hg, fun H' hk hl => ⟨rfl, k x H' (fun b o eb => hk b o (ne_of_none eb nx) (s2 _ _ eb)) hl⟩⟩
/-- o.same(e) -/
def tSame (LC : Addr) (ta te : TE) : TE := fun σ H Q => ta σ H fun x H1 => ∃ (a : Addr) (as : List Rw), x = .ref a ∧ LayAt LC H1 a as ∧ Good as ∧ te σ H1 fun y H2 => ∃ (b : Addr) (bs : List Rw), y = .ref b ∧ LayAt LC H2 a as ∧ LayAt LC H2 b bs ∧ Good bs ∧
  ∀ (c : Bool) (H' : Hp), Same H2 H' → (c = true ↔ SameN as bs) → Q (.bl c) H'
theorem pe_same {pl : Sem Bool} (F : LayF X.prog X.w X.K X.mg X.base LC lI C) (hr : Room 5 X.A) (ho : PE X o ta) (he : PE X e te)
    (hst : starEach [e] X.env = (false, eval e X.env) :: starEach [] X.env := by rfl) (hpl : (backTo pos (starEach [] X.env)).any (·.1) = false := by rfl)
    (ht : eval (.Call (.Attribute o "same" apos) [e] [] pos) X.env = (do
      let ov ← eval o X.env
      standAt apos.atName
      let (f, first) ← holding [ov] (getMethod ov "same" pl)
      callWith pos f first (backTo pos (starEach [e] X.env)) (backToKw pos (keywordEach [] X.env))) := by rfl) :
    PE X (.Call (.Attribute o "same" apos) [e] [] pos) (tSame LC ta te) := by
  obtain ⟨f, fd, me, b, _, F1⟩ := F.same
  refine pe_wk (pe_meth (E := E0) (pe_up ho) F.L.cls me F1 hr b .nil (fun _ _ _ _ _ _ _ h => h.elim) (pa_cons (pe_up he) pa_nil hst) hst hpl ht) (fun σ H Q h => ⟨_, h, fun x H1 q => ?_⟩)
  obtain ⟨a, as, rfl, ha, ga, q⟩ := q
  obtain ⟨dx, t, ws, rs, h1, h2⟩ := id ha
  refine ⟨a, dx, _, rfl, h1, by rfl, _, q, fun y H2 q2 => ?_⟩
  obtain ⟨b', bs, rfl, ha2, hb, gb, k⟩ := q2
  exact ⟨a, b', as, bs, rfl, ha2, hb, ga, gb, k⟩
/-- o.same(other = e) -/
theorem pe_sameK {pl : Sem Bool} (F : LayF X.prog X.w X.K X.mg X.base LC lI C) (hr : Room 5 X.A) (ho : PE X o ta) (he : PE X e te) (hall : (backToKw pos (keywordEach [⟨some "other", e, kp⟩] X.env)).all (·.1.isSome) = true := by rfl) (hks : (backToKw pos (keywordEach [⟨some "other", e, kp⟩] X.env)).filterMap (·.1) = [("other" : Str)] := by rfl)
    (hpl : ((backTo pos (starEach [] X.env)).any (·.1) || (backToKw pos (keywordEach [⟨some "other", e, kp⟩] X.env)).any (·.1.isNone)) = false := by rfl)
    (ht : eval (.Call (.Attribute o "same" apos) [] [⟨some "other", e, kp⟩] pos) X.env = (do
      let ov ← eval o X.env
      standAt apos.atName
      let (f, first) ← holding [ov] (getMethod ov "same" pl)
      callWith pos f first (backTo pos (starEach [] X.env)) (backToKw pos (keywordEach [⟨some "other", e, kp⟩] X.env))) := by rfl) :
    PE X (.Call (.Attribute o "same" apos) [] [⟨some "other", e, kp⟩] pos) (tSame LC ta te) := by
  obtain ⟨f, fd, me, _, bk, F1⟩ := F.same
  constructor
  intro pins s σ H Q I h
  have pk : PK X [⟨some "other", e, kp⟩] (tCons (tUp te) tNil) := pk_cons (pe_up he) pk_nil
  refine PySem.W.methodCall_KW (pl := pl) (thn (ho.run pins s σ H _ I h) fun u s1 hh => ?_) ht
  obtain ⟨x, H1, I1, rx, a, as, rfl, ha, ga, q⟩ := hh
  cases (show u = Value.ref a from rx)
  obtain ⟨dx, t, ws, rs, h1, h2⟩ := id ha
  refine getmeth_ok I1 h1 F.L.cls me (by rfl) ?_
  refine PySem.W.callWith_KW0 (first := [.ref a]) (h₀ := X.base) I.ok.mod.kin me.kp hall (thn (pk.run pos pins s1 σ H1 (fun vs H2 => ∃ y, vs = [y] ∧ ∃ (b : Addr) (bs : List Rw), y = .ref b ∧ LayAt LC H2 a as ∧ LayAt LC H2 b bs ∧ Good bs ∧ ∀ (c : Bool) (H' : Hp), Same H2 H' → (c = true ↔ SameN as bs) → Q (.bl c) H') I1 ?_) fun ks s2 hh => ?_) hpl
  · exact ⟨_, q, fun y H2 qq => ⟨y, rfl, qq⟩⟩
  obtain ⟨vs, H2, I2, rv, y, rfl, b, bs, rfl, ha2, hb, gb, k⟩ := hh
  refine ⟨I2.kIn, ?_⟩
  rw [hks]
  obtain ⟨w1, rfl, rw1⟩ := vals1 rv
  cases (show w1 = Value.ref b from rw1)
  refine wpAny_call (codeAny_mono (F1.run X.A X.stack s2 H2 ⟨[.ref a], [("other", .ref b)]⟩ [.ref a, .ref b] [.ref a, .ref b] Q E0 hr I2.env0 (bk s2 _ _ I2.kIn) (.cons rfl (.cons rfl .nil)) ⟨a, b, as, bs, rfl, ha2, hb, ga, gb, k⟩) fun r s' hq => ?_)
  cases r with
  | error e => exact hq.elim
  | ok fl =>
    cases fl with
    | ret u => exact I2.after hq
    | next => exact hq.elim
    | brk => exact hq.elim
    | cont => exact hq.elim
end
end K16
/-! unlike_right -/
namespace K16
open PySem PySem.Spec PyProof.Rows L2
theorem patch_three {H : Hp} {q c a1 a2 a3 a4 : Addr} {T : Nat} {r1 r2 r3 : Rw} {R : VK} (hq : Qt H q c T) (hT : T < 2 ^ 20) (n1 : H a1 = none) (n2 : upd H a1 (.tup (rwV r1)) a2 = none) (n3 : upd (upd H a1 (.tup (rwV r1))) a2 (.tup (rwV r2)) a3 = none)
    (n4 : upd (upd (upd H a1 (.tup (rwV r1))) a2 (.tup (rwV r2))) a3 (.tup (rwV r3)) a4 = none)
    (kk : ∀ v H2 r', Qt H2 q c (T + 1) → SB q H H2 → RowAt H2 v r' → (r' = r1 ∨ r' = r2 ∨ r' = r3) → R v H2) : spPatch [.ref q, .ref a4] (upd (upd (upd (upd H a1 (.tup (rwV r1))) a2 (.tup (rwV r2))) a3 (.tup (rwV r3))) a4 (.lst [.ref a1, .ref a2, .ref a3])) R E0 := by
  have t1 : Same H _ := same_upd (o := .tup (rwV r1)) n1
  have t2 := same_upd (o := .tup (rwV r2)) n2
  have t3 := same_upd (o := .tup (rwV r3)) n3
  have t4 := same_upd (o := .lst [.ref a1, .ref a2, .ref a3]) n4
  have q3 := hq.same (t1.trans (t2.trans t3))
  have q4 := q3.same t4
  have e1 := t4 _ _ (t3 _ _ (t2 _ _ (upd_same (H := H) (a := a1) (o := .tup (rwV r1)))))
  have e2 := t4 _ _ (t3 _ _ (upd_same (H := upd H a1 (.tup (rwV r1))) (a := a2) (o := .tup (rwV r2))))
  have e3 := t4 _ _ (upd_same (H := upd (upd H a1 (.tup (rwV r1))) a2 (.tup (rwV r2))) (a := a3) (o := .tup (rwV r3)))
  refine ⟨q, c, a4, _, T, rfl, q4, hT, upd_same, q3.ne n4, by simp, by show 3 < 2 ^ 20; decide, fun v H' hv hq' sb => ?_⟩
  have sb0 : SB q H H' := (SB.of (t1.trans (t2.trans (t3.trans t4)))).trans sb
  simp only [List.mem_cons, List.not_mem_nil, or_false] at hv
  rcases hv with rfl | rfl | rfl
  · exact kk _ H' r1 hq' sb0 (RowAt.sb q4 sb ⟨_, rfl, e1⟩) (.inl rfl)
  · exact kk _ H' r2 hq' sb0 (RowAt.sb q4 sb ⟨_, rfl, e2⟩) (.inr (.inl rfl))
  · exact kk _ H' r3 hq' sb0 (RowAt.sb q4 sb ⟨_, rfl, e3⟩) (.inr (.inr rfl))
/-- a place that is new stays apart from the quilt's -/
theorem Qt.lst {H : Hp} {q c p : Addr} {T : Nat} {xs : List V} (h : Qt H q c T) (hp : H p = some (.lst xs)) (n : ∀ x y z, xs ≠ [x, y, z]) : p ≠ q := fun z => by
  obtain ⟨cells, turn, left, e, _⟩ := h
  rw [z, e] at hp
  cases hp
  exact n _ _ _ rfl
theorem sb_none {q p : Addr} {H H' : Hp} (s : SB q H H') (n : p ≠ q) (h : H' p = none) : H p = none := by
  cases e : H p with
  | none => rfl
  | some o =>
    rw [s p o n e] at h
    cases h
theorem pairedRev {α β : Type} {F : α → β → Prop} : ∀ {xs : List α} {ys : List β}, Paired F xs ys → Paired F xs.reverse ys.reverse
  | _, _, .nil => .nil
  | _, _, .cons a t => by
    rw [List.reverse_cons, List.reverse_cons]
    exact pairedSnoc (pairedRev t) a
theorem prs_snoc (i : Nat) : (List.filter (fun p => decide ((3 + i) % p = 0)) (prs i)).isEmpty = (prs i).all fun p => (3 + i) % p != 0 := by
  generalize prs i = l
  induction l with
  | nil => rfl
  | cons a l ih =>
    rw [List.filter_cons, List.all_cons]
    by_cases h : (3 + i) % a = 0
    · simp [h]
    · rw [if_neg (by simpa using h), ih]
      simp [h]
theorem modc3 (i p : Nat) : ((3 : Int) + (i : Int)) % (p : Int) = (((3 + i) % p : Nat) : Int) := by
  rw [Int.natCast_emod, Int.natCast_add]
  rfl
section
variable {P : Program} {w : World} {K : PySem.W.Frag} {mg : Str → Option Value} {base : Heap} {LC lI C : Addr}
def N_unlike : List Str := ["_law_quilt_here", "_law_primes", "_law_rows", "_law_number", "_law_prime", "_law_at", "_law_first", "_law_last", "_law_step", "_law_moved", "_law_whole"]
theorem scUnlike : FnScope N_unlike ["_law_quilt_here"] (defScope sUnlike) := ⟨rfl, rfl, rfl, by decide +kernel, rfl, by decide +kernel, by decide +kernel⟩
def spUnlike : Sp := fun vs H Q _ => ∃ (q c : Addr) (T : Nat), vs = [.ref q] ∧ Qt H q c T ∧ T + 400 < 2 ^ 20 ∧ ∀ H' : Hp, SB q H H' → Q (.bl true) H'
theorem cal_unlike (T : Bi mg) (D : Def K mg "_law_unlike_right" sUnlike) (F : LayF P w K mg base LC lI C) (c1 : Cal P w K mg base 1 "_law_stitch" spStitch) (c2 : Cal P w K mg base 2 "_law_patch" spPatch) : Cal P w K mg base 8 "_law_unlike_right" spUnlike := by
  refine cal_of D (ps := ["_law_quilt_here"]) (fun _ _ _ _ _ _ us hl => match us, hl with | [_], _ => rfl) scUnlike (fun vs H Q E h => ?_) (fun f' cdv A outer s H vs Q E hr h => ?_)
  · obtain ⟨_, _, _, rfl, _⟩ := h
    rfl
  · obtain ⟨q, c, T0, rfl, hq, hT, k⟩ := h
    refine ⟨_, pss_cons (ps_par (i := 1) (j := 2) (by rfl) scUnlike.nd rfl rfl (by decide) (by rfl) (by rfl) (pa_cons (pe_lst (pa_cons pe_int pa_nil)) (pa_cons (pe_lst pa_nil) pa_nil)) (by rfl))
      (pss_cons (ps_for PassesOwn.never rfl (pi_range2 (by rfl) T.range (pa_cons pe_int (pa_cons pe_int pa_nil))) (pg_name (i := 3) scUnlike.nd rfl (.inr rfl))
        (pss_one (ps_if (pt_cmpR (op_eqN (hu_of hr)) (pe_lc (own := [("_law_prime", 4)]) (g := gName 4) (by rfl) scUnlike.nd (pi_list (pv 1)) (blkOk_by (N := N_unlike) (sc := defScope sUnlike) (by decide +kernel))
            (fun _ _ _ _ _ => pg_name (i := 4) scUnlike.nd rfl (Or.inl rfl)) (fun _ _ _ _ _ => pts_one (pt_cmpR op_eq (pe_op op_mod (pe_callTy call_int1 (by rfl) T.int boot_int (pa_cons (pv 3) pa_nil)) (pv 4)) pe_int (nomark _))) (fun _ _ _ _ _ => pv 4)) (pe_lst pa_nil) (nomark _))
          (pss_one (ps_expr (pe_bm PySem.F.plainAttrs_list PySem.F.slot_list_append PySem.F.type_list_append mt_append (pv 1) (pa_cons (pv 3) pa_nil)))) pss_nil)))
      (pss_cons (ps_for PassesOwn.never rfl (pi_enum (by rfl) T.enumerate (pa_cons (pe_slice sl_list (pv 1) po_none (po_some pe_int)) pa_nil)) (pg_tup rfl (pgs_cons (pg_name (i := 5) scUnlike.nd rfl (.inl rfl)) (pgs_cons (pg_name (i := 4) scUnlike.nd rfl (.inl rfl)) pgs_nil)))
        (pss_cons (ps_set (i := 6) scUnlike.nd rfl (.inl rfl) (pe_op op_add (pe_op op_mul (pe_op op_pow pe_int pe_int) (pv 5)) (pe_c c1 hr (by decide) (by rfl) (pa_cons (pv 0) (pa_cons (pv 4) pa_nil)))))
        (pss_one (ps_expr (pe_bm PySem.F.plainAttrs_list PySem.F.slot_list_append PySem.F.type_list_append mt_append (pv 2) (pa_cons (pe_tup (pa_cons (pv 6) (pa_cons (pe_op op_add (pv 6) (pe_op op_mul (pv 4) (pe_op op_add pe_int
          (pe_c c1 hr (by decide) (by rfl) (pa_cons (pv 0) (pa_cons pe_int pa_nil)))))) (pa_cons (pv 4) pa_nil)))) pa_nil))))))
      (pss_cons (ps_set (i := 5) scUnlike.nd rfl (.inl rfl) (pe_c c1 hr (by decide) (by rfl) (pa_cons (pv 0) (pa_cons pe_int pa_nil))))
      (pss_cons (ps_asg (pe_ix ix_list (pv 2) (pv 5) (fun _ _ => rfl)) (pg_tup rfl (pgs_cons (pg_name (i := 6) scUnlike.nd rfl (.inl rfl)) (pgs_cons (pg_name (i := 7) scUnlike.nd rfl (.inl rfl)) (pgs_cons (pg_name (i := 8) scUnlike.nd rfl (.inl rfl)) pgs_nil)))))
      (pss_cons (ps_set (i := 9) scUnlike.nd rfl (.inl rfl) (pe_op op_cat (pe_op op_cat (pe_slice sl_list (pv 2) po_none (po_some (pv 5))) (pe_lst (pa_cons (pe_c c2 hr (by decide) (by rfl) (pa_cons (pv 0) (pa_cons
            (pe_lst (pa_cons (pe_tup (pa_cons (pe_op op_add (pv 6) (pv 8)) (pa_cons (pe_op op_add (pv 7) (pv 8)) (pa_cons (pv 8) pa_nil)))) (pa_cons (pe_tup (pa_cons (pe_op op_add (pv 6) pe_int) (pa_cons (pe_op op_add (pv 7) pe_int) (pa_cons (pv 8) pa_nil))))
              (pa_cons (pe_tup (pa_cons (pv 6) (pa_cons (pe_op op_sub (pv 7) (pv 8)) (pa_cons (pv 8) pa_nil)))) pa_nil)))) pa_nil))) pa_nil)))
          (pe_slice sl_list (pv 2) (po_some (pe_op op_add (pv 5) pe_int)) po_none)))
      (pss_cons (ps_set (i := 10) scUnlike.nd rfl (.inl rfl) (pe_lay F hr (by rfl) (pv 2)))
      (pss_one (ps_ret (pe_and (pe_cmpR op_isBl (pe_same F (hr.mono (by decide)) (pv 10) (pe_lay F hr (by rfl) (pe_revL (pv 2)))) pe_bl (nomark _)) (pe_and (pe_cmpR op_isBl (pe_same F (hr.mono (by decide)) (pv 10) (pe_lay F hr (by rfl) (pv 9))) pe_bl (nomark _))
        (pe_one (pe_cmpR op_isBl (pe_same F (hr.mono (by decide)) (pe_lay F hr (by rfl) (pv 9)) (pv 10)) pe_bl (nomark _))))))))))))), ?_⟩
    refine ⟨by show 1 ≤ sizeLine; decide, fun Pp nP => ⟨Nat.zero_le _, fun Dd nD => ⟨_, _, rfl, ?_⟩⟩⟩
    have pw : ∀ {i j : Int}, 0 ≤ i → i < 2 ^ 64 → 0 ≤ j → j ≤ 100 → CPow i j := fun h1 h2 h3 h4 => ⟨h3, by omega, by omega⟩
    have sP : Same H (upd H Pp (.lst [.int 2])) := same_upd nP
    have sD : Same (upd H Pp (.lst [.int 2])) (upd (upd H Pp (.lst [.int 2])) Dd (.lst [])) := same_upd nD
    have hPD : Pp ≠ Dd := ne_of_none (upd_same (H := H) (a := Pp) (o := .lst [.int 2])) nD
    have nDH : H Dd = none := sP.free nD
    have hPq := hq.ne nP
    have hPc := hq.nec nP
    have hDq := hq.ne nDH
    have hDc := hq.nec nDH
    refine ⟨3, 600, rfl, ⟨by decide, by decide, by decide, by decide⟩, for_range (lo := 3) (n := 597) (fun i σ H' => ∃ o3 o4, σ = [some (.ref q), some (.ref Pp), some (.ref Dd), o3, o4, none, none, none, none, none, none] ∧ SB q H H' ∧ Qt H' q c T0 ∧
      H' Pp = some (.lst ((prs i).map fun (p : Nat) => V.int p)) ∧ H' Dd = some (.lst [])) ?_ ?_ ?_⟩
    · exact ⟨none, none, rfl, SB.of (sP.trans sD), hq.same (sP.trans sD), sD _ _ upd_same, upd_same⟩
    · rintro i σ H1 hi ⟨o3, o4, rfl, sb1, hq1, hP1, hD1⟩
      refine ⟨_, rfl, Pp, rfl, ⟨_, SqL.of hP1⟩, fun D2 nD2 => ?_⟩
      refine lc_list (K := K) (a := Pp) (xs := (prs i).map fun (p : Nat) => V.int p) (fun j H' => Same H1 H' ∧ H' D2 = some (.lst ((((prs i).take j).filter fun p => decide ((3 + i) % p = 0)).map fun (p : Nat) => V.int p))) ⟨same_upd nD2, upd_same⟩ (fun j H' _ ⟨s2, _⟩ => SqL.of (s2 _ _ hP1)) ?_ ?_
      · rintro j x H2 hx ⟨s2, hD2⟩
        rw [List.getElem?_map] at hx
        obtain ⟨p, hp, rfl⟩ := Option.map_eq_some_iff.mp hx
        have bp := prs_bd i p (List.mem_of_getElem? hp)
        rw [take_snoc hp, List.filter_append]
        refine ⟨rfl, _, rfl, .inl ⟨_, rfl, _, rfl, _, _, rfl, rfl, (by show (0 : Int) < (p : Int); omega), rfl, _, rfl, ?_⟩⟩
        by_cases c0 : (3 + i) % p = 0
        · have e1 : ((3 : Int) + (i : Int)) % (p : Int) = 0 := by rw [modc3, c0]; rfl
          refine iteB (decide_eq_true (congrArg V.int e1)) ⟨_, rfl, _, hD2, ?_, same_D nD2 s2, ?_⟩
          · rw [List.length_map]
            have := List.length_filter_le (fun p => decide ((3 + i) % p = 0)) ((prs i).take j)
            have := List.length_take_le' j (prs i)
            have := prs_len i
            exact small1000 (by omega)
          · rw [upd_same, List.filter_cons, if_pos (by simpa using c0), List.map_append]
            rfl
        · have e1 : ((3 : Int) + (i : Int)) % (p : Int) ≠ 0 := by rw [modc3]; omega
          refine iteN (decide_eq_false fun z => e1 (V.int.inj z)) ⟨s2, ?_⟩
          rw [hD2, List.filter_cons, if_neg (by simpa using c0), List.filter_nil, List.append_nil]
      · rintro H2 ⟨s2, hD2⟩
        rw [List.length_map, List.take_length] at hD2
        refine ⟨Nat.zero_le _, fun e ne => ⟨D2, e, _, rfl, rfl, SqL.of (same_upd ne _ _ hD2), SqL.of upd_same, _, rfl, ?_⟩⟩
        have s3 : Same H2 (upd H2 e (.lst [])) := same_upd ne
        generalize upd H2 e (.lst []) = H3 at s3 ⊢
        have s13 := s2.trans s3
        rw [List.isEmpty_map, prs_snoc]
        by_cases ca : ((prs i).all fun p => (3 + i) % p != 0) = true
        · have ep : prs (i + 1) = prs i ++ [3 + i] := by
            show (if _ then _ else _) = _
            rw [if_pos ca]
          refine iteB ca ⟨_, rfl, .inl ⟨rfl, _, SqL.of (s13 _ _ hP1)⟩, _, rfl, Pp, _, _, rfl, rfl, s13 _ _ hP1, ?_, _, _, rfl, ?_, (hq1.same s13).put hPq hPc, ?_, ?_⟩
          · rw [List.length_map]
            have := prs_len i
            exact small1000 (by omega)
          · intro b o n hb
            rw [upd_ne (ne_of_none hb nP)]
            exact s13 _ _ (sb1 _ _ n hb)
          · rw [upd_same, ep, List.map_append]
            rfl
          · rw [upd_ne (Ne.symm hPD)]
            exact s13 _ _ hD1
        · have ep : prs (i + 1) = prs i := by
            show (if _ then _ else _) = _
            rw [if_neg ca]
          refine iteN (Bool.eq_false_iff.mpr ca) ⟨_, _, rfl, sb1.trans (SB.of s13), hq1.same s13, ?_, s13 _ _ hD1⟩
          rw [ep]
          exact s13 _ _ hP1
    · rintro σ H1 ⟨o3, o4, rfl, sb1, hq1, hP1, hD1⟩
      have l100 := prs_100
      have lall := prs_len 597
      have bd := prs_bd 597
      generalize prs 597 = pl at hP1 l100 lall bd
      refine ⟨_, rfl, 100, rfl, Pp, _, rfl, SqL.of hP1, fun Sl nS => ?_⟩
      rw [show ((100 : Int)) = ((100 : Nat) : Int) from rfl, cutV_pre (by rw [List.length_map]; exact l100), ← List.map_take]
      have bd2 : ∀ p ∈ pl.take 100, 1 < p ∧ p < 600 := fun p hp => bd p (List.mem_of_mem_take hp)
      have len2 : (pl.take 100).length = 100 := by rw [List.length_take]; omega
      generalize pl.take 100 = pt at bd2 len2 ⊢
      have s2 : Same H1 (upd H1 Sl (.lst (pt.map fun (p : Nat) => V.int p))) := same_upd nS
      have hS2 : upd H1 Sl (.lst (pt.map fun (p : Nat) => V.int p)) Sl = some (.lst (pt.map fun (p : Nat) => V.int p)) := upd_same
      generalize upd H1 Sl (.lst (pt.map fun (p : Nat) => V.int p)) = H2 at s2 hS2 ⊢
      have hSq := hq1.ne nS
      have hSD : Sl ≠ Dd := Ne.symm (ne_of_none hD1 nS)
      refine ⟨Sl, _, rfl, SqL.of hS2, for_it (walk_enum (xs := pt.map fun (p : Nat) => V.int p)) (fun k σ H' => ∃ o3 o4 o5 o6, σ = [some (.ref q), some (.ref Pp), some (.ref Dd), o3, o4, o5, o6, none, none, none, none] ∧ SB q H H' ∧ Qt H' q c (T0 + 2 * k) ∧
        H' Sl = some (.lst (pt.map fun (p : Nat) => V.int p)) ∧ ∃ ws rs, H' Dd = some (.lst ws) ∧ RowsAt H' ws rs ∧ rs.length = k ∧ ∀ i r, rs[i]? = some r → ∃ f l, Hund i r f l) ?_ ?_ ?_ ?_⟩
      · exact ⟨_, _, _, _, rfl, sb1.trans (SB.of s2), hq1.same s2, hS2, [], [], s2 _ _ hD1, .nil, rfl, fun i r e => by simp at e⟩
      · rintro i σ H' _ ⟨_, _, _, _, _, _, _, h, _⟩
        exact SqL.of h
      · rintro i x σ Ha Hb hi ⟨o3, o4, o5, o6, rfl, sb3, hq3, hS3, ws, rs, hD3, hr3, hl3, hh3⟩ ⟨U, x1, x2, rfl, nU, rfl, g1, g2⟩
        cases g1
        have g2 : (pt.map fun (p : Nat) => V.int p)[i]? = some x2 := g2
        rw [List.getElem?_map] at g2
        obtain ⟨p, hp, rfl⟩ := Option.map_eq_some_iff.mp g2
        have bp := bd2 p (List.mem_of_getElem? hp)
        have hi100 : i < 100 := by
          rw [List.length_map, len2] at hi
          exact hi
        have s5 : Same Ha (upd Ha U (.tup [.int (i : Nat), .int (p : Nat)])) := same_upd nU
        have hU : upd Ha U (.tup [.int (i : Nat), .int (p : Nat)]) U = some (.tup [.int (i : Nat), .int (p : Nat)]) := upd_same
        generalize upd Ha U (.tup [.int (i : Nat), .int (p : Nat)]) = Hc at s5 hU ⊢
        refine ⟨U, _, rfl, SqT.of hU, rfl, _, _, rfl, _, _, rfl, rfl, ?_⟩
        refine ⟨_, _, rfl, rfl, pw (by decide) (by decide) (by decide) (by decide), _, rfl, _, _, rfl, rfl, .inl ⟨by decide, by decide⟩, _, rfl, _, rfl, q, c, (p : Int), _, rfl, hq3.same s5, by omega, by omega, by omega, fun a H4 a0 a1 hq4 sb4 => ⟨_, _, rfl, rfl, ?_⟩⟩
        have sb35 := (SB.of (q := q) s5).trans sb4
        have hD4 := sb35 _ _ hDq hD3
        have lr := pairedLen hr3
        refine ⟨_, rfl, .inl ⟨rfl, _, SqL.of hD4⟩, _, rfl, _, rfl, _, rfl, _, rfl, q, c, 5, _, rfl, hq4, by omega, by decide, by decide, fun b H5 b0 b1 hq5 sb5 => ⟨_, _, rfl, rfl, _, _, rfl, rfl, .inl ⟨by omega, by omega⟩, _, _, rfl, rfl, _, rfl, by show 3 ≤ sizeLine; decide, fun t nt => ?_⟩⟩
        have sb6 := sb35.trans sb5
        have hD5 := sb6 _ _ hDq hD3
        have s7 := same_upd (o := .tup [.int ((10 : Int) ^ (6 : Int).toNat * (i : Nat) + a), .int ((10 : Int) ^ (6 : Int).toNat * (i : Nat) + a + (p : Int) * (2 + b)), .int (p : Int)]) nt
        have hh := hund_row (k := i) (p := (p : Int)) (a := a) (b := b) (by omega) (by omega) a0 a1 b0 b1
        refine ⟨Dd, ws, _, rfl, rfl, s7 _ _ hD5, small1000 (by omega), ?_⟩
        refine ⟨_, _, _, _, rfl, fun b' o n hb => ?_, ?_, ?_, ws ++ [.ref t], rs ++ [⟨some (1000000 * i + a), some (1000000 * i + a + p * (2 + b)), p⟩], upd_same, ?_, ?_, fun j r e => ?_⟩
        · rw [upd_ne (ne_of_none hb nDH)]
          exact s7 _ _ (sb6 _ _ n (sb3 _ _ n hb))
        · exact ((hq5.same s7).put hDq hDc).mono (by omega)
        · rw [upd_ne hSD]
          exact s7 _ _ (sb6 _ _ hSq hS3)
        · exact pairedSnoc (Paired.mapP (hr3.sb hq3 sb6) fun _ _ z => keepRow _ (s7 _ _ hD5) (z.same s7)) (keepRow _ (s7 _ _ hD5) ⟨t, rfl, upd_same⟩)
        · rw [List.length_append, hl3]; rfl
        · rcases Nat.lt_trichotomy j rs.length with cj | cj | cj
          · rw [List.getElem?_append_left cj] at e
            exact hh3 j r e
          · subst cj
            rw [List.getElem?_append_right (Nat.le_refl _), Nat.sub_self] at e
            simp at e
            subst e
            rw [hl3]
            exact ⟨_, _, hh⟩
          · rw [List.getElem?_eq_none (by rw [List.length_append, List.length_singleton]; omega)] at e
            cases e
      · rintro σ H3 ⟨o3, o4, o5, o6, rfl, sb3, hq3, hS3, us, rs, hD3, hR3, hl3, hh3⟩
        rw [List.length_map, len2] at hq3 hl3
        have lu := pairedLen hR3
        refine ⟨_, rfl, q, c, 100, _, rfl, hq3, by omega, by decide, by decide, fun j H4 j0 j1 hq4 sb4 => ?_⟩
        obtain ⟨n, rfl⟩ := Int.eq_ofNat_of_zero_le j0
        have hn : n < us.length := by omega
        obtain ⟨v, hv⟩ : ∃ v, us[n]? = some v := ⟨us[n], List.getElem?_eq_getElem hn⟩
        have hD4 := sb4 _ _ hDq hD3
        have hR4 := hR3.sb hq3 sb4
        obtain ⟨r, hr', t, rfl, ht⟩ := pairedGet hR4 hv
        obtain ⟨f, l, hu⟩ := hh3 n r hr'
        obtain ⟨f0, l0, s⟩ := r
        have er := hu.e
        cases er
        have blks : Blks rs := fun i a e => by
          obtain ⟨f', l', h⟩ := hh3 i a e
          exact h.blk
        have goodOf : ∀ {xs : List Rw}, Blks xs → xs.length = 100 → Good xs := fun {xs} hb hl => ⟨fun r hr => by
          obtain ⟨i, e⟩ := List.getElem?_of_mem hr
          have b := hb i r e
          have := b.ok.1
          have := b.sz
          exact ⟨b.ok, by omega⟩, by omega, hb.disj⟩
        refine ⟨_, rfl, _, rfl, Dd, us, _, _, rfl, rfl, SqL.of hD4, atI_nat hv, t, _, rfl, SqT.of ht, rfl, _, _, rfl, _, _, rfl, _, _, rfl, rfl, ?_⟩
        dsimp only
        refine go_seq ?_
        refine go_asg ?_
        refine cat_one (K := K) (i1 := 2) (i2 := 5) (T := T0 + 2 * 100 + 1) (T' := T0 + 2 * 100 + 1 + 1) (ok := fun r' => Blk n r' ∧ ∃ x, (⟨some f, some l, s⟩ : Rw).Mem x ∧ ¬ r'.Mem x) (σ := [some (.ref q), some (.ref Pp), some (.ref Dd), o3, o4, some (.int (n : Int)), some (.int f), some (.int l), some (.int s), none, none])
          rfl rfl hD4 hn (by omega) hDq hq4 hR4 (fun H5 R s5 kk => ?_) fun p' ws H6 r' hq6 sb6 hp6 np6 hok hr6 => ?_
        · refine ⟨_, rfl, _, rfl, _, rfl, _, _, rfl, rfl, _, rfl, _, rfl, _, _, rfl, rfl, _, rfl, by show 3 ≤ sizeLine; decide, fun a1 n1 => ⟨_, rfl, _, _, rfl, rfl, _, rfl, _, _, rfl, rfl, _, rfl, by show 3 ≤ sizeLine; decide, fun a2 n2 =>
            ⟨_, rfl, _, rfl, _, rfl, _, _, rfl, rfl, _, rfl, by show 3 ≤ sizeLine; decide, fun a3 n3 => ⟨by show 3 ≤ sizeLine; decide, fun a4 n4 => ?_⟩⟩⟩⟩
          refine patch_three (r1 := ⟨some (f + s), some (l + s), s⟩) (r2 := ⟨some (f + 1), some (l + 1), s⟩) (r3 := ⟨some f, some (l - s), s⟩) (hq4.same s5) (by omega) n1 n2 n3 n4 fun v H7 r' hq7 sb7 hv e => kk v H7 r' hq7 sb7 hv ?_
          have u1 := hu.up hu.s0 hu.s1
          have u2 := hu.up (d := 1) (by decide) (by decide)
          have u3 := hu.down
          rcases e with rfl | rfl | rfl
          · exact ⟨u1.1, _, u1.2⟩
          · exact ⟨u2.1, _, u2.2⟩
          · exact ⟨u3.1, _, u3.2⟩
        obtain ⟨bk, x, m1, m2⟩ := hok
        have hn' : n < rs.length := by omega
        rw [take_set hn'] at hr6
        have dif := blks.differ hr' m1 m2
        have g1 := goodOf blks hl3
        have g2 := goodOf (blks.set bk) (by rw [List.length_set]; exact hl3)
        generalize rs.set n r' = rs' at hr6 dif g2
        have hD6 := sb6 _ _ hDq hD4
        have hR6 := hR4.sb hq4 sb6
        have sbH6 : SB q H H6 := (sb3.trans sb4).trans sb6
        refine ⟨_, rfl, Dd, us, rs, rfl, .inl hD6, hR6, g1, fun W H7 s7 hW => ?_⟩
        refine ⟨_, rfl, W, rs, rfl, hW, g1, _, rfl, Dd, us, rfl, SqL.of (s7 _ _ hD6), fun g ng => ?_⟩
        have s8 : Same H7 (upd H7 g (.lst us.reverse)) := same_upd ng
        refine ⟨g, us.reverse, rs.reverse, rfl, .inl upd_same, pairedRev ((hR6.same s7).same s8), g1.perm (List.reverse_perm rs), fun x8 H8 s9 h8 => ⟨x8, rs.reverse, rfl, hW.same (s8.trans s9), h8, g1.perm (List.reverse_perm rs), fun cb H9 s10 hc => ?_⟩⟩
        have ec : cb = true := hc.mpr (nums_perm (List.reverse_perm rs).symm)
        subst ec
        have s79 := s8.trans (s9.trans s10)
        refine ⟨_, _, rfl, rfl, _, rfl, iteT ?_⟩
        have s69 := s7.trans s79
        refine ⟨_, rfl, W, rs, rfl, hW.same s79, g1, _, rfl, p', ws, rs', rfl, .inl (s69 _ _ hp6), hr6.same s69, g2, fun x9 H10 s11 h9 => ⟨x9, rs', rfl, hW.same (s79.trans s11), h9, g2, fun cb2 H11 s12 hc2 => ?_⟩⟩
        have ec2 : cb2 = false := by
          cases cb2 with
          | false => rfl
          | true => exact (dif (hc2.mp rfl).symm).elim
        subst ec2
        refine ⟨_, _, rfl, rfl, _, rfl, iteT ?_⟩
        have s6b := s69.trans (s11.trans s12)
        refine ⟨_, rfl, p', ws, rs', rfl, .inl (s6b _ _ hp6), hr6.same s6b, g2, fun x10 H12 s13 h10 => ⟨x10, rs', rfl, h10, g2, _, rfl, W, rs, rfl, h10, (hW.same s79).same (s11.trans (s12.trans s13)), g1, fun cb3 H13 s14 hc3 => ?_⟩⟩
        have ec3 : cb3 = false := by
          cases cb3 with
          | false => rfl
          | true => exact (dif (hc3.mp rfl)).elim
        subst ec3
        exact ⟨_, _, rfl, rfl, k H13 (sbH6.trans (SB.of (s6b.trans (s13.trans s14))))⟩
end
end K16
/-! the law -/
namespace K16
open PySem PySem.Spec PyProof.Rows L2
def N_law : List Str := ["_law_script", "_law_quilt_here", "_law_turn", "_law_rows", "_law_one", "_law_other", "_law_changed_here"]
theorem scLaw : FnScope N_law ["_law_script"] (defScope sLaw) := ⟨rfl, rfl, rfl, by decide +kernel, rfl, by decide +kernel, by decide +kernel⟩
def spLaw (K : PySem.W.Frag) : Sp := fun vs H Q _ => ∃ (a : Addr) (ns : List Int), vs = [.ref a] ∧ SqL K H a (ns.map V.int) ∧ ∀ H' : Hp, Q (.bl true) H'
theorem LayAt.sb {LC : Addr} {H H' : Hp} {q c : Addr} {T : Nat} {a : Addr} {rs : List Rw} (h : Qt H q c T) (s : SB q H H') (hl : LayAt LC H a rs) : LayAt LC H' a rs := by
  obtain ⟨xs, hq⟩ := h.is
  obtain ⟨dx, t, ws, rs', h1, h2, h3, h4⟩ := hl
  exact ⟨dx, t, ws, rs', s a _ (fun z => by rw [z, hq] at h1; cases h1) h1, s t _ (fun z => by rw [z, hq] at h2; cases h2) h2, h3.sb h s, h4⟩
theorem good_nil : Good [] := ⟨(fun _ h => nomatch h), Nat.zero_le _, .nil⟩
def zero1 : Rw := ⟨some 0, some 0, 1⟩
theorem good_zero : Good [zero1] := ⟨fun r hr => by
  simp at hr
  subst hr
  refine ⟨⟨by decide, .inl (by decide), fun f l e1 e2 => ?_⟩, by decide⟩
  cases e1
  cases e2
  decide, by decide, List.pairwise_singleton _ _⟩
section
variable {P : Program} {w : World} {K : PySem.W.Frag} {mg : Str → Option Value} {base : Heap} {LC lI C : Addr} {f : Addr} {fd : FuncData}
theorem fn_law (T : Bi mg) (F : Fun K "law" "law" sLaw f fd) (G : LayF P w K mg base LC lI C) (c1 : Cal P w K mg base 1 "_law_quilt" (spQuilt K)) (c2 : Cal P w K mg base 1 "_law_stitch" spStitch) (c3 : Cal P w K mg base 2 "_law_patch" spPatch)
    (c4 : Cal P w K mg base 3 "_law_drawn" spDrawn) (c5 : Cal P w K mg base 3 "_law_patched" spPatched) (c6 : Cal P w K mg base 3 "_law_changed" spChanged) (c7 : Cal P w K mg base 6 "_law_odd_one" (spOdd LC)) (c8 : Cal P w K mg base 6 "_law_odd_one" (spOddX LC K))
    (c9 : Cal P w K mg base 8 "_law_unlike_right" spUnlike) : FnOk P w K mg base L2.CX0 9 f fd ["_law_script"] (spLaw K) := by
  refine F.ok scLaw (fun vs H Q E h => ?_) (fun cdv A outer s H vs Q E hr h => ?_)
  · obtain ⟨_, _, rfl, _⟩ := h
    rfl
  · obtain ⟨a, ns, rfl, ha, k⟩ := h
    have hr5 : Room 5 _ := hr.mono (by decide)
    have hr7 : Room 7 _ := hr.mono (by decide)
    refine ⟨_, pss_cons (ps_set (i := 1) scLaw.nd rfl (.inl rfl) (pe_c c1 hr (by decide) (by rfl) (pa_cons (pv 0) pa_nil)))
      (pss_cons (ps_for PassesOwn.never rfl (pi_range1 (by rfl) T.range (pa_cons (pe_c c3 hr (by decide) (by rfl) (pa_cons (pv 1) (pa_cons (pe_lst (pa_cons pe_int (pa_cons pe_int (pa_cons pe_int pa_nil)))) pa_nil))) pa_nil)) (pg_name (i := 2) scLaw.nd rfl (.inl rfl))
        (pss_cons (ps_set (i := 3) scLaw.nd rfl (.inl rfl) (pe_c c4 hr (by decide) (by rfl) (pa_cons (pv 1) pa_nil)))
        (pss_cons (ps_par (i := 4) (j := 5) (by rfl) scLaw.nd rfl rfl (by decide) (by rfl) (by rfl) (pa_cons (pe_lay G hr7 (by rfl) (pe_c c5 hr (by decide) (by rfl) (pa_cons (pv 1) (pa_cons (pv 3) pa_nil)))) (pa_cons (pe_lay G hr7 (by rfl) (pe_c c5 hr (by decide) (by rfl) (pa_cons (pv 1) (pa_cons (pv 3) pa_nil)))) pa_nil)) (by rfl))
        (pss_cons (ps_if (PW.pt (pw_or (pt_cmpR op_notBl (pe_same G hr5 (pv 4) (pv 5)) pe_bl (nomark _)) (pw_or (pt_cmpR op_notBl (pe_sameK G hr5 (pv 5) (pv 4)) pe_bl (nomark _)) (pw_or1 (pt_cmpR op_notBl (pe_same G hr5 (pv 4) (pv 4)) pe_bl (nomark _)))))) pss_never pss_nil)
        (pss_cons (ps_if (pt_cmpR (op_neN (hu_of hr)) (pv 3) (pe_lst pa_nil) (nomark _))
          (pss_cons (ps_set (i := 6) scLaw.nd rfl (.inl rfl) (pe_lay G hr7 (by rfl) (pe_c c5 hr (by decide) (by rfl) (pa_cons (pv 1) (pa_cons (pe_c c6 hr (by decide) (by rfl) (pa_cons (pv 1) (pa_cons (pv 3) pa_nil))) pa_nil)))))
          (pss_one (ps_if (PW.pt (pw_or (pt_cmpR op_notBl (pe_same G hr5 (pv 6) (pv 4)) pe_bl (nomark _)) (pw_or (pt_cmpR op_notBl (pe_same G hr5 (pv 5) (pv 6)) pe_bl (nomark _)) (pw_or1 (pt_cmpR op_notBl (pe_same G hr5 (pe_lay G hr7 (by rfl) (pe_lst pa_nil)) (pv 4)) pe_bl (nomark _)))))) pss_never pss_nil))) pss_nil)
        (pss_one (ps_if (pt_cmpR op_ne (pe_c c8 hr (by decide) (by rfl) (pa_cons (pv 4) (pa_cons (pe_c c3 hr (by decide) (by rfl) (pa_cons (pv 1) (pa_cons (pe_lst (pa_cons pe_non (pa_cons (pe_fld (pv 4) (by rfl)) (pa_cons pe_int (pa_cons (pe_lst pa_nil) (pa_cons pe_str (pa_cons pe_bl pa_nil))))))) pa_nil))) pa_nil))) pe_str (nomark _)) pss_never pss_nil)))))))
      (pss_cons (ps_if (PW.pt (pw_and (pt_cmpR op_eq (pe_c c2 hr (by decide) (by rfl) (pa_cons (pv 1) (pa_cons pe_int pa_nil))) pe_int (nomark _)) (pw_and1 (pt_not (pt_val (pe_c c9 hr (by decide) (by rfl) (pa_cons (pv 1) pa_nil))))))) pss_never pss_nil)
      (pss_one (ps_ret (pe_and (pe_cmpR op_isBl (pe_same G hr5 (pe_lay G hr7 (by rfl) (pe_lst pa_nil)) (pe_lay G hr7 (by rfl) (pe_tup pa_nil))) pe_bl (nomark _)) (pe_one (pe_cmp (pc_isN (pe_c c7 hr (by decide) (by rfl) (pa_cons (pe_lay G hr7 (by rfl) (pe_lst pa_nil)) (pa_cons
        (pe_lay G hr7 (by rfl) (pe_lst (pa_cons (pe_tup (pa_cons pe_int (pa_cons pe_int (pa_cons pe_int pa_nil)))) pa_nil))) pa_nil)))) rfl))))))), ?_⟩
    -- what is handed back at the end
    have fin : ∀ (σ : L2.St) (H' : Hp), (tRet (tAndV (tOp rIsB (tSame LC (tLay LC (tLst tNil)) (tLay LC (tTup tNil))) (tC (.bl true))) (tIsN (tCall (spOdd LC) [] E0 (tCons (tLay LC (tLst tNil)) (tCons (tLay LC (tLst (tCons (tTup (tCons (tC (.int 0)) (tCons (tC (.int 0)) (tCons (tC (.int 1)) tNil)))) tNil))) tNil))))))
        { nx := fun _ H' => Q .non H', rt := Q } σ H' := by
      intro σ H'
      refine ⟨Nat.zero_le _, fun e1 n1 => ⟨e1, [], [], rfl, .inl upd_same, .nil, good_nil, fun X H1 s1 h1 => ⟨X, [], rfl, h1, good_nil, Nat.zero_le _, fun e2 n2 => ⟨e2, [], [], rfl, .inr upd_same, .nil, good_nil, fun Y H2 s2 h2 => ⟨Y, [], rfl, (h1.same (same_upd n2)).same s2, h2, good_nil, fun cb H3 s3 hc => ?_⟩⟩⟩⟩⟩
      have ec : cb = true := hc.mpr (SameN.refl [])
      subst ec
      refine ⟨_, _, rfl, rfl, _, rfl, iteT ?_⟩
      refine ⟨Nat.zero_le _, fun e3 n3 => ⟨e3, [], [], rfl, .inl upd_same, .nil, good_nil, fun Z H4 s4 h4 => ⟨by show 3 ≤ sizeLine; decide, fun t nt => ⟨by show 1 ≤ sizeLine; decide, fun e5 n5 => ?_⟩⟩⟩⟩
      have t5 := same_upd (o := .lst [.ref t]) n5
      refine ⟨e5, [.ref t], [zero1], rfl, .inl upd_same, .cons ⟨t, rfl, t5 _ _ upd_same⟩ .nil, good_zero, fun W H6 s6 h6 => ⟨Z, W, [], [zero1], rfl, ((h4.same (same_upd nt)).same t5).same s6, h6, good_nil, good_zero, fun H7 s7 => ?_⟩⟩
      exact k H7
    refine ⟨_, rfl, a, ns, rfl, ha, fun q c H1 s1 hq1 => ?_⟩
    refine ⟨_, rfl, by show 3 ≤ sizeLine; decide, fun p np => ?_⟩
    refine patch_int (ns := [1, 4, 3]) hq1 (by decide) np (by decide) (by decide) fun m H2 hm hq2 sb2 => ?_
    obtain ⟨M, rfl, hM⟩ : ∃ M : Nat, m = (M : Int) ∧ M ≤ 4 := by
      simp only [List.mem_cons, List.not_mem_nil, or_false] at hm
      rcases hm with rfl | rfl | rfl
      · exact ⟨1, rfl, by decide⟩
      · exact ⟨4, rfl, by decide⟩
      · exact ⟨3, rfl, by decide⟩
    refine ⟨(M : Int), rfl, by omega, by omega, for_range (lo := 0) (n := M) (fun i σ H' => ∃ o2 o3 o4 o5 o6, σ = [some (.ref a), some (.ref q), o2, o3, o4, o5, o6] ∧ Qt H' q c (1 + 700 * i)) ⟨_, _, _, _, _, rfl, hq2⟩ ?_ ?_⟩
    · rintro i σ H3 hi ⟨o2, o3, o4, o5, o6, rfl, hq3⟩
      refine ⟨_, rfl, q, c, _, rfl, hq3, by omega, fun p ws rs H4 hq4 sb4 hp4 np4 hr4 hd4 => ?_⟩
      have hpq : p ≠ q := hq3.ne np4
      refine ⟨_, rfl, _, rfl, q, c, p, ws, rs, _, rfl, hq4, by omega, hp4, hpq, hr4, hd4, fun p1 ws1 bs1 H5 hq5 sb5 hp5 hr5' g5 same5 => ⟨p1, ws1, bs1, rfl, .inl hp5, hr5', g5, fun X1 H6 s6 h6 => ?_⟩⟩
      have hq6 := hq5.same s6
      have hp6 := s6 _ _ (sb5 _ _ hpq hp4)
      have hr6 := (hr4.sb hq4 sb5).same s6
      refine ⟨_, rfl, _, rfl, q, c, p, ws, rs, _, rfl, hq6, by omega, hp6, hpq, hr6, hd4, fun p2 ws2 bs2 H7 hq7 sb7 hp7 hr7' g7 same7 => ⟨p2, ws2, bs2, rfl, .inl hp7, hr7', g7, fun X2 H8 s8 h8 => ⟨_, _, rfl, ?_⟩⟩⟩
      have hq8 := hq7.same s8
      have hp8 := s8 _ _ (sb7 _ _ hpq hp6)
      have hr8 := (hr6.sb hq6 sb7).same s8
      have h18 : LayAt LC H8 X1 bs1 := (h6.sb hq6 sb7).same s8
      -- the three answers
      refine ⟨_, rfl, X1, bs1, rfl, h18, g5, _, rfl, X2, bs2, rfl, h18, h8, g7, fun cb H9 s9 hc => ?_⟩
      have ec : cb = true := hc.mpr (same5.trans same7.symm)
      subst ec
      refine ⟨_, _, rfl, rfl, _, rfl, iteF ⟨_, rfl, X2, bs2, rfl, h8.same s9, g7, _, rfl, X1, bs1, rfl, h8.same s9, h18.same s9, g5, fun cb H10 s10 hc => ?_⟩⟩
      have ec : cb = true := hc.mpr (same7.trans same5.symm)
      subst ec
      have s8a := s9.trans s10
      refine ⟨_, _, rfl, rfl, _, rfl, iteF ⟨_, rfl, X1, bs1, rfl, h18.same s8a, g5, _, rfl, X1, bs1, rfl, h18.same s8a, h18.same s8a, g5, fun cb H11 s11 hc => ?_⟩⟩
      have ec : cb = true := hc.mpr (SameN.refl _)
      subst ec
      refine ⟨_, _, rfl, rfl, _, rfl, iteF ?_⟩
      have s8b := s8a.trans s11
      -- what is no layout
      have odd : ∀ (D : Ends) (o6 : Option V) (H : Hp) (T : Nat), Qt H q c T → T < 2 ^ 20 → LayAt LC H X1 bs1 → (∀ H', Qt H' q c (T + 1) → D.nx [some (.ref a), some (.ref q), some (.int (0 + (i : Int))), some (.ref p), some (.ref X1), some (.ref X2), o6] H') →
          tIfS (tTest (tOp rNe (tCall (spOddX LC K) [] E0 (tCons (tVar 4) (tCons (tCall spPatch [] E0 (tCons (tVar 1) (tCons (tLst (tCons (tC .non) (tCons (tFld K (tVar 4) "rows") (tCons (tC (.int 5)) (tCons (tLst tNil) (tCons (tC (.str "layout")) (tCons (tC (.bl true)) tNil))))))) tNil))) tNil))) (tC (.str "other")))) tNever tNext D
            [some (.ref a), some (.ref q), some (.int (0 + (i : Int))), some (.ref p), some (.ref X1), some (.ref X2), o6] H := by
        intro D o6 H T hq hT hl kk
        obtain ⟨dx, t, us, rs1, e1, e2, e3, e4⟩ := id hl
        refine ⟨_, rfl, _, rfl, _, rfl, X1, LC, dx, _, _, rfl, e1, G.L.cls, G.L.nR, rfl, Nat.zero_le _, fun e ne => ⟨by show 6 ≤ sizeLine; decide, fun l nl => ?_⟩⟩
        have t1 : Same H (upd H e (.lst [])) := same_upd ne
        have he : upd H e (.lst []) e = some (.lst []) := upd_same
        have heq := hq.ne ne
        generalize upd H e (.lst []) = H1 at t1 he nl ⊢
        have hq1 := hq.same t1
        have t2 : Same H1 (upd H1 l (.lst [.non, .ref t, .int 5, .ref e, .str "layout", .bl true])) := same_upd nl
        have hq2 := hq1.same t2
        have t12 := t1.trans t2
        refine ⟨q, c, l, [.non, .ref t, .int 5, .ref e, .str "layout", .bl true], T, rfl, hq2, hT, upd_same, hq1.ne nl, by simp, by show 6 < 2 ^ 20; decide, fun v H' hv hq' sb => ?_⟩
        have tq : t ≠ q := fun z => by
          obtain ⟨xs, hqx⟩ := hq.is
          rw [z, hqx] at e2
          cases e2
        have nl' : NotL K H' v := by
          simp only [List.mem_cons, List.not_mem_nil, or_false] at hv
          rcases hv with rfl | rfl | rfl | rfl | rfl | rfl
          · exact .non
          · exact .tup (sb _ _ tq (t12 _ _ e2))
          · exact .int 5
          · exact .lst (sb _ _ heq (t2 _ _ he))
          · exact .str _
          · exact .bl true
        refine ⟨X1, v, bs1, rfl, (hl.same t12).sb hq2 sb, nl', fun H'' s'' => ⟨rfl, _, rfl, iteN (by simp) (kk H'' (hq'.same s''))⟩⟩
      refine ⟨_, rfl, Nat.zero_le _, fun e ne => ⟨p, e, _, rfl, rfl, SqL.of (same_upd ne _ _ (s8b _ _ hp8)), SqL.of upd_same, _, rfl, ?_⟩⟩
      have s12 : Same H11 (upd H11 e (.lst [])) := same_upd ne
      generalize upd H11 e (.lst []) = H12 at s12 ⊢
      have s8c := s8b.trans s12
      have hq12 := hq8.same s8c
      have h112 := h18.same s8c
      have h212 := h8.same s8c
      have lw := pairedLen hr8
      by_cases hz : rs = []
      · have hw : ws = [] := by
          subst hz
          exact List.length_eq_zero_iff.mp lw
        subst hw
        refine iteN rfl ?_
        refine odd _ _ H12 _ hq12 (by omega) h112 fun H' hq' => ⟨_, _, _, _, _, rfl, hq'.mono (by omega)⟩
      · have hw : (!ws.isEmpty) = true := by
          cases ws with
          | nil => exact (hz (List.length_eq_zero_iff.mp lw.symm)).elim
          | cons x y => rfl
        refine iteB hw ⟨_, rfl, _, rfl, _, rfl, q, c, p, ws, rs, _, rfl, hq12, by omega, s8c _ _ hp8, hpq, hr8.same s8c, hd4, hz, fun p3 ws3 rs3 H13 hq13 sb13 hp13 np13 hr13 hd13 dif => ?_⟩
        refine ⟨q, c, p3, ws3, rs3, _, rfl, hq13, by omega, hp13, np13, hr13, hd13, fun p4 ws4 bs4 H14 hq14 sb14 hp14 hr14 g14 same14 => ⟨p4, ws4, bs4, rfl, .inl hp14, hr14, g14, fun X3 H15 s15 h15 => ?_⟩⟩
        have h1e : LayAt LC H15 X1 bs1 := ((h112.sb hq12 sb13).sb hq13 sb14).same s15
        have h2e : LayAt LC H15 X2 bs2 := ((h212.sb hq12 sb13).sb hq13 sb14).same s15
        have hq15 := hq14.same s15
        have dif1 : ¬ SameN bs4 bs1 := fun z => dif ((same14.symm.trans z).trans same5)
        refine ⟨_, rfl, X3, bs4, rfl, h15, g14, _, rfl, X1, bs1, rfl, h15, h1e, g5, fun cb H16 s16 hc => ?_⟩
        have ec : cb = false := by
          cases cb with
          | false => rfl
          | true => exact (dif1 (hc.mp rfl)).elim
        subst ec
        refine ⟨_, _, rfl, rfl, _, rfl, iteF ⟨_, rfl, X2, bs2, rfl, h2e.same s16, g7, _, rfl, X3, bs4, rfl, h2e.same s16, h15.same s16, g14, fun cb H17 s17 hc => ?_⟩⟩
        have ec : cb = false := by
          cases cb with
          | false => rfl
          | true => exact (dif1 (((hc.mp rfl).symm.trans same7).trans same5.symm)).elim
        subst ec
        have s15b := s16.trans s17
        refine ⟨_, _, rfl, rfl, _, rfl, iteF ⟨Nat.zero_le _, fun e2 n2 => ⟨e2, [], [], rfl, .inl upd_same, .nil, good_nil, fun X4 H18 s18 h18' => ⟨X4, [], rfl, h18', good_nil, _, rfl, X1, bs1, rfl, h18', ((h1e.same s15b).same (same_upd n2)).same s18, g5, fun cb H19 s19 hc => ?_⟩⟩⟩⟩
        have ec : cb = false := by
          cases cb with
          | false => rfl
          | true => exact (not_empty hz (fun r hr => (hd4.ok r hr).1) ((hc.mp rfl).trans same5)).elim
        subst ec
        have s15c := s15b.trans ((same_upd n2).trans (s18.trans s19))
        refine ⟨_, _, rfl, rfl, _, rfl, iteF ?_⟩
        refine odd _ _ H19 _ (hq15.same s15c) (by omega) (h1e.same s15c) fun H' hq' => ⟨_, _, _, _, _, rfl, hq'.mono (by omega)⟩
    · rintro σ H3 ⟨o2, o3, o4, o5, o6, rfl, hq3⟩
      refine ⟨_, rfl, q, c, 24, _, rfl, hq3, by omega, by decide, by decide, fun b H4 b0 b1 hq4 sb4 => ⟨rfl, _, rfl, ?_⟩⟩
      by_cases cb : b = 11
      · refine iteB (decide_eq_true (congrArg V.int cb)) ⟨_, rfl, q, c, _, rfl, hq4, by omega, fun H5 sb5 => ⟨true, rfl, iteF (fin _ _)⟩⟩
      · exact iteN (decide_eq_false fun z => cb (V.int.inj z)) (iteF (fin _ _))
end
end K16
/-! the end: all that the written part says, joined -/
namespace K16
open PySem PySem.Spec PyProof.Rows L2
theorem def_mk {K : PySem.W.Frag} {h : Heap} {mg : Str → Option Value} {x : Str} {st : Stmt} {f : Addr} {oc kV doc pm cdv ct : Value} {od an : Option Addr} {osl : Array (Option Value)} (X : K.In h) (G : h.Ns mainGlobals mg) (a : PySem.W.nsIn K mainGlobals x = some (some (.ref f)))
    (l : K.lookup f = some ⟨oc, od, .func (PySem.W.fnOf x x (defArgs st) (defBody st) (defScope st) .none kV doc pm an cdv ct), osl⟩) (c : PySem.W.codeIn K cdv x = true) (k : PySem.W.keepIn K (.ref f) = true) : Def K mg x st := ⟨f, _, fun_mk l c k, PySem.W.mg_of X G a⟩
theorem kit_no {K : PySem.W.Frag} {C : Addr} {T : String} (i : PySem.W.isClsIn K C = true) (t : PySem.W.typeIn K (.ref C) = some (.type "type")) (s : PySem.W.subIn K (.type T) (.ref C) = some false) : PySem.W.kitOne K (.type T) (.ref C) = some false := by
  unfold PySem.W.isClsIn at i
  unfold PySem.W.kitOne
  rw [if_neg (by simp)]
  unfold PySem.W.kitCls
  dsimp only
  rw [if_pos (by rw [i, t]; decide), s]
theorem exm_own {K : PySem.W.Frag} {S : Addr} (h1 : PySem.W.subIn K (.ref S) (.type "BaseException") = some true) (h2 : PySem.W.isClsIn K S = true) (h3 : PySem.W.typeIn K (.ref S) = some (.type "type")) (h4 : PySem.W.subIn K (.ref S) (.ref S) = some true) : PySem.W.exmOne K (.ref S) (.ref S) = some true := by
  unfold PySem.W.isClsIn at h2
  unfold PySem.W.exmOne
  rw [if_pos (by rw [h1]; decide)]
  unfold PySem.W.kitCls
  dsimp only
  rw [if_pos (by rw [h2, h3]; decide), h4]
theorem end_mk {P : Program} {w : World} {K : PySem.W.Frag} {h : Heap} {mg : Str → Option Value} {fa f1 LC lI C Dd fI fs fn Td cda cc : Addr} (X : K.In h) (G : h.Ns mainGlobals mg) (hfa : mg "law" = some (.ref fa))
    (d0 : Def K mg "is_integer" sIsInt) (d1 : Def K mg "is_within" sIsWithin) (d2 : Def K mg "fixed" sFixed) (d3 : Def K mg "lcm_in" sLcm) (d4 : Def K mg "inverse_in" sInv) (d5 : Def K mg "root_in" sRoot) (d6 : Def K mg "both_in" sBoth) (d7 : Def K mg "is_steps" sIsSteps) (d8 : Def K mg "rest_in" sRest) (d9 : Def K mg "bounds_of" sBounds) (d10 : Def K mg "is_shared" sShared) (d11 : Def K mg "are_apart" sApart) (d12 : Def K mg "turn_of" sTurn) (d13 : Def K mg "many_in" sManyIn) (d14 : Def K mg "clipped" sClipped) (d15 : Def K mg "many_shared" sManyShared) (d16 : Def K mg "within" sWithin) (d17 : Def K mg "_law_quilt" sQuilt) (d18 : Def K mg "_law_stitch" sStitch) (d19 : Def K mg "_law_patch" sPatch) (d20 : Def K mg "_law_broken" sBroken) (d21 : Def K mg "_law_drawn" sDrawn) (d22 : Def K mg "_law_patched" sPatched) (d23 : Def K mg "_law_changed" sChanged) (d24 : Def K mg "_law_odd_one" sOdd) (d25 : Def K mg "_law_unlike_right" sUnlike)
    (T : Bi mg) {tm : Tok} (aM : PySem.W.nsIn K mainGlobals "MOST_ROWS" = some (some (.int 1000 tm)))
    {oc1 kV1 dc1 pm1 cd1 ct1 : Value} {od1 an1 : Option Addr} {sl1 : Array (Option Value)} (a1 : PySem.W.nsIn K mainGlobals "law" = some (some (.ref f1))) (l1 : K.lookup f1 = some ⟨oc1, od1, .func (PySem.W.fnOf "law" "law" (defArgs sLaw) (defBody sLaw) (defScope sLaw) .none kV1 dc1 pm1 an1 cd1 ct1), sl1⟩)
    (c1 : PySem.W.codeIn K cd1 "law" = true) (k1 : PySem.W.keepIn K (.ref f1) = true)
    -- Layout
    (aL : PySem.W.nsIn K mainGlobals "Layout" = some (some (.ref LC))) (pgL : PySem.W.plainGet K LC Str.empty = true) (hdL : PySem.W.hasDictIn K LC = true) (poL : PySem.W.plainOver K LC = true) (saL : PySem.W.findIn K (.ref LC) "__setattr__" = some (some (.builtin "object.__setattr__")))
    (mkL : PySem.W.makesIn K LC = true) (inL : PySem.W.findIn K (.ref LC) "__init__" = some (some (.ref lI))) (fnL : PySem.W.isFn K (.ref lI) = true) (kpL : PySem.W.keepIn K (.ref LC) = true) (nR : PySem.W.findIn K (.ref LC) "rows" = some none)
    (i1 : PySem.W.findIn K (.ref LC) "__class__" = some (some (.builtin "object.__class__"))) (i2 : PySem.W.specialIn K (.builtin "object.__class__") "__get__" = some (some (.builtin "getset_descriptor.__get__"))) (i3 : PySem.W.takesIn K (.builtin "object.__class__") = some true)
    (i4 : PySem.W.mroIn K LC (.type "object") = some true) (icL : PySem.W.isClsIn K LC = true) (tyL : PySem.W.typeIn K (.ref LC) = some (.type "type"))
    (s1 : PySem.W.subIn K (.type "NoneType") (.ref LC) = some false) (s2 : PySem.W.subIn K (.type "tuple") (.ref LC) = some false) (s3 : PySem.W.subIn K (.type "int") (.ref LC) = some false) (s4 : PySem.W.subIn K (.type "list") (.ref LC) = some false)
    (s5 : PySem.W.subIn K (.type "str") (.ref LC) = some false) (s6 : PySem.W.subIn K (.type "bool") (.ref LC) = some false)
    {oc2 kV2 dc2 pm2 cd2 ct2 : Value} {od2 an2 : Option Addr} {sl2 : Array (Option Value)} (l2 : K.lookup lI = some ⟨oc2, od2, .func (PySem.W.fnOf "__init__" "Layout.__init__" (defArgs sInit) (defBody sInit) (defScope sInit) .none kV2 dc2 pm2 an2 cd2 ct2), sl2⟩)
    (c2 : PySem.W.codeIn K cd2 "Layout.__init__" = true) (k2 : PySem.W.keepIn K (.ref lI) = true)
    {oc3 kV3 dc3 pm3 cd3 ct3 : Value} {od3 an3 : Option Addr} {sl3 : Array (Option Value)} (a3 : PySem.W.findIn K (.ref LC) "same" = some (some (.ref fs))) (fn3 : PySem.W.isFn K (.ref fs) = true)
    (l3 : K.lookup fs = some ⟨oc3, od3, .func (PySem.W.fnOf "same" "Layout.same" (defArgs sSame) (defBody sSame) (defScope sSame) .none kV3 dc3 pm3 an3 cd3 ct3), sl3⟩) (c3 : PySem.W.codeIn K cd3 "Layout.same" = true) (k3 : PySem.W.keepIn K (.ref fs) = true)
    -- need_layout
    {oc4 kV4 dc4 pm4 cd4 ct4 : Value} {od4 an4 : Option Addr} {sl4 : Array (Option Value)} (a4 : PySem.W.nsIn K mainGlobals "need_layout" = some (some (.ref fn))) (l4 : K.lookup fn = some ⟨oc4, od4, .func (PySem.W.fnOf "need_layout" "need_layout" (defArgs sNeed) (defBody sNeed) (defScope sNeed) (.ref Td) kV4 dc4 pm4 an4 cd4 ct4), sl4⟩)
    (c4 : PySem.W.codeIn K cd4 "need_layout" = true) (k4 : PySem.W.keepIn K (.ref fn) = true) {oc5 : Value} {od5 : Option Addr} {sl5 : Array (Option Value)} {tk5 : Tok} {n5 : Nat} (l5 : K.lookup Td = some ⟨oc5, od5, .seq #[.str "layout" tk5] n5, sl5⟩)
    -- BadLayout
    {nm q : Str} {N : Addr} {bs : List Value} {sn : List Str} {sub : List Value} {ab : Bool} {col : Option Bool} {dd : Option Addr} {m0 m1 m2 m3 m5 : Option Value} (aC : PySem.W.nsIn K mainGlobals "BadLayout" = some (some (.ref C)))
    (xB : K.lookup C = some (excClassObj nm q C N bs [.ref Dd, .type "ValueError", .type "Exception", .type "BaseException", .type "object"] true sn sub ab col dd m0 m1 m2 m3 m5 "ValueError.__new__")) (saC : PySem.W.findIn K (.ref C) "__setattr__" = some (some (.builtin "object.__setattr__")))
    (exC : PySem.W.subIn K (.ref C) (.type "BaseException") = some true) (tyC : PySem.W.typeIn K (.ref C) = some (.type "type")) (kC : PySem.W.keepIn K (.ref C) = true) (icC : PySem.W.isClsIn K C = true) (ssC : PySem.W.subIn K (.ref C) (.ref C) = some true)
    (inC : PySem.W.findIn K (.ref C) "__init__" = some (some (.ref fI))) (tyI : PySem.W.typeIn K (.ref fI) = some (.type "function")) (gaC : PySem.W.findIn K (.ref C) "__getattribute__" = some (some (.builtin "BaseException.__getattribute__"))) (ggC : PySem.W.findIn K (.ref C) "__getattr__" = some none)
    (hdC : PySem.W.hasDictIn K C = true) (paC : PySem.W.findIn K (.ref C) "part" = some none) (veC : PySem.W.subIn K (.ref C) (.type "ValueError") = some true) (opC : PySem.W.nsIn K cStatics "thirdparty.any" = some none) (owC : PySem.W.mroIn K C (.ref C) = some true)
    {oc6 kV6 dc6 pm6 ct6 : Value} {od6 an6 : Option Addr} {sl6 : Array (Option Value)} (l6 : K.lookup fI = some ⟨oc6, od6, .func (PySem.W.ksFn "__init__" "BadLayout.__init__" (defArgs sBadInit) (defBody sBadInit) (defScope sBadInit) .none kV6 dc6 pm6 an6 (.ref cda) ct6 cc), sl6⟩)
    (c6 : PySem.W.codeIn K (.ref cda) "BadLayout.__init__" = true) {oc7 : Value} {od7 : Option Addr} {sl7 : Array (Option Value)} {vs7 : Array Value} {file : Str} {tf : Tok} (l7 : K.lookup cda = some ⟨oc7, od7, .fields vs7, sl7⟩) (v7 : vs7[2]? = some (.str file tf)) (hfile : (P.main.file == file) = true)
    {oc8 : Value} {od8 : Option Addr} {sl8 : Array (Option Value)} (l8 : K.lookup cc = some ⟨oc8, od8, .cell (some (.ref C)), sl8⟩) (suC : PySem.W.ks_superIn K C C "__init__" = some (some (.builtin "ValueError.__init__"))) (nsu : PySem.W.nsIn K mainGlobals "super" = some none)
    (htop : (P.main.scope.names.lookup ("super" : Str)).isSome = false) :
    ∃ fd : FuncData, (∀ (s : Shared) (v : Value), BindsTo s fd ⟨[v], []⟩ [("_law_script", v)]) ∧ ∀ base : Heap, K.In base → base.Ns mainGlobals mg → FnOk P w K mg base L2.CX0 9 fa fd ["_law_script"] (spLaw K) := by
  have e := hfa.symm.trans (PySem.W.mg_of X G a1)
  cases e
  have F1 := fun_mk (st := sLaw) l1 c1 k1
  have F2 := fun_mk (st := sInit) l2 c2 k2
  have F3 := fun_mk (st := sSame) l3 c3 k3
  have F4 : DefD K mg "need_layout" sNeed [.str "layout"] := ⟨fn, _, ⟨⟨oc4, od4, .ref Td, kV4, dc4, pm4, an4, cd4, ct4, sl4, rfl, l4, c4, .inr ⟨by simp, Td, _, [.str "layout" tk5], n5, rfl, l5, rfl, .cons ⟨tk5, rfl⟩ .nil⟩, .inl rfl⟩, k4⟩, PySem.W.mg_of X G a4⟩
  have L : LayK K mg LC lI := ⟨⟨pgL, hdL, poL, saL⟩, ⟨mkL, inL, fnL, kpL⟩, PySem.W.mg_of X G aL, nR, i1, i2, i3, i4, fun T hT => by
    simp only [List.mem_cons, List.not_mem_nil, or_false] at hT
    rcases hT with rfl | rfl | rfl | rfl | rfl | rfl
    · exact kit_no icL tyL s1
    · exact kit_no icL tyL s2
    · exact kit_no icL tyL s3
    · exact kit_no icL tyL s4
    · exact kit_no icL tyL s5
    · exact kit_no icL tyL s6⟩
  have oex : OexC K C := ⟨⟨nm, q, N, bs, _, sn, sub, ab, col, dd, m0, m1, m2, m3, m5, xB, by rfl⟩, saC, exC, tyC, kC⟩
  have B : BadK P K mg C fI (PySem.W.ksFn "__init__" "BadLayout.__init__" (defArgs sBadInit) (defBody sBadInit) (defScope sBadInit) .none kV6 dc6 pm6 an6 (.ref cda) ct6 cc) :=
    ⟨⟨oex, ⟨oc6, od6, kV6, dc6, pm6, an6, cda, cc, ct6, sl6, rfl, l6, c6, ⟨oc7, od7, vs7, sl7, file, tf, l7, v7, hfile⟩, oc8, od8, sl8, l8⟩, suC, veC, opC, owC, paC⟩, .all fun us hl => match us, hl with | [_, _], _ => rfl, inC, tyI, PySem.W.mg_of X G aC, exm_own exC icC tyC ssC,
      ⟨gaC, ggC, exC, hdC⟩, PySem.W.mg_none_of X G nsu, htop⟩
  have b2 := F2.binds (ps := ["self", "rows"]) fun _ _ _ _ _ _ us hl => match us, hl with | [_, _], _ => rfl
  have b3 := F3.binds (ps := ["self", "other"]) fun _ _ _ _ _ _ us hl => match us, hl with | [_, _], _ => rfl
  refine ⟨PySem.W.fnOf "law" "law" (defArgs sLaw) (defBody sLaw) (defScope sLaw) .none kV1 dc1 pm1 an1 cd1 ct1, fun s v => .of_eq rfl, fun base _ _ => ?_⟩
  have hInt : Cal P w K mg base 1 "is_integer" spIsInt := cal_isInt T d0
  have hWit : Cal P w K mg base 2 "is_within" spIsWithin := cal_isWithin d1 hInt
  have hFix : Cal P w K mg base 3 "fixed" (spFixed2 K) := cal_fixed2 T d2 (cal_fixed1 T d2 (cal_fixed0 T d2))
  have hLcm : Cal P w K mg base 1 "lcm_in" (spLcm K) := cal_lcm T d3
  have hBoth : Cal P w K mg base 3 "both_in" spBoth := cal_both T d6 (cal_root T d5 (cal_inv T d4)) hLcm
  have hSteps : Cal P w K mg base 3 "is_steps" spIsSteps := cal_isSteps T d7 hInt hWit
  have hRest : Cal P w K mg base 1 "rest_in" spRest := cal_rest T d8
  have hBou : Cal P w K mg base 1 "bounds_of" spBounds := cal_bounds T d9
  have hSha : Cal P w K mg base 4 "is_shared" spShared := cal_shared T d10 hBou hRest hBoth
  have hTurn : Cal P w K mg base 1 "turn_of" spTurn := cal_turn d12
  have hApa : Cal P w K mg base 5 "are_apart" spApart := cal_apart T d11 hRest hTurn hSha
  have hMany : Cal P w K mg base 1 "many_in" spManyIn := cal_manyIn d13
  have hClip : Cal P w K mg base 2 "clipped" spClipped := cal_clipped T d14 hRest
  have hMS : Cal P w K mg base 4 "many_shared" spManyShared := cal_manyShared T d15 hBou hRest hBoth
  have hWin : Cal P w K mg base 3 "within" (spWithin K) := cal_within d16 hClip
  have hNeed : Cal P w K mg base 1 "need_layout" (spNeed LC) := cal_need T F4 L
  have hNeedX : CalX P w K mg base 3 "need_layout" (spNeedX C K) := calX_need T F4 L B
  have gInit : FnOk P w K mg base L2.CX0 6 lI _ ["self", "rows"] (spInit LC) := fn_init T L F2 ⟨tm, PySem.W.mg_of X G aM⟩ hSteps hFix hApa hTurn
  have gSame : FnOk P w K mg base L2.CX0 5 fs _ ["self", "other"] (spSame LC) := fn_same T L F3 hNeed hLcm hWin hMS hMany
  have gSameX : FnOk P w K mg base (L2.CX P w) 4 fs _ ["self", "other"] (spSameX C K) := fn_sameX F3 hNeedX
  have S : SameK P w K mg base LC C := ⟨fs, _, ⟨a3, fn3, k3⟩, b3, gSame, gSameX⟩
  have LF : LayF P w K mg base LC lI C := ⟨L, ⟨_, gInit, b2⟩, ⟨fs, _, ⟨a3, fn3, k3⟩, b3, fun s u v _ => .of_eq rfl, gSame⟩⟩
  have hSti : Cal P w K mg base 1 "_law_stitch" spStitch := cal_stitch T d18
  have hPat : Cal P w K mg base 2 "_law_patch" spPatch := cal_patch T d19 hSti
  have hBro : Cal P w K mg base 2 "_law_broken" spBroken := cal_broken T d20 hSti
  exact fn_law T F1 LF (cal_quilt T d17) hSti hPat (cal_drawn T d21 hSti hPat) (cal_patched T d22 hSti hBro) (cal_changed T d23 hSti hPat) (cal_odd d24 L S) (cal_oddX d24 L S B)
    (cal_unlike T d25 LF hSti hPat)
theorem walk {l : PySem.W.OpenLaw} {q : Program} {loose : List Str} {XP : (Str → Option Value) → Heap → Prop} {YP : World → Heap → Prop} {d : DefRec} {K : Params → PySem.W.Frag} (hn : l.most = some 63) (hdf : d.params.defaults = []) (hY : ∀ (w : World) (h : Heap), YP w h → (K w.params).In h)
    (F : ∀ (w : World) (mg : Str → Option Value) (fa : Addr) (h : Heap), (K w.params).In h → h.Ns mainGlobals mg → mg d.name = some (.ref fa) →
      ∃ fd : FuncData, (∀ (s : Shared) (u : Value), BindsTo s fd ⟨[u], []⟩ [("_law_script", u)]) ∧ ∀ base : Heap, (K w.params).In base → base.Ns mainGlobals mg → FnOk l.prog w (K w.params) mg base L2.CX0 9 fa fd ["_law_script"] (spLaw (K w.params))) :
    PySem.W.WalkO q loose XP YP l.row.toRowW d [] (fun f vs => PySem.call f vs) :=
  L2.walk_of (n := 63) (k := 9) (x := "_law_script") (CX := fun _ => L2.CX0) (sp := fun w => spLaw (K w.params)) hn (by decide) hdf ⟨rfl, by decide, by decide⟩ hY F (fun _ _ a ns _ _ hS => ⟨a, ns, rfl, hS, fun _ => rfl⟩) fun _ _ _ _ _ z => z
end K16
open PySem PySem.W PyProof.Rows
set_option maxRecDepth 100000 in
set_option maxHeartbeats 0 in
theorem PySem.Challenge.cw_claimduel_k16_whole_same_layouts_holds : PySem.Challenge.rw_claimduel_k16_whole_same_layouts.Holds := by
  w_on; o_law; k_head; (case hw => w_witness2)
  k_fill
  refine K16.walk (l := PySem.Challenge.rw_claimduel_k16_whole_same_layouts) rfl rfl (fun w h Y => PySem.W.kIn_of Y) ?F
  case F =>
    intro w mg fa h KX G hmg
    refine' K16.end_mk KX G hmg (K16.def_mk KX G ?a0a ?l0a ?c0a ?k0a) (K16.def_mk KX G ?a1a ?l1a ?c1a ?k1a) (K16.def_mk KX G ?a2a ?l2a ?c2a ?k2a) (K16.def_mk KX G ?a3a ?l3a ?c3a ?k3a) (K16.def_mk KX G ?a4a ?l4a ?c4a ?k4a) (K16.def_mk KX G ?a5a ?l5a ?c5a ?k5a) (K16.def_mk KX G ?a6a ?l6a ?c6a ?k6a) (K16.def_mk KX G ?a7a ?l7a ?c7a ?k7a) (K16.def_mk KX G ?a8a ?l8a ?c8a ?k8a) (K16.def_mk KX G ?a9a ?l9a ?c9a ?k9a) (K16.def_mk KX G ?a10a ?l10a ?c10a ?k10a) (K16.def_mk KX G ?a11a ?l11a ?c11a ?k11a) (K16.def_mk KX G ?a12a ?l12a ?c12a ?k12a) (K16.def_mk KX G ?a13a ?l13a ?c13a ?k13a) (K16.def_mk KX G ?a14a ?l14a ?c14a ?k14a) (K16.def_mk KX G ?a15a ?l15a ?c15a ?k15a) (K16.def_mk KX G ?a16a ?l16a ?c16a ?k16a) (K16.def_mk KX G ?a17a ?l17a ?c17a ?k17a) (K16.def_mk KX G ?a18a ?l18a ?c18a ?k18a) (K16.def_mk KX G ?a19a ?l19a ?c19a ?k19a) (K16.def_mk KX G ?a20a ?l20a ?c20a ?k20a) (K16.def_mk KX G ?a21a ?l21a ?c21a ?k21a) (K16.def_mk KX G ?a22a ?l22a ?c22a ?k22a) (K16.def_mk KX G ?a23a ?l23a ?c23a ?k23a) (K16.def_mk KX G ?a24a ?l24a ?c24a ?k24a) (K16.def_mk KX G ?a25a ?l25a ?c25a ?k25a)
      ⟨PySem.W.mg_none_of KX G ?n0, PySem.W.mg_none_of KX G ?n1, PySem.W.mg_none_of KX G ?n2, PySem.W.mg_none_of KX G ?n3, PySem.W.mg_none_of KX G ?n4, PySem.W.mg_none_of KX G ?n5, PySem.W.mg_none_of KX G ?n6, PySem.W.mg_none_of KX G ?n7, PySem.W.mg_none_of KX G ?n8, PySem.W.mg_none_of KX G ?n9, PySem.W.mg_none_of KX G ?n10, PySem.W.mg_none_of KX G ?n11, PySem.W.mg_none_of KX G ?n12, PySem.W.mg_none_of KX G ?n13, PySem.W.mg_none_of KX G ?n14, PySem.W.mg_none_of KX G ?n15, PySem.W.mg_none_of KX G ?n16, PySem.W.mg_of KX G ?gc⟩ ?aM ?a1 ?l1 ?c1 ?k1 ?aL ?pgL ?hdL ?poL ?saL ?mkL ?inL ?fnL ?kpL ?nR ?i1 ?i2 ?i3 ?i4 ?icL ?tyL ?s1 ?s2 ?s3 ?s4 ?s5 ?s6 ?l2 ?c2 ?k2 ?a3 ?fn3 ?l3 ?c3 ?k3 ?a4 ?l4 ?c4 ?k4 ?l5 ?aC ?xB ?saC ?exC ?tyC ?kC ?icC ?ssC ?inC ?tyI ?gaC ?ggC ?hdC ?paC ?veC ?opC ?owC ?l6 ?c6 ?l7 ?v7 ?hfile ?l8 ?suC ?nsu ?htop
    (case a0a => k_is)
    (case l0a => k_is)
    (case c0a => k_is)
    (case k0a => k_is)
    (case a1a => k_is)
    (case l1a => k_is)
    (case c1a => k_is)
    (case k1a => k_is)
    (case a2a => k_is)
    (case l2a => k_is)
    (case c2a => k_is)
    (case k2a => k_is)
    (case a3a => k_is)
    (case l3a => k_is)
    (case c3a => k_is)
    (case k3a => k_is)
    (case a4a => k_is)
    (case l4a => k_is)
    (case c4a => k_is)
    (case k4a => k_is)
    (case a5a => k_is)
    (case l5a => k_is)
    (case c5a => k_is)
    (case k5a => k_is)
    (case a6a => k_is)
    (case l6a => k_is)
    (case c6a => k_is)
    (case k6a => k_is)
    (case a7a => k_is)
    (case l7a => k_is)
    (case c7a => k_is)
    (case k7a => k_is)
    (case a8a => k_is)
    (case l8a => k_is)
    (case c8a => k_is)
    (case k8a => k_is)
    (case a9a => k_is)
    (case l9a => k_is)
    (case c9a => k_is)
    (case k9a => k_is)
    (case a10a => k_is)
    (case l10a => k_is)
    (case c10a => k_is)
    (case k10a => k_is)
    (case a11a => k_is)
    (case l11a => k_is)
    (case c11a => k_is)
    (case k11a => k_is)
    (case a12a => k_is)
    (case l12a => k_is)
    (case c12a => k_is)
    (case k12a => k_is)
    (case a13a => k_is)
    (case l13a => k_is)
    (case c13a => k_is)
    (case k13a => k_is)
    (case a14a => k_is)
    (case l14a => k_is)
    (case c14a => k_is)
    (case k14a => k_is)
    (case a15a => k_is)
    (case l15a => k_is)
    (case c15a => k_is)
    (case k15a => k_is)
    (case a16a => k_is)
    (case l16a => k_is)
    (case c16a => k_is)
    (case k16a => k_is)
    (case a17a => k_is)
    (case l17a => k_is)
    (case c17a => k_is)
    (case k17a => k_is)
    (case a18a => k_is)
    (case l18a => k_is)
    (case c18a => k_is)
    (case k18a => k_is)
    (case a19a => k_is)
    (case l19a => k_is)
    (case c19a => k_is)
    (case k19a => k_is)
    (case a20a => k_is)
    (case l20a => k_is)
    (case c20a => k_is)
    (case k20a => k_is)
    (case a21a => k_is)
    (case l21a => k_is)
    (case c21a => k_is)
    (case k21a => k_is)
    (case a22a => k_is)
    (case l22a => k_is)
    (case c22a => k_is)
    (case k22a => k_is)
    (case a23a => k_is)
    (case l23a => k_is)
    (case c23a => k_is)
    (case k23a => k_is)
    (case a24a => k_is)
    (case l24a => k_is)
    (case c24a => k_is)
    (case k24a => k_is)
    (case a25a => k_is)
    (case l25a => k_is)
    (case c25a => k_is)
    (case k25a => k_is)
    (case n0 => k_is)
    (case n1 => k_is)
    (case n2 => k_is)
    (case n3 => k_is)
    (case n4 => k_is)
    (case n5 => k_is)
    (case n6 => k_is)
    (case n7 => k_is)
    (case n8 => k_is)
    (case n9 => k_is)
    (case n10 => k_is)
    (case n11 => k_is)
    (case n12 => k_is)
    (case n13 => k_is)
    (case n14 => k_is)
    (case n15 => k_is)
    (case n16 => k_is)
    (case gc => k_is)
    (case aM => k_is)
    (case a1 => k_is)
    (case l1 => k_is)
    (case c1 => k_is)
    (case k1 => k_is)
    (case aL => k_is)
    (case pgL => k_is)
    (case hdL => k_is)
    (case poL => k_is)
    (case saL => k_is)
    (case mkL => k_is)
    (case inL => k_is)
    (case fnL => k_is)
    (case kpL => k_is)
    (case nR => k_is)
    (case i1 => k_is)
    (case i2 => k_is)
    (case i3 => k_is)
    (case i4 => k_is)
    (case icL => k_is)
    (case tyL => k_is)
    (case s1 => k_is)
    (case s2 => k_is)
    (case s3 => k_is)
    (case s4 => k_is)
    (case s5 => k_is)
    (case s6 => k_is)
    (case l2 => k_is)
    (case c2 => k_is)
    (case k2 => k_is)
    (case a3 => k_is)
    (case fn3 => k_is)
    (case l3 => k_is)
    (case c3 => k_is)
    (case k3 => k_is)
    (case a4 => k_is)
    (case l4 => k_is)
    (case c4 => k_is)
    (case k4 => k_is)
    (case l5 => k_is)
    (case aC => k_is)
    (case xB => k_is)
    (case saC => k_is)
    (case exC => k_is)
    (case tyC => k_is)
    (case kC => k_is)
    (case icC => k_is)
    (case ssC => first | rfl | k_is)
    (case inC => k_is)
    (case tyI => k_is)
    (case gaC => k_is)
    (case ggC => k_is)
    (case hdC => k_is)
    (case paC => k_is)
    (case veC => k_is)
    (case opC => k_is)
    (case owC => k_is)
    (case l6 => k_is)
    (case c6 => k_is)
    (case l7 => k_is)
    (case v7 => rfl)
    (case hfile => decide +kernel)
    (case l8 => k_is)
    (case suC => ks_is)
    (case nsu => k_is)
    (case htop => decide +kernel)
