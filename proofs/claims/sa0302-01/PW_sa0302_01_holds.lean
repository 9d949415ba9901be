import PyProof.Rows.All
import Wide.All
import OpenK.AllK
import Wide.FinOn
import Lean
import PySem.Challenge.RW_sa0302_01
open PySem PySem.W PyProof.Rows
set_option Elab.async false
namespace Mine
set_option maxRecDepth 100000 in
set_option maxHeartbeats 8000000 in
open_top hd for PySem.Challenge.rw_sa0302_01
end Mine
namespace Mine
/-- the whole step: the greatest q with 8 * T * q at most x -/
def stp (x T : Int) : Int := Int.fdiv (Int.fdiv x T) 8
theorem stp_lo {x T : Int} (hT : 1 ≤ T) : 8 * T * stp x T ≤ x := by
  unfold stp
  rw [Int.fdiv_eq_ediv_of_nonneg x (by omega : (0 : Int) ≤ T), Int.fdiv_eq_ediv_of_nonneg _ (by decide)]
  have h1 : x / T * T ≤ x := Int.ediv_mul_le x (by omega)
  have h2 : x / T / 8 * 8 ≤ x / T := Int.ediv_mul_le _ (by decide)
  have h3 : T * (x / T / 8 * 8) ≤ T * (x / T) := Int.mul_le_mul_of_nonneg_left h2 (by omega)
  have e1 : T * (x / T) = x / T * T := Int.mul_comm _ _
  have e2 : 8 * T * (x / T / 8) = T * (x / T / 8 * 8) := by rw [Int.mul_comm 8 T, Int.mul_assoc, Int.mul_comm 8]
  omega
theorem stp_hi {x T : Int} (hT : 1 ≤ T) : x < 8 * T * (stp x T + 1) := by
  unfold stp
  rw [Int.fdiv_eq_ediv_of_nonneg x (by omega : (0 : Int) ≤ T), Int.fdiv_eq_ediv_of_nonneg _ (by decide)]
  have h1 : x < (x / T + 1) * T := Int.lt_ediv_add_one_mul_self x (by omega)
  have h2 : x / T < (x / T / 8 + 1) * 8 := Int.lt_ediv_add_one_mul_self _ (by decide)
  have h3 : T * (x / T + 1) ≤ T * ((x / T / 8 + 1) * 8) := Int.mul_le_mul_of_nonneg_left (by omega) (by omega)
  have e1 : T * (x / T + 1) = (x / T + 1) * T := Int.mul_comm _ _
  have e2 : 8 * T * (x / T / 8 + 1) = T * ((x / T / 8 + 1) * 8) := by rw [Int.mul_comm 8 T, Int.mul_assoc, Int.mul_comm 8]
  omega
theorem lt_of_mul {T a b : Int} (hT : 1 ≤ T) (h : 8 * T * a < 8 * T * b) : a < b := Int.lt_of_mul_lt_mul_left h (by omega)
theorem stp_mono {x y T : Int} (hT : 1 ≤ T) (h : x ≤ y) : stp x T ≤ stp y T := by
  have h1 := stp_lo (x := x) hT
  have h2 := stp_hi (x := y) hT
  have := lt_of_mul hT (Int.lt_of_le_of_lt (Int.le_trans h1 h) h2)
  omega
theorem stp_nn {x T : Int} (hT : 1 ≤ T) (h : 0 ≤ x) : 0 ≤ stp x T := by
  have h2 := stp_hi (x := x) hT
  have : 8 * T * 0 < 8 * T * (stp x T + 1) := by rw [Int.mul_zero]; omega
  have := lt_of_mul hT this
  omega
theorem stp_zero {T : Int} (hT : 1 ≤ T) : stp 0 T = 0 := by
  have h1 := stp_lo (x := 0) hT
  have h2 := stp_nn (x := 0) hT (Int.le_refl 0)
  have : 8 * T * stp 0 T < 8 * T * 1 := by rw [Int.mul_one]; omega
  have := lt_of_mul hT this
  omega
/-- off by d, d at most T: eight steps are at most the fee -/
theorem stp_eighth {f d T : Int} (hT : 1 ≤ T) (hf : 0 ≤ f) (hd : d ≤ T) : 8 * stp (f * d) T ≤ f := by
  have h1 := stp_lo (x := f * d) hT
  have h2 : f * d ≤ f * T := Int.mul_le_mul_of_nonneg_left hd hf
  have e1 : 8 * T * stp (f * d) T = T * (8 * stp (f * d) T) := by rw [Int.mul_comm 8 T, Int.mul_assoc]
  have e2 : f * T = T * f := Int.mul_comm _ _
  exact Int.le_of_mul_le_mul_left (by omega : T * (8 * stp (f * d) T) ≤ T * f) (by omega)
theorem stp_one {x T : Int} (hT : 1 ≤ T) (h : 8 * T ≤ x) : 1 ≤ stp x T := by
  have h2 := stp_hi (x := x) hT
  have : 8 * T * 1 < 8 * T * (stp x T + 1) := by rw [Int.mul_one]; omega
  have := lt_of_mul hT this
  omega
theorem stp_none {x T : Int} (hT : 1 ≤ T) (h0 : 0 ≤ x) (h : ¬ 8 * T ≤ x) : stp x T = 0 := by
  have h1 := stp_lo (x := x) hT
  have h2 := stp_nn hT h0
  have : 8 * T * stp x T < 8 * T * 1 := by rw [Int.mul_one]; omega
  have := lt_of_mul hT this
  omega
theorem mul_ok {a b : Int} (ha : a.natAbs < 2085924839766513752338888384931203236916703635113918720651407820138886450957656787131798913024) (hb : b.natAbs < 2085924839766513752338888384931203236916703635113918720651407820138886450957656787131798913024) : IntMulOk a b := by
  refine PyProof.Rows.mulOk_of_bits (m := 310) (n := 310) ?_ ?_ (by decide)
  · exact intBits_le_iff.mpr (Nat.lt_of_lt_of_eq ha (by decide +kernel))
  · exact intBits_le_iff.mpr (Nat.lt_of_lt_of_eq hb (by decide +kernel))
theorem half_ge {l : Int} (h : 2 ≤ l) : 1 ≤ Int.fdiv l 2 := by
  rw [Int.fdiv_eq_ediv_of_nonneg _ (by decide)]
  omega
theorem half_ne {l : Int} (h : 2 ≤ l) : Int.fdiv l 2 ≠ 0 := by
  have := half_ge h
  omega
theorem half_log {l : Int} (h : 2 ≤ l) (h1 : l < 2 ^ 64) : (Int.fdiv l 2).natAbs.log2 < 9000 := by
  have h2 := half_ge h
  have e : Int.fdiv l 2 = l / 2 := Int.fdiv_eq_ediv_of_nonneg _ (by decide)
  have h3 : (Int.fdiv l 2).natAbs < 2 ^ 64 := by rw [e] at h2 ⊢; omega
  have h4 : (Int.fdiv l 2).natAbs.log2 < 64 := (Nat.log2_lt (by omega)).mpr h3
  omega
def aft (goal spent fee : Int) : Int := if spent > goal then fee + max 1 (Int.fdiv (Int.fdiv (fee * (spent - goal)) goal) 8) else fee - Int.fdiv (Int.fdiv (fee * (goal - spent)) goal) 8
theorem aft_lo {goal spent fee : Int} (h : ¬ goal < spent) : fee - Int.fdiv (Int.fdiv (fee * (goal - spent)) goal) 8 = aft goal spent fee := by
  unfold aft
  rw [if_neg h]
theorem aft_hi {goal spent fee : Int} (h : goal < spent) : (fee + if Int.fdiv (Int.fdiv (fee * (spent - goal)) goal) 8 > 1 then Int.fdiv (Int.fdiv (fee * (spent - goal)) goal) 8 else 1) = aft goal spent fee := by
  unfold aft
  rw [if_pos h]
  split <;> omega
def StepOk (goal spent fee after : Int) : Prop :=
  (spent = goal → after = fee) ∧
  (spent ≠ goal → ¬ 8 * goal * ((if after - fee < 0 then -(after - fee) else after - fee) + 1) ≤ fee * if spent - goal < 0 then -(spent - goal) else spent - goal) ∧
  (spent < goal → after ≤ fee ∧ (8 * goal * if after - fee < 0 then -(after - fee) else after - fee) ≤ fee * if spent - goal < 0 then -(spent - goal) else spent - goal) ∧
  (goal < spent → fee < after ∧ ((8 * goal * if after - fee < 0 then -(after - fee) else after - fee) ≤ (fee * if spent - goal < 0 then -(spent - goal) else spent - goal) ∨ (if after - fee < 0 then -(after - fee) else after - fee) = 1))
def BoundOk (fee after : Int) : Prop := (¬ after < if 7 < fee then 7 else fee) ∧ ¬ 8 * after < 7 * fee ∧ (8 * after ≤ 9 * fee ∨ after = fee + 1)
end Mine
namespace Mine
theorem aft_up {T s f : Int} (h : T < s) : aft T s f = f + max 1 (stp (f * (s - T)) T) := by
  unfold aft stp
  rw [if_pos h]
theorem aft_dn {T s f : Int} (h : ¬ T < s) : aft T s f = f - stp (f * (T - s)) T := by
  unfold aft stp
  rw [if_neg h]
theorem aft_nn {T s f : Int} (hT : 1 ≤ T) (hs : 0 ≤ s) (hf : 0 ≤ f) : 0 ≤ aft T s f := by
  by_cases h : T < s
  · rw [aft_up h]; omega
  · rw [aft_dn h]
    have := stp_eighth hT hf (by omega : T - s ≤ T)
    have := stp_nn hT (Int.mul_nonneg hf (by omega : 0 ≤ T - s))
    omega
theorem stp_bound {f d T : Int} (hT : 1 ≤ T) (hf : 0 ≤ f) (hd : d ≤ 8 * T) : stp (f * d) T ≤ f := by
  have h1 := stp_lo (x := f * d) hT
  have h2 : f * d ≤ f * (8 * T) := Int.mul_le_mul_of_nonneg_left hd hf
  have e2 : f * (8 * T) = 8 * T * f := Int.mul_comm _ _
  exact Int.le_of_mul_le_mul_left (by omega : 8 * T * stp (f * d) T ≤ 8 * T * f) (by omega)
theorem aft_le {T s f : Int} (hT : 1 ≤ T) (hf : 0 ≤ f) (h : s ≤ 2 * T + 1) : aft T s f ≤ 2 * f + 1 := by
  by_cases k : T < s
  · rw [aft_up k]
    have := stp_bound hT hf (by omega : s - T ≤ 8 * T)
    omega
  · rw [aft_dn k]
    have := stp_nn hT (Int.mul_nonneg hf (by omega : 0 ≤ T - s))
    omega
theorem step_ok {T s f : Int} (hT : 1 ≤ T) (hf : 0 ≤ f) : StepOk T s f (aft T s f) := by
  by_cases h : T < s
  · rw [aft_up h]
    have h0 := Int.mul_nonneg hf (by omega : 0 ≤ s - T)
    have h1 := stp_lo (x := f * (s - T)) hT
    have h2 := stp_hi (x := f * (s - T)) hT
    have h3 := stp_nn hT h0
    have e1 : (if f + max 1 (stp (f * (s - T)) T) - f < 0 then -(f + max 1 (stp (f * (s - T)) T) - f) else f + max 1 (stp (f * (s - T)) T) - f) = max 1 (stp (f * (s - T)) T) := by rw [if_neg (by omega)]; omega
    have e2 : (if s - T < 0 then -(s - T) else s - T) = s - T := if_neg (by omega)
    unfold StepOk
    rw [e1, e2]
    refine ⟨fun e => by omega, fun _ y => ?_, fun k => by omega, fun _ => ⟨by omega, ?_⟩⟩
    · have : 8 * T * (stp (f * (s - T)) T + 1) ≤ 8 * T * (max 1 (stp (f * (s - T)) T) + 1) := Int.mul_le_mul_of_nonneg_left (by omega) (by omega)
      omega
    · by_cases k : 1 ≤ stp (f * (s - T)) T
      · left
        rw [show max 1 (stp (f * (s - T)) T) = stp (f * (s - T)) T by omega]
        exact h1
      · right
        omega
  · rw [aft_dn h]
    have h0 := Int.mul_nonneg hf (by omega : 0 ≤ T - s)
    have h1 := stp_lo (x := f * (T - s)) hT
    have h2 := stp_hi (x := f * (T - s)) hT
    have h3 := stp_nn hT h0
    have e1 : (if f - stp (f * (T - s)) T - f < 0 then -(f - stp (f * (T - s)) T - f) else f - stp (f * (T - s)) T - f) = stp (f * (T - s)) T := by split <;> omega
    have e2 : (if s - T < 0 then -(s - T) else s - T) = T - s := by split <;> omega
    unfold StepOk
    rw [e1, e2]
    refine ⟨fun e => ?_, fun _ y => by omega, fun _ => ⟨by omega, h1⟩, fun k => by omega⟩
    subst e
    rw [Int.sub_self, Int.mul_zero, stp_zero hT]
    omega
theorem bound_ok {T s f : Int} (hT : 1 ≤ T) (hf : 0 ≤ f) (hs0 : 0 ≤ s) (hs : s ≤ T + T) : BoundOk f (aft T s f) := by
  unfold BoundOk
  by_cases h : T < s
  · rw [aft_up h]
    have := stp_eighth hT hf (by omega : s - T ≤ T)
    have := stp_nn hT (Int.mul_nonneg hf (by omega : 0 ≤ s - T))
    refine ⟨?_, ?_, ?_⟩
    · split <;> omega
    · omega
    · omega
  · rw [aft_dn h]
    have := stp_eighth hT hf (by omega : T - s ≤ T)
    have := stp_nn hT (Int.mul_nonneg hf (by omega : 0 ≤ T - s))
    refine ⟨?_, ?_, ?_⟩
    · split <;> omega
    · omega
    · omega
theorem aft_mono {T s s' f : Int} (hT : 1 ≤ T) (hf : 0 ≤ f) (h : s ≤ s') : aft T s f ≤ aft T s' f := by
  by_cases k : T < s
  · have k' : T < s' := by omega
    rw [aft_up k, aft_up k']
    have := stp_mono hT (Int.mul_le_mul_of_nonneg_left (by omega : s - T ≤ s' - T) hf)
    omega
  · rw [aft_dn k]
    have := stp_nn hT (Int.mul_nonneg hf (by omega : 0 ≤ T - s))
    by_cases k' : T < s'
    · rw [aft_up k']
      omega
    · rw [aft_dn k']
      have := stp_mono hT (Int.mul_le_mul_of_nonneg_left (by omega : T - s' ≤ T - s) hf)
      omega
theorem not_apart {T s s' f : Int} (hT : 1 ≤ T) (hf : 0 ≤ f) : ¬ (s' - s) * (aft T s' f - aft T s f) < 0 := by
  rcases Int.le_total s s' with h | h
  · have := aft_mono (T := T) (f := f) hT hf h
    have := Int.mul_nonneg (by omega : 0 ≤ s' - s) (by omega : 0 ≤ aft T s' f - aft T s f)
    omega
  · have := aft_mono (T := T) (f := f) hT hf h
    have := Int.mul_nonneg (by omega : 0 ≤ s - s') (by omega : 0 ≤ aft T s f - aft T s' f)
    have e : (s' - s) * (aft T s' f - aft T s f) = (s - s') * (aft T s f - aft T s' f) := by
      rw [← Int.neg_sub s s', ← Int.neg_sub (aft T s f) (aft T s' f), Int.neg_mul_neg]
    omega
/-- back over the mirror use -/
theorem back_le {T s f : Int} (hT : 1 ≤ T) (hf : 0 ≤ f) (hs0 : 0 ≤ s) (hs : s ≤ T + T) :
    aft T (T + T - s) (aft T s f) ≤ f + 1 ∧ (8 * T ≤ (f * if s - T < 0 then -(s - T) else s - T) → aft T (T + T - s) (aft T s f) ≤ f) := by
  by_cases h : T < s
  · rw [aft_dn (s := T + T - s) (by omega), aft_up h]
    have e2 : (if s - T < 0 then -(s - T) else s - T) = s - T := if_neg (by omega)
    have e3 : T - (T + T - s) = s - T := by omega
    rw [e2, e3]
    have h0 := Int.mul_nonneg hf (by omega : 0 ≤ s - T)
    have h3 := stp_nn hT h0
    have h4 : f * (s - T) ≤ (f + max 1 (stp (f * (s - T)) T)) * (s - T) := Int.mul_le_mul_of_nonneg_right (by omega) (by omega)
    have h5 := stp_mono hT h4
    refine ⟨by omega, fun c => ?_⟩
    have := stp_one hT c
    omega
  · rw [aft_dn h]
    have e2 : (if s - T < 0 then -(s - T) else s - T) = T - s := by split <;> omega
    rw [e2]
    have h0 := Int.mul_nonneg hf (by omega : 0 ≤ T - s)
    have h3 := stp_nn hT h0
    by_cases k : T < T + T - s
    · rw [aft_up k]
      have e3 : T + T - s - T = T - s := by omega
      rw [e3]
      have h4 : (f - stp (f * (T - s)) T) * (T - s) ≤ f * (T - s) := Int.mul_le_mul_of_nonneg_right (by omega) (by omega)
      have h5 := stp_mono hT h4
      refine ⟨?_, fun c => ?_⟩
      · omega
      · have := stp_one hT c
        omega
    · rw [aft_dn k]
      have h6 := stp_nn hT (Int.mul_nonneg (aft_dn h ▸ aft_nn hT hs0 hf : 0 ≤ f - stp (f * (T - s)) T) (by omega : 0 ≤ T - (T + T - s)))
      exact ⟨by omega, fun _ => by omega⟩
end Mine
namespace Mine
/-- what holds between two turns: len turns are over, many of them laid a block -/
def Inv (first : Int) (len : Nat) (fee many : Int) : Prop :=
  ∃ j : Nat, many = (j : Int) ∧ j ≤ len ∧ 0 ≤ fee ∧ (7 : Int) ^ j * first ≤ (8 : Int) ^ j * fee ∧ (8 : Int) ^ j * (fee + 8) ≤ (9 : Int) ^ j * (first + 8) ∧ fee + 8 ≤ (2 : Int) ^ j * (first + 8)
theorem inv_start {first : Int} (h : 0 ≤ first) : Inv first 0 first 0 := ⟨0, rfl, Nat.le_refl 0, h, by omega, by omega, by omega⟩
theorem inv_skip {first fee many : Int} {len : Nat} (h : Inv first len fee many) : Inv first (len + 1) fee many :=
  let ⟨j, e, hj, r⟩ := h; ⟨j, e, Nat.le_succ_of_le hj, r⟩
theorem inv_step {first fee many after : Int} {len : Nat} (h : Inv first len fee many) (_h0 : 0 ≤ first) (ha : 0 ≤ after) (hb : BoundOk fee after) : Inv first (len + 1) after (many + 1) := by
  obtain ⟨j, e, hj, hf, h1, h2, h3⟩ := h
  obtain ⟨_, b1, b2⟩ := hb
  have p8 : (0 : Int) < (8 : Int) ^ j := Int.pow_pos (by decide)
  have p2 : (0 : Int) < (2 : Int) ^ j := Int.pow_pos (by decide)
  refine ⟨j + 1, by omega, by omega, ha, ?_, ?_, ?_⟩
  · rw [Int.pow_succ, Int.pow_succ]
    have a1 : (8 : Int) ^ j * (7 * fee) ≤ (8 : Int) ^ j * (8 * after) := Int.mul_le_mul_of_nonneg_left (by omega) (by omega)
    have e1 : (8 : Int) ^ j * (7 * fee) = 7 * ((8 : Int) ^ j * fee) := Int.mul_left_comm _ _ _
    have e2 : (8 : Int) ^ j * 8 * after = (8 : Int) ^ j * (8 * after) := Int.mul_assoc _ _ _
    have e3 : (7 : Int) ^ j * 7 * first = 7 * ((7 : Int) ^ j * first) := by rw [Int.mul_comm ((7 : Int) ^ j) 7, Int.mul_assoc]
    omega
  · rw [Int.pow_succ, Int.pow_succ]
    have a1 : (8 : Int) ^ j * (8 * (after + 8)) ≤ (8 : Int) ^ j * (9 * (fee + 8)) := Int.mul_le_mul_of_nonneg_left (by omega) (by omega)
    have e1 : (8 : Int) ^ j * (9 * (fee + 8)) = 9 * ((8 : Int) ^ j * (fee + 8)) := Int.mul_left_comm _ _ _
    have e2 : (8 : Int) ^ j * 8 * (after + 8) = (8 : Int) ^ j * (8 * (after + 8)) := Int.mul_assoc _ _ _
    have e3 : (9 : Int) ^ j * 9 * (first + 8) = 9 * ((9 : Int) ^ j * (first + 8)) := by rw [Int.mul_comm ((9 : Int) ^ j) 9, Int.mul_assoc]
    omega
  · rw [Int.pow_succ]
    have e2 : (2 : Int) ^ j * 2 * (first + 8) = 2 * ((2 : Int) ^ j * (first + 8)) := by rw [Int.mul_comm ((2 : Int) ^ j) 2, Int.mul_assoc]
    omega
theorem pow_six (j : Nat) (h : j ≤ 6) : (2 : Int) ^ j ≤ 64 := by
  rcases (by omega : j = 0 ∨ j = 1 ∨ j = 2 ∨ j = 3 ∨ j = 4 ∨ j = 5 ∨ j = 6) with e | e | e | e | e | e | e <;> subst e <;> decide
theorem inv_small {first fee many : Int} {len : Nat} (h : Inv first len fee many) (h0 : 0 ≤ first) (h1 : first < 2 ^ 254) (hl : len ≤ 6) : 0 ≤ fee ∧ fee < 3705346855594118253554271520278013051304639509300498049262642688253220148477952 := by
  obtain ⟨j, _, hj, hf, _, _, h3⟩ := h
  have h4 : (2 : Int) ^ j ≤ 64 := pow_six j (by omega)
  have h5 : (2 : Int) ^ j * (first + 8) ≤ 64 * (first + 8) := Int.mul_le_mul_of_nonneg_right h4 (by omega)
  refine ⟨hf, ?_⟩
  omega
theorem inv_many {first fee many : Int} {len : Nat} (h : Inv first len fee many) : 0 ≤ many ∧ many ≤ len := by
  obtain ⟨j, e, hj, _⟩ := h
  omega
theorem inv_end1 {first fee many : Int} {len : Nat} (h : Inv first len fee many) : (7 : Int) ^ many.toNat * first ≤ (8 : Int) ^ many.toNat * fee := by
  obtain ⟨j, e, _, _, h1, _⟩ := h
  subst e
  exact h1
theorem inv_end2 {first fee many : Int} {len : Nat} (h : Inv first len fee many) : (8 : Int) ^ many.toNat * (fee + 8) ≤ (9 : Int) ^ many.toNat * (first + 8) := by
  obtain ⟨j, e, _, _, _, h1, _⟩ := h
  subst e
  exact h1
end Mine
namespace Mine
set_option maxRecDepth 100000
theorem look_int_bytes : typeLookup (.type "int") "__bytes__" = pure none := by rw [typeLookup_type, builtinLookup_eq_fast]; kernel_rfl
section
variable {prog : Program} {w : World} {A : Around} {E : Value → Shared → Prop} {s : Shared} {t : Tok}
theorem bytes32_new {Q : Value → Shared → Prop} (hQ : ∀ u k, Q (.bytes (Array.replicate 32 0) u) { s with toks := k }) :
    codeAny (model prog w) A (.call (.builtin "bytes.__new__") ⟨[.type "bytes", .int 32 t], []⟩) (wants Q E) s := by
  refine codeAny_of_tree ?_
  show wpAny _ A.in1 (do checkBuiltinCall "bytes.__new__" ⟨[.type "bytes", .int 32 t], []⟩; again (.builtin "bytes.__new__" ⟨[.type "bytes", .int 32 t], []⟩)) _ _ s
  refine wpAny_bind (wpAny_of_eq (F.bm_newCall _) (wpAny_pure ⟨plainId_quiet F.bm_plain _, codeAny_builtin F.bm_entry ?_⟩))
  rw [Around.under_plainId F.bm_plain _]
  have hT : s.TypeIs (.int 32 t) "int" := typeIs_int s 32 t
  unfold Builtin.«bytes.__new__»
  refine wpAny_bind (wpAny_of_eq (a := true) rfl ?_)
  refine bm_if_false rfl ?_
  refine wpAny_bind (wpAny_of_eq F.bm_sub ?_)
  refine bm_if_false rfl ?_
  refine wpAny_bind (wpAny_of_eq (F.bm_bind _) ?_)
  refine wpAny_bind (wpAny_of_eq (a := ()) rfl ?_)
  refine wpAny_bind (wpAny_of_eq (a := ()) rfl ?_)
  refine bm_if_false rfl ?_
  refine wpAny_bind (wpAny_specialOf hT look_int_bytes ?_)
  refine wpAny_bind (wpAny_bind ?_)
  refine wpAny_of_eq (a := none) rfl (wpAny_pure ?_)
  refine bm_if_false rfl ?_
  refine wpAny_bind (wpAny_specialOf hT F.slot_int_index.lookup ?_)
  refine bm_if_false rfl ?_
  refine wpAny_bind (wpAny_of_eq (a := .ok 32) rfl ?_)
  dsimp only
  rw [if_neg (by decide)]
  show wpAny _ _ (if (32 : Int) < 0 then _ else _) _ _ _
  rw [if_neg (by decide)]
  show wpAny _ _ (if (32 : Int) > 2 ^ 63 - 34 then _ else _) _ _ _
  rw [if_neg (by decide)]
  show wpAny _ _ (if Builtin.Bytes.tooLong _ = true then _ else _) _ _ _
  rw [KBy.tooLong_not (by decide), if_neg (by decide)]
  refine wpAny_bind (wpAny_rule ?_)
  refine wpAny_bind (wpAny_mkBytes ?_ (by rw [sizeLine_eq]; decide))
  show wpAny _ _ (if (Value.type "bytes" == Value.type "bytes") = true then _ else _) _ _ _
  refine bm_if_true (by decide) ?_
  first
    | exact wpAny_pure (hQ _ _)
    | exact wpAny_bind (wpAny_pure (wpAny_pure (hQ _ _)))
theorem call_bytes32 {Q : Value → Shared → Prop} (hQ : ∀ u k, Q (.bytes (Array.replicate 32 0) u) { s with toks := k }) : wpAny (model prog w) A (call (.type "bytes") [.int 32 t]) Q E s := by
  refine callType_codes (Q₁ := fun obj s₁ => s₁.TypeIs obj "bytes" ∧ Q obj s₁) F.bm_called (F.bm_typeCall _) F.entry_object_init
    (bytes32_new fun u k => ⟨PySem.W.typeIs_bytes _ _ _, hQ u k⟩) fun obj s₁ h₁ => ?_
  exact ⟨h₁.1, F.args_object_init_2 obj _, object_init_meets F.bm_called.init.lookup F.bm_called.made (by decide) prog w A.in1 _ s₁ ⟨h₁.1, rfl, h₁.2⟩⟩
end
end Mine
namespace Mine

theorem fmod_nn {n : Int} (h : 0 < n) (a : Int) : 0 ≤ Int.fmod a n := Int.fmod_nonneg_of_pos a h
theorem fmod_lt {n : Int} (h : 0 < n) (a : Int) : Int.fmod a n < n := Int.fmod_lt_of_pos a h
section
variable {prog : Program} {w : World} {A : Around} {E : Value → Shared → Prop} {s : Shared} {h₀ : Heap} {L D : Addr} {m : Str → Option Value} {news news' : List (Addr × Obj)} {p q z v : Value} {n : Nat} {t : Tok}
theorem well_set1 {Q : Unit → Shared → Prop} (F : Fr h₀ L s.heap m) (N : News h₀ L s.heap news) (U : Upd D (listOf #[p, q, z] n) (listOf #[p, v, z] n) news news')
    (h : ∀ h', Fr h₀ L h' m → News h₀ L h' news' → Q () { s with heap := h' }) : wpAny (model prog w) A (setItem (.ref D) (.int 1 t) v) Q E s := by
  obtain ⟨pre, post, rfl, rfl, a, b⟩ := U.split
  have y := N (D, listOf #[p, q, z] n) (List.mem_append.mpr (.inr (.head _)))
  exact ki_setAt y.1 (by decide) (by decide) (by show (_ : Int) < ((3 : Nat) : Int); decide) (h _ (F.change (Heap.SameBut.update ..) y.2.1 y.2.2) (ki_turn _ N a b rfl rfl))
theorem well_set2 {Q : Unit → Shared → Prop} (F : Fr h₀ L s.heap m) (N : News h₀ L s.heap news) (U : Upd D (listOf #[p, q, z] n) (listOf #[p, q, v] n) news news')
    (h : ∀ h', Fr h₀ L h' m → News h₀ L h' news' → Q () { s with heap := h' }) : wpAny (model prog w) A (setItem (.ref D) (.int 2 t) v) Q E s := by
  obtain ⟨pre, post, rfl, rfl, a, b⟩ := U.split
  have y := N (D, listOf #[p, q, z] n) (List.mem_append.mpr (.inr (.head _)))
  exact ki_setAt y.1 (by decide) (by decide) (by show (_ : Int) < ((3 : Nat) : Int); decide) (h _ (F.change (Heap.SameBut.update ..) y.2.1 y.2.2) (ki_turn _ N a b rfl rfl))
end
local macro_rules | `(tactic| walk_at "setItem ref int") => `(tactic| (k_here; (with_reducible show wpAny _ _ (setItem (Value.ref _) (Value.int 1 _) _) _ _ _); k_dflt (refine' well_set1 ?k1 ?k2 ?k3 ?_; (case k1 => k_asm); (case k2 => k_asm); (case k3 => k_upd); k_whole); intro h' F' N'; (try k_sweep)))
local macro_rules | `(tactic| walk_at "setItem ref int") => `(tactic| (k_here; (with_reducible show wpAny _ _ (setItem (Value.ref _) (Value.int 2 _) _) _ _ _); k_dflt (refine' well_set2 ?k1 ?k2 ?k3 ?_; (case k1 => k_asm); (case k2 => k_asm); (case k3 => k_upd); k_whole); intro h' F' N'; (try k_sweep)))
def Draws (w : World) (loose : List Str) (mean : ExcName → Option Value) (mg mb : Str → Option Value) : Prop :=
  ∀ (dp un : Nat) (gd : Option (List Code)) (cn : Str) (cs : Scope) (a : Addr) (ccd : Value) (cl : List (Str × Addr)) (outer : List Env) (A₀ : Around) (base h₀ : Heap) (L : Addr) (m : Str → Option Value) (s : Shared)
    (wl l : Addr) (vs : List Value) (ns : List Int) (nn k : Nat) (i : Int) (t : Tok) (r : Int) (u : Tok) (n : Int) (tn : Tok) (own : List (Addr × Obj)) (Q E : Value → Shared → Prop),
    Below A₀ base outer h₀ → Fr h₀ L s.heap m → (hd.heap_39 w.params).In h₀ → News h₀ L s.heap ((wl, listOf #[.ref l, .int i t, .int r u] k) :: (l, listOf vs.toArray nn) :: own) → OwnOff own [wl, l] → @LT.lt Nat _ l wl →
    Top hd.view_39 loose mean mg mb h₀ → cs.kind = .function → IntsAre vs ns → ns.length ≤ 40 → 0 ≤ i → i ≤ 1000 → 0 ≤ r → r ≤ 100 → 0 < n → n < 2 ^ 256 → dp + 1 < recursionLimit → un + 8 < cLine →
    (∀ v tv i' t' r' u' h' tk', 0 ≤ v → v < n → i' = i + 1 → 0 ≤ r' → r' ≤ 100 → Fr h₀ L h' m → News h₀ L h' ((wl, listOf #[.ref l, .int i' t', .int r' u'] k) :: (l, listOf vs.toArray nn) :: own) → Q (.int v tv) { s with heap := h', toks := tk' }) →
    wpAny (model PySem.Challenge.rw_sa0302_01.row.prog w) (ktrTop dp un gd cn cs L a ccd cl outer) (call (.ref 102) [.ref wl, .int n tn]) Q E s

set_option maxRecDepth 100000 in
set_option maxHeartbeats 8000000 in
theorem fills (w : World) : PySem.Challenge.rw_sa0302_01 = PySem.Challenge.rw_sa0302_01 ∧ (hd.heap_39 w.params) = (hd.heap_39 w.params) := by
  k_fill
  exact ⟨rfl, rfl⟩
set_option maxRecDepth 100000 in
set_option maxHeartbeats 8000000 in
theorem draws (w : World) (loose : List Str) (mean : ExcName → Option Value) (mg mb : Str → Option Value) : Draws w loose mean mg mb := by
  unfold Draws
  intro dp un gd cn cs a ccd cl outer A₀ base h₀ L m s wl l vs ns nn k i t r u n tn own Q E B F X N hoff hlw T hk hi hlen h0 h1 hr0 hr1 hn0 hn1 hd hu hret
  refine wpAny_call ?_
  k_dflt cell_enter
  k_steps
  all_goals (
    refine' hret _ _ _ _ _ _ _ _ ?e1 ?e2 ?e3 ?e4 ?e5 ?e6 ?e7
    (case e6 => k_asm)
    (case e7 => refine' cb_drop ?N ?S; (case N => assumption); (case S => kcj_all))
    (case e1 => exact fmod_nn hn0 _)
    (case e2 => exact fmod_lt hn0 _)
    (case e3 => rfl)
    (case e4 => exact fmod_nn (by decide) _)
    (case e5 => exact Int.le_of_lt_add_one (fmod_lt (by decide) _)))
end Mine
namespace Mine
abbrev wellOf (l : Addr) (i : Int) (t : Tok) (r : Int) (u : Tok) (k : Nat) : Obj := listOf #[.ref l, .int i t, .int r u] k
section
variable {w : World} {loose : List Str} {mean : ExcName → Option Value} {mg mb : Str → Option Value} {dp un : Nat} {gd : Option (List Code)} {cn : Str} {cs : Scope} {a : Addr} {ccd : Value} {cl : List (Str × Addr)} {outer : List Env} {A₀ : Around} {base h₀ : Heap} {L : Addr} {m : Str → Option Value} {s : Shared}
    {wl l : Addr} {vs : List Value} {ns : List Int} {nn k : Nat} {i : Int} {t : Tok} {r : Int} {u : Tok} {n : Int} {tn : Tok} {own : List (Addr × Obj)} {x : Addr × Obj} {Q E : Value → Shared → Prop}
theorem draw_use0 (B : Below A₀ base outer h₀) (F : Fr h₀ L s.heap m) (X : (hd.heap_39 w.params).In h₀) (N : News h₀ L s.heap ((wl, wellOf l i t r u k) :: (l, listOf vs.toArray nn) :: own)) (T : Top hd.view_39 loose mean mg mb h₀) (hk : cs.kind = .function)
    (hoff : OwnOff own [wl, l]) (hlw : @LT.lt Nat _ l wl) (hi : IntsAre vs ns) (hlen : ns.length ≤ 40) (h0 : 0 ≤ i) (h1 : i ≤ 1000) (hr0 : 0 ≤ r) (hr1 : r ≤ 100) (hn0 : 0 < n) (hn1 : n < 2 ^ 256) (hd : dp + 1 < recursionLimit) (hu : un + 8 < cLine)
    (ret : ∀ v tv i' t' r' u' h' tk', 0 ≤ v → v < n → i' = i + 1 → 0 ≤ r' → r' ≤ 100 → Fr h₀ L h' m → News h₀ L h' ((wl, wellOf l i' t' r' u' k) :: (l, listOf vs.toArray nn) :: own) → Q (.int v tv) { s with heap := h', toks := tk' }) :
    wpAny (model PySem.Challenge.rw_sa0302_01.row.prog w) (ktrTop dp un gd cn cs L a ccd cl outer) (call (.ref 102) [.ref wl, .int n tn]) Q E s :=
  draws w loose mean mg mb _ _ _ _ _ _ _ _ _ _ _ _ _ _ _ _ _ _ _ _ _ _ _ _ _ _ _ _ _ _ B F X N hoff hlw T hk hi hlen h0 h1 hr0 hr1 hn0 hn1 hd hu ret
theorem news_swap {h : Heap} {x y z : Addr × Obj} (N : News h₀ L h (x :: y :: z :: own)) : News h₀ L h (y :: z :: x :: own) := fun p hp => N p (by
  rcases List.mem_cons.mp hp with e | hp
  · exact .tail _ (e ▸ .head _)
  rcases List.mem_cons.mp hp with e | hp
  · exact .tail _ (.tail _ (e ▸ .head _))
  rcases List.mem_cons.mp hp with e | hp
  · exact e ▸ .head _
  · exact .tail _ (.tail _ (.tail _ hp)))
theorem news_back {h : Heap} {x y z : Addr × Obj} (N : News h₀ L h (y :: z :: x :: own)) : News h₀ L h (x :: y :: z :: own) := news_swap (news_swap N)
theorem off_cons {y z : Addr} (h : OwnOff own [y, z]) (h1 : @LT.lt Nat _ y x.1) (h2 : @LT.lt Nat _ z x.1) : OwnOff (x :: own) [y, z] := by
  intro p hp b hb
  rcases List.mem_cons.mp hp with rfl | hp
  · rcases List.mem_cons.mp hb with rfl | hb
    · exact Nat.ne_of_gt h1
    · rw [List.mem_singleton.mp hb]; exact Nat.ne_of_gt h2
  · exact h p hp b hb
theorem draw_use1 (B : Below A₀ base outer h₀) (F : Fr h₀ L s.heap m) (X : (hd.heap_39 w.params).In h₀) (N : News h₀ L s.heap (x :: (wl, wellOf l i t r u k) :: (l, listOf vs.toArray nn) :: own)) (T : Top hd.view_39 loose mean mg mb h₀) (hk : cs.kind = .function)
    (hx : AllLt x.1 ((wl, wellOf l i t r u k) :: (l, listOf vs.toArray nn) :: own)) (hoff : OwnOff own [wl, l]) (hlw : @LT.lt Nat _ l wl) (hi : IntsAre vs ns) (hlen : ns.length ≤ 40) (h0 : 0 ≤ i) (h1 : i ≤ 1000) (hr0 : 0 ≤ r) (hr1 : r ≤ 100) (hn0 : 0 < n) (hn1 : n < 2 ^ 256) (hd : dp + 1 < recursionLimit) (hu : un + 8 < cLine)
    (ret : ∀ v tv i' t' r' u' h' tk', 0 ≤ v → v < n → i' = i + 1 → 0 ≤ r' → r' ≤ 100 → Fr h₀ L h' m → News h₀ L h' (x :: (wl, wellOf l i' t' r' u' k) :: (l, listOf vs.toArray nn) :: own) → Q (.int v tv) { s with heap := h', toks := tk' }) :
    wpAny (model PySem.Challenge.rw_sa0302_01.row.prog w) (ktrTop dp un gd cn cs L a ccd cl outer) (call (.ref 102) [.ref wl, .int n tn]) Q E s :=
  draw_use0 B F X (news_swap N) T hk (off_cons hoff hx.1 hx.2.1) hlw hi hlen h0 h1 hr0 hr1 hn0 hn1 hd hu fun v tv i' t' r' u' h' tk' a1 a2 a3 a4 a5 F' N' => ret v tv i' t' r' u' h' tk' a1 a2 a3 a4 a5 F' (news_back N')
end
end Mine
namespace Mine
local macro_rules | `(tactic| k_room) => `(tactic| ktr_room)
local macro_rules | `(tactic| walk_at "call ref") => `(tactic| (k_here; (with_reducible show wpAny _ _ (call (Value.ref 102) _) _ _ _); k_dflt (first | (refine' draw_use0 ?k1 ?k2 ?k3 ?k4 ?k5 ?kK ?ko ?kl ?ki ?kn ?k6 ?k7 ?k8 ?k9 ?ka ?kb ?kd ?ku ?_; (case k1 => k_asm); (case k2 => k_asm); (case k3 => k_asm); (case k4 => assumption); (case k5 => k_asm); (case kK => first | exact rfl | assumption); (case ko => assumption); (case kl => assumption); (case ki => assumption); (case kn => assumption); (case k6 => omega); (case k7 => omega); (case k8 => assumption); (case k9 => assumption); (case ka => first | decide | omega); (case kb => first | decide | omega); (case kd => ktr_room); (case ku => ktr_units)) | (refine' draw_use1 ?k1 ?k2 ?k3 ?k4 ?k5 ?kK ?kx ?ko ?kl ?ki ?kn ?k6 ?k7 ?k8 ?k9 ?ka ?kb ?kd ?ku ?_; (case k1 => k_asm); (case k2 => k_asm); (case k3 => k_asm); (case k4 => assumption); (case k5 => k_asm); (case kK => first | exact rfl | assumption); (case kx => assumption); (case ko => assumption); (case kl => assumption); (case ki => assumption); (case kn => assumption); (case k6 => omega); (case k7 => omega); (case k8 => assumption); (case k9 => assumption); (case ka => first | decide | omega); (case kb => first | decide | omega); (case kd => ktr_room); (case ku => ktr_units))); intro v9 tv9 i9 t9 r9 u9 h9 tk9 a91 a92 a93 a94 a95 F9 N9; (try dsimp only); (try k_fold)))

theorem menu8 {a : Int} (h0 : 0 ≤ a) (h1 : a < 9223372036854775808) (j : Nat) : 0 ≤ ([a, 30000000, 5001, a + a + 1, 3, 2, 1, 0] : List Int).getD j 0 ∧ ([a, 30000000, 5001, a + a + 1, 3, 2, 1, 0] : List Int).getD j 0 < 2 ^ 64 := by
  match j with
  | 0 => exact ⟨h0, by show a < _; omega⟩
  | 1 => exact ⟨by show (0 : Int) ≤ 30000000; decide, by show (30000000 : Int) < 2 ^ 64; decide⟩
  | 2 => exact ⟨by show (0 : Int) ≤ 5001; decide, by show (5001 : Int) < 2 ^ 64; decide⟩
  | 3 => exact ⟨by show 0 ≤ a + a + 1; omega, by show a + a + 1 < _; omega⟩
  | 4 => exact ⟨by show (0 : Int) ≤ 3; decide, by show (3 : Int) < 2 ^ 64; decide⟩
  | 5 => exact ⟨by show (0 : Int) ≤ 2; decide, by show (2 : Int) < 2 ^ 64; decide⟩
  | 6 => exact ⟨by show (0 : Int) ≤ 1; decide, by show (1 : Int) < 2 ^ 64; decide⟩
  | 7 => exact ⟨by show (0 : Int) ≤ 0; decide, by show (0 : Int) < 2 ^ 64; decide⟩
  | n + 8 => exact ⟨by show (0 : Int) ≤ 0; decide, by show (0 : Int) < 2 ^ 64; decide⟩
def Limits (w : World) (loose : List Str) (mean : ExcName → Option Value) (mg mb : Str → Option Value) : Prop :=
  ∀ (dp un : Nat) (gd : Option (List Code)) (cn : Str) (cs : Scope) (a : Addr) (ccd : Value) (cl : List (Str × Addr)) (outer : List Env) (A₀ : Around) (base h₀ : Heap) (L : Addr) (m : Str → Option Value) (s : Shared)
    (wl l : Addr) (vs : List Value) (ns : List Int) (nn k : Nat) (i : Int) (t : Tok) (r : Int) (u : Tok) (own : List (Addr × Obj)) (Q E : Value → Shared → Prop),
    Below A₀ base outer h₀ → Fr h₀ L s.heap m → (hd.heap_39 w.params).In h₀ → News h₀ L s.heap ((wl, wellOf l i t r u k) :: (l, listOf vs.toArray nn) :: own) → OwnOff own [wl, l] → @LT.lt Nat _ l wl →
    Top hd.view_39 loose mean mg mb h₀ → cs.kind = .function → IntsAre vs ns → ns.length ≤ 40 → 0 ≤ i → i ≤ 990 → 0 ≤ r → r ≤ 100 → dp + 3 < recursionLimit → un + 24 < cLine →
    (∀ v tv i' t' r' u' h' tk', 0 ≤ v → v < 2 ^ 64 → 0 ≤ i' → i' = i + 2 → 0 ≤ r' → r' ≤ 100 → Fr h₀ L h' m → News h₀ L h' ((wl, wellOf l i' t' r' u' k) :: (l, listOf vs.toArray nn) :: own) → Q (.int v tv) { s with heap := h', toks := tk' }) →
    wpAny (model PySem.Challenge.rw_sa0302_01.row.prog w) (ktrTop dp un gd cn cs L a ccd cl outer) (call (.ref 109) [.ref wl]) Q E s
set_option maxRecDepth 100000 in
set_option maxHeartbeats 8000000 in
theorem limits (w : World) (loose : List Str) (mean : ExcName → Option Value) (mg mb : Str → Option Value) : Limits w loose mean mg mb := by
  unfold Limits
  intro dp un gd cn cs a ccd cl outer A₀ base h₀ L m s wl l vs ns nn k i t r u own Q E B F X N hoff hlw T hk hi hlen h0 h1 hr0 hr1 hd hu hret
  refine wpAny_call ?_
  k_dflt cell_enter
  k_steps
  all_goals (
    refine' hret _ _ _ _ _ _ _ _ ?e1 ?e2 ?e3 ?e4 ?e5 ?e6 ?e7 ?e8
    (case e7 => k_asm)
    (case e8 => refine' cb_drop ?cN ?cS; (case cN => assumption); (case cS => kcj_all))
    (case e1 => exact (menu8 (by assumption) (by assumption) _).1)
    (case e2 => exact (menu8 (by assumption) (by assumption) _).2)
    (case e3 => omega)
    (case e4 => omega)
    (case e5 => assumption)
    (case e6 => assumption))
end Mine
namespace Mine
local macro_rules | `(tactic| k_room) => `(tactic| ktr_room)
local macro_rules | `(tactic| walk_at "call ref") => `(tactic| (k_here; (with_reducible show wpAny _ _ (call (Value.ref 102) _) _ _ _); k_dflt (first | (refine' draw_use0 ?k1 ?k2 ?k3 ?k4 ?k5 ?kK ?ko ?kl ?ki ?kn ?k6 ?k7 ?k8 ?k9 ?ka ?kb ?kd ?ku ?_; (case k1 => k_asm); (case k2 => k_asm); (case k3 => k_asm); (case k4 => assumption); (case k5 => k_asm); (case kK => first | exact rfl | assumption); (case ko => assumption); (case kl => assumption); (case ki => assumption); (case kn => assumption); (case k6 => omega); (case k7 => omega); (case k8 => assumption); (case k9 => assumption); (case ka => first | decide | omega); (case kb => first | decide | omega); (case kd => ktr_room); (case ku => ktr_units)) | (refine' draw_use1 ?k1 ?k2 ?k3 ?k4 ?k5 ?kK ?kx ?ko ?kl ?ki ?kn ?k6 ?k7 ?k8 ?k9 ?ka ?kb ?kd ?ku ?_; (case k1 => k_asm); (case k2 => k_asm); (case k3 => k_asm); (case k4 => assumption); (case k5 => k_asm); (case kK => first | exact rfl | assumption); (case kx => assumption); (case ko => assumption); (case kl => assumption); (case ki => assumption); (case kn => assumption); (case k6 => omega); (case k7 => omega); (case k8 => assumption); (case k9 => assumption); (case ka => first | decide | omega); (case kb => first | decide | omega); (case kd => ktr_room); (case ku => ktr_units))); intro v9 tv9 i9 t9 r9 u9 h9 tk9 a91 a92 a93 a94 a95 F9 N9; (try dsimp only); (try k_fold)))

theorem menu6 {g a : Int} (hg : 1 ≤ g) (h0 : 0 ≤ a) (h1 : a < g + g + 1) (j : Nat) : 0 ≤ ([a, g, g + 1, g - 1, g + g, g + g - a] : List Int).getD j 0 ∧ ([a, g, g + 1, g - 1, g + g, g + g - a] : List Int).getD j 0 ≤ g + g := by
  match j with
  | 0 => exact ⟨h0, by show a ≤ _; omega⟩
  | 1 => exact ⟨by show 0 ≤ g; omega, by show g ≤ _; omega⟩
  | 2 => exact ⟨by show 0 ≤ g + 1; omega, by show g + 1 ≤ _; omega⟩
  | 3 => exact ⟨by show 0 ≤ g - 1; omega, by show g - 1 ≤ _; omega⟩
  | 4 => exact ⟨by show 0 ≤ g + g; omega, by show g + g ≤ _; omega⟩
  | 5 => exact ⟨by show 0 ≤ g + g - a; omega, by show g + g - a ≤ _; omega⟩
  | n + 6 => exact ⟨by show (0 : Int) ≤ 0; omega, by show (0 : Int) ≤ _; omega⟩
def Uses (w : World) (loose : List Str) (mean : ExcName → Option Value) (mg mb : Str → Option Value) : Prop :=
  ∀ (dp un : Nat) (gd : Option (List Code)) (cn : Str) (cs : Scope) (a : Addr) (ccd : Value) (cl : List (Str × Addr)) (outer : List Env) (A₀ : Around) (base h₀ : Heap) (L : Addr) (m : Str → Option Value) (s : Shared)
    (wl l : Addr) (vs : List Value) (ns : List Int) (nn k : Nat) (i : Int) (t : Tok) (r : Int) (u : Tok) (own : List (Addr × Obj)) (g : Int) (tg : Tok) (Q E : Value → Shared → Prop),
    Below A₀ base outer h₀ → Fr h₀ L s.heap m → (hd.heap_39 w.params).In h₀ → News h₀ L s.heap ((wl, wellOf l i t r u k) :: (l, listOf vs.toArray nn) :: own) → OwnOff own [wl, l] → @LT.lt Nat _ l wl →
    Top hd.view_39 loose mean mg mb h₀ → cs.kind = .function → IntsAre vs ns → ns.length ≤ 40 → 0 ≤ i → i ≤ 990 → 0 ≤ r → r ≤ 100 → 1 ≤ g → g < 2 ^ 63 → dp + 3 < recursionLimit → un + 24 < cLine →
    (∀ v tv i' t' r' u' h' tk', 0 ≤ v → v ≤ g + g → 0 ≤ i' → i' = i + 2 → 0 ≤ r' → r' ≤ 100 → Fr h₀ L h' m → News h₀ L h' ((wl, wellOf l i' t' r' u' k) :: (l, listOf vs.toArray nn) :: own) → Q (.int v tv) { s with heap := h', toks := tk' }) →
    wpAny (model PySem.Challenge.rw_sa0302_01.row.prog w) (ktrTop dp un gd cn cs L a ccd cl outer) (call (.ref 116) [.ref wl, .int g tg]) Q E s
set_option maxRecDepth 100000 in
set_option maxHeartbeats 8000000 in
theorem uses (w : World) (loose : List Str) (mean : ExcName → Option Value) (mg mb : Str → Option Value) : Uses w loose mean mg mb := by
  unfold Uses
  intro dp un gd cn cs a ccd cl outer A₀ base h₀ L m s wl l vs ns nn k i t r u own g tg Q E B F X N hoff hlw T hk hi hlen h0 h1 hr0 hr1 hg0 hg1 hd hu hret
  refine wpAny_call ?_
  k_dflt cell_enter
  k_steps
  all_goals (
    refine' hret _ _ _ _ _ _ _ _ ?e1 ?e2 ?e3 ?e4 ?e5 ?e6 ?e7 ?e8
    (case e7 => k_asm)
    (case e8 => refine' cb_drop ?cN ?cS; (case cN => assumption); (case cS => kcj_all))
    (case e1 => exact (menu6 (by assumption) (by assumption) (by assumption) _).1)
    (case e2 => exact (menu6 (by assumption) (by assumption) (by assumption) _).2)
    (case e3 => omega)
    (case e4 => omega)
    (case e5 => assumption)
    (case e6 => assumption))
end Mine
namespace Mine
local macro_rules | `(tactic| k_room) => `(tactic| ktr_room)
local macro_rules | `(tactic| walk_at "binaryOp Mult int int") => `(tactic| (k_here; (with_reducible refine mul_int ?_ (mul_ok ?ka ?kb)); (case ka => omega); (case kb => omega)))
section
variable {goal spent fee after : Int}
theorem st1 (h : StepOk goal spent fee after) (e : spent = goal) : (after == fee) = true := by
  rw [h.1 e]
  exact beq_self_eq_true _
theorem st2 (h : StepOk goal spent fee after) (n : spent ≠ goal) (y : 8 * goal * ((if after - fee < 0 then -(after - fee) else after - fee) + 1) ≤ fee * if spent - goal < 0 then -(spent - goal) else spent - goal) : false = true := absurd y (h.2.1 n)
theorem st4 (h : StepOk goal spent fee after) (n : spent < goal) : decide (after ≤ fee) = true := decide_eq_true (h.2.2.1 n).1
theorem st3 (h : StepOk goal spent fee after) (n : spent < goal) : decide ((8 * goal * if after - fee < 0 then -(after - fee) else after - fee) ≤ fee * if spent - goal < 0 then -(spent - goal) else spent - goal) = true := decide_eq_true (h.2.2.1 n).2
theorem st_gt (n : spent ≠ goal) (k : ¬ spent < goal) : goal < spent := by omega
theorem st6 (h : StepOk goal spent fee after) (n : spent ≠ goal) (k : ¬ spent < goal) (y : ¬ (8 * goal * if after - fee < 0 then -(after - fee) else after - fee) ≤ fee * if spent - goal < 0 then -(spent - goal) else spent - goal) : ((if after - fee < 0 then -(after - fee) else after - fee) == 1) = true :=
  beq_iff_eq.mpr ((h.2.2.2 (st_gt n k)).2.resolve_left y)
theorem st7 (h : StepOk goal spent fee after) (n : spent ≠ goal) (k : ¬ spent < goal) : decide (fee < after) = true := decide_eq_true (h.2.2.2 (st_gt n k)).1
end
def Steps (w : World) (loose : List Str) (mean : ExcName → Option Value) (mg mb : Str → Option Value) : Prop :=
  ∀ (dp un : Nat) (gd : Option (List Code)) (cn : Str) (cs : Scope) (a : Addr) (ccd : Value) (cl : List (Str × Addr)) (outer : List Env) (A₀ : Around) (base h₀ : Heap) (L : Addr) (m : Str → Option Value) (s : Shared)
    (goal spent fee after : Int) (tg ts tf ta : Tok) (own : List (Addr × Obj)) (Q E : Value → Shared → Prop),
    Below A₀ base outer h₀ → Fr h₀ L s.heap m → (hd.heap_39 w.params).In h₀ → News h₀ L s.heap own →
    Top hd.view_39 loose mean mg mb h₀ → cs.kind = .function → 0 ≤ goal → goal < 2 ^ 64 → 0 ≤ spent → spent < 2 ^ 64 → 0 ≤ fee → fee < 2037035976334486086268445688409378161051468393665936250636140449354381299763336706183397376 → 0 ≤ after → after < 2037035976334486086268445688409378161051468393665936250636140449354381299763336706183397376 → StepOk goal spent fee after → dp + 2 < recursionLimit → un + 16 < cLine →
    (∀ h' tk', Fr h₀ L h' m → News h₀ L h' own → Q (.bool true) { s with heap := h', toks := tk' }) →
    wpAny (model PySem.Challenge.rw_sa0302_01.row.prog w) (ktrTop dp un gd cn cs L a ccd cl outer) (call (.ref 130) [.int goal tg, .int spent ts, .int fee tf, .int after ta]) Q E s
set_option maxRecDepth 100000 in
set_option maxHeartbeats 8000000 in
theorem steps (w : World) (loose : List Str) (mean : ExcName → Option Value) (mg mb : Str → Option Value) : Steps w loose mean mg mb := by
  unfold Steps
  intro dp un gd cn cs a ccd cl outer A₀ base h₀ L m s goal spent fee after tg ts tf ta own Q E B F X N T hk hg0 hg1 hs0 hs1 hf0 hf1 ha0 ha1 hok hd hu hret
  refine wpAny_call ?_
  k_dflt cell_enter
  k_steps
  all_goals (
    refine' cb_retB (Q := Q) (s := s) (fun _ => hret) ?e1 ?e2 ?e3
    (case e2 => k_asm)
    (case e3 => first | assumption | (refine' cb_drop ?cN ?cS; (case cN => assumption); (case cS => kcj_all)))
    (case e1 => first | exact st1 hok (by assumption) | exact st2 hok (by assumption) (by assumption) | exact st4 hok (by assumption) | exact st3 hok (by assumption) | exact decide_eq_true (by assumption) | exact st6 hok (by assumption) (by assumption) (by assumption) | exact st7 hok (by assumption) (by assumption)))
end Mine
namespace Mine
local macro_rules | `(tactic| k_room) => `(tactic| ktr_room)
local macro_rules | `(tactic| walk_at "binaryOp Mult int int") => `(tactic| (k_here; (with_reducible refine mul_int ?_ (mul_ok ?ka ?kb)); (case ka => omega); (case kb => omega)))
theorem bd1 {fee after : Int} (h : BoundOk fee after) (y : after < if 7 < fee then 7 else fee) : false = true := absurd y h.1
theorem bd2 {fee after : Int} (h : BoundOk fee after) (y : 8 * after < 7 * fee) : false = true := absurd y h.2.1
theorem bd4 {fee after : Int} (h : BoundOk fee after) (y : ¬ 8 * after ≤ 9 * fee) : (after == fee + 1) = true := beq_iff_eq.mpr (h.2.2.resolve_left y)
def Bounds (w : World) (loose : List Str) (mean : ExcName → Option Value) (mg mb : Str → Option Value) : Prop :=
  ∀ (dp un : Nat) (gd : Option (List Code)) (cn : Str) (cs : Scope) (a : Addr) (ccd : Value) (cl : List (Str × Addr)) (outer : List Env) (A₀ : Around) (base h₀ : Heap) (L : Addr) (m : Str → Option Value) (s : Shared)
    (fee after : Int) (tf ta : Tok) (own : List (Addr × Obj)) (Q E : Value → Shared → Prop),
    Below A₀ base outer h₀ → Fr h₀ L s.heap m → (hd.heap_39 w.params).In h₀ → News h₀ L s.heap own →
    Top hd.view_39 loose mean mg mb h₀ → cs.kind = .function → 0 ≤ fee → fee < 2037035976334486086268445688409378161051468393665936250636140449354381299763336706183397376 → 0 ≤ after → after < 2037035976334486086268445688409378161051468393665936250636140449354381299763336706183397376 → BoundOk fee after → dp + 2 < recursionLimit → un + 16 < cLine →
    (∀ h' tk', Fr h₀ L h' m → News h₀ L h' own → Q (.bool true) { s with heap := h', toks := tk' }) →
    wpAny (model PySem.Challenge.rw_sa0302_01.row.prog w) (ktrTop dp un gd cn cs L a ccd cl outer) (call (.ref 137) [.int fee tf, .int after ta]) Q E s
set_option maxRecDepth 100000 in
set_option maxHeartbeats 8000000 in
theorem bounds (w : World) (loose : List Str) (mean : ExcName → Option Value) (mg mb : Str → Option Value) : Bounds w loose mean mg mb := by
  unfold Bounds
  intro dp un gd cn cs a ccd cl outer A₀ base h₀ L m s fee after tf ta own Q E B F X N T hk hf0 hf1 ha0 ha1 hok hd hu hret
  refine wpAny_call ?_
  k_dflt cell_enter
  k_steps
  all_goals (
    refine' cb_retB (Q := Q) (s := s) (fun _ => hret) ?e1 ?e2 ?e3
    (case e2 => k_asm)
    (case e3 => first | assumption | (refine' cb_drop ?cN ?cS; (case cN => assumption); (case cS => kcj_all)))
    (case e1 => first | exact bd1 hok (by assumption) | exact bd2 hok (by assumption) | exact decide_eq_true (by assumption) | exact bd4 hok (by assumption)))
end Mine
namespace Mine
local macro_rules | `(tactic| k_room) => `(tactic| ktr_room)
local macro_rules | `(tactic| walk_at "call type:bytes") => `(tactic| (k_here; (with_reducible show wpAny _ _ (call (Value.type _) [Value.int _ _]) _ _ _); k_dflt (refine' call_bytes32 ?_; k_whole); intro _ _))
local macro_rules | `(tactic| walk_at "binaryOp FloorDiv int int") => `(tactic| (k_here; (with_reducible refine floordiv_int ?kbe ?_ (Or.inl (PyProof.noPylong_of_log2 ?kbp))); (case kbe => (with_reducible exact half_ne (by assumption))); (case kbp => exact half_log (by assumption) (by assumption))))
local macro_rules | `(tactic| walk_at "binaryOp Mult ref int") => `(tactic| (k_here; (with_reducible show wpAny _ _ (binaryOp Operator.Mult (Value.ref _) (Value.int _ _)) _ _ _); k_dflt (refine' KMa.mul ?F ?N ?l ?lo ?hi ?z ?e ?_; (case F => k_asm); (case N => k_asm); (case l => is_list); (case lo => decide); (case hi => decide); (case z => exact Nat.le_of_ble_eq_true rfl); (case e => exact rfl); k_whole); intro D' h' F' N' l1; (try k_lt l1); (try k_sweep)))
def Behinds (w : World) (loose : List Str) (mean : ExcName → Option Value) (mg mb : Str → Option Value) : Prop :=
  ∀ (dp un : Nat) (gd : Option (List Code)) (cn : Str) (cs : Scope) (a : Addr) (ccd : Value) (cl : List (Str × Addr)) (outer : List Env) (A₀ : Around) (base h₀ : Heap) (L : Addr) (m : Str → Option Value) (s : Shared)
    (limit spent fee : Int) (tl ts tf : Tok) (own : List (Addr × Obj)) (Q E : Value → Shared → Prop),
    Below A₀ base outer h₀ → Fr h₀ L s.heap m → (hd.heap_39 w.params).In h₀ → News h₀ L s.heap own →
    Top hd.view_39 loose mean mg mb h₀ → cs.kind = .function → 2 ≤ limit → limit < 2 ^ 64 → 0 ≤ spent → spent < 2 ^ 64 → 0 ≤ fee → fee < 2037035976334486086268445688409378161051468393665936250636140449354381299763336706183397376 → dp + 5 < recursionLimit → un + 40 < cLine →
    (∀ t h' tk', Fr h₀ L h' m → News h₀ L h' own → Q (.int (aft (Int.fdiv limit 2) spent fee) t) { s with heap := h', toks := tk' }) →
    wpAny (model PySem.Challenge.rw_sa0302_01.row.prog w) (ktrTop dp un gd cn cs L a ccd cl outer) (call (.ref 123) [.int limit tl, .int spent ts, .int fee tf]) Q E s

set_option maxRecDepth 100000 in
set_option maxHeartbeats 8000000 in
theorem behinds (w : World) (loose : List Str) (mean : ExcName → Option Value) (mg mb : Str → Option Value) : Behinds w loose mean mg mb := by
  unfold Behinds
  intro dp un gd cn cs a ccd cl outer A₀ base h₀ L m s limit spent fee tl ts tf own Q E B F X N T hk hl0 hl1 hs0 hs1 hf0 hf1 hd hu hret
  refine wpAny_call ?_
  k_dflt cell_enter
  k_steps
  all_goals (
    refine' cb_retI (Q := Q) (s := s) hret ?e1 ?e2 ?e3
    (case e2 => k_asm)
    (case e3 => refine' cb_drop ?cN ?cS; (case cN => assumption); (case cS => kcj_all))
    (case e1 => first | exact aft_lo (by assumption) | exact aft_hi (by assumption)))
end Mine
namespace Mine
section
variable {w : World} {loose : List Str} {mean : ExcName → Option Value} {mg mb : Str → Option Value} {dp un : Nat} {gd : Option (List Code)} {cn : Str} {cs : Scope} {a : Addr} {ccd : Value} {cl : List (Str × Addr)} {outer : List Env} {A₀ : Around} {base h₀ : Heap} {L : Addr} {m : Str → Option Value} {s : Shared}
    {own : List (Addr × Obj)} {Q E : Value → Shared → Prop}
theorem half_lt {l : Int} (h : 0 ≤ l) (h1 : l < 2 ^ 64) : Int.fdiv l 2 < 2 ^ 63 := by
  rw [Int.fdiv_eq_ediv_of_nonneg _ (by decide)]
  omega
theorem half_two {l : Int} : Int.fdiv l 2 + Int.fdiv l 2 ≤ l ∧ l ≤ 2 * Int.fdiv l 2 + 1 := by
  rw [Int.fdiv_eq_ediv_of_nonneg _ (by decide)]
  omega
theorem beh_use {limit spent fee : Int} {tl ts tf : Tok} (B : Below A₀ base outer h₀) (F : Fr h₀ L s.heap m) (X : (hd.heap_39 w.params).In h₀) (N : News h₀ L s.heap own) (T : Top hd.view_39 loose mean mg mb h₀) (hk : cs.kind = .function)
    (l0 : 2 ≤ limit) (l1 : limit < 2 ^ 64) (s0 : 0 ≤ spent) (s1 : spent ≤ limit) (f0 : 0 ≤ fee) (f1 : fee < 1942668892225729070919461906823518906642406839052139521251812409738904285205208498176) (hd : dp + 5 < recursionLimit) (hu : un + 40 < cLine)
    (ret : ∀ v t h' tk', v = aft (Int.fdiv limit 2) spent fee → 0 ≤ v → v ≤ 2 * fee + 1 → 0 ≤ spent → spent ≤ limit → Fr h₀ L h' m → News h₀ L h' own → Q (.int v t) { s with heap := h', toks := tk' }) :
    wpAny (model PySem.Challenge.rw_sa0302_01.row.prog w) (ktrTop dp un gd cn cs L a ccd cl outer) (call (.ref 123) [.int limit tl, .int spent ts, .int fee tf]) Q E s :=
  behinds w loose mean mg mb _ _ _ _ _ _ _ _ _ _ _ _ _ _ _ _ _ _ _ _ _ _ _ _ B F X N T hk l0 l1 s0 (by omega) f0 (by omega) hd hu
    fun t h' tk' F' N' => ret _ t h' tk' rfl (aft_nn (half_ge l0) s0 f0) (aft_le (half_ge l0) f0 (by have := (half_two (l := limit)).2; omega)) s0 s1 F' N'
theorem steps_use {goal spent fee after : Int} {tg ts tf ta : Tok} (B : Below A₀ base outer h₀) (F : Fr h₀ L s.heap m) (X : (hd.heap_39 w.params).In h₀) (N : News h₀ L s.heap own) (T : Top hd.view_39 loose mean mg mb h₀) (hk : cs.kind = .function)
    (g0 : 1 ≤ goal) (g1 : goal < 2 ^ 63) (s0 : 0 ≤ spent) (s1 : spent < 2 ^ 64) (f0 : 0 ≤ fee) (f1 : fee < 1942668892225729070919461906823518906642406839052139521251812409738904285205208498176) (a0 : 0 ≤ after) (a1 : after < 1942668892225729070919461906823518906642406839052139521251812409738904285205208498176) (e : after = aft goal spent fee) (hd : dp + 2 < recursionLimit) (hu : un + 16 < cLine)
    (ret : ∀ h' tk', Fr h₀ L h' m → News h₀ L h' own → Q (.bool true) { s with heap := h', toks := tk' }) :
    wpAny (model PySem.Challenge.rw_sa0302_01.row.prog w) (ktrTop dp un gd cn cs L a ccd cl outer) (call (.ref 130) [.int goal tg, .int spent ts, .int fee tf, .int after ta]) Q E s :=
  steps w loose mean mg mb _ _ _ _ _ _ _ _ _ _ _ _ _ _ _ _ _ _ _ _ _ _ _ _ _ _ B F X N T hk (by omega) (by omega) s0 s1 f0 (by omega) a0 (by omega) (e ▸ step_ok g0 f0) hd hu ret
theorem bounds_use {goal spent fee after : Int} {tf ta : Tok} (B : Below A₀ base outer h₀) (F : Fr h₀ L s.heap m) (X : (hd.heap_39 w.params).In h₀) (N : News h₀ L s.heap own) (T : Top hd.view_39 loose mean mg mb h₀) (hk : cs.kind = .function)
    (e : after = aft goal spent fee) (g0 : 1 ≤ goal) (s0 : 0 ≤ spent) (s1 : spent ≤ goal + goal) (f0 : 0 ≤ fee) (f1 : fee < 1942668892225729070919461906823518906642406839052139521251812409738904285205208498176) (a0 : 0 ≤ after) (a1 : after < 1942668892225729070919461906823518906642406839052139521251812409738904285205208498176) (hd : dp + 2 < recursionLimit) (hu : un + 16 < cLine)
    (ret : ∀ h' tk', Fr h₀ L h' m → News h₀ L h' own → Q (.bool true) { s with heap := h', toks := tk' }) :
    wpAny (model PySem.Challenge.rw_sa0302_01.row.prog w) (ktrTop dp un gd cn cs L a ccd cl outer) (call (.ref 137) [.int fee tf, .int after ta]) Q E s :=
  bounds w loose mean mg mb _ _ _ _ _ _ _ _ _ _ _ _ _ _ _ _ _ _ _ _ _ _ B F X N T hk f0 (by omega) a0 (by omega) (e ▸ bound_ok g0 f0 s0 s1) hd hu ret
end
theorem menu2 {g a : Int} (h0 : 0 ≤ a) (h1 : a < g + 1) (j : Nat) (hg : 0 ≤ g) : 0 ≤ ([a, g - a] : List Int).getD j 0 ∧ ([a, g - a] : List Int).getD j 0 ≤ g := by
  match j with
  | 0 => exact ⟨h0, by show a ≤ _; omega⟩
  | 1 => exact ⟨by show 0 ≤ g - a; omega, by show g - a ≤ _; omega⟩
  | n + 2 => exact ⟨by show (0 : Int) ≤ 0; omega, by show (0 : Int) ≤ _; omega⟩
theorem apart_no {T other spent fee beside after : Int} (e1 : beside = aft T other fee) (e2 : after = aft T spent fee) (hT : 1 ≤ T) (hf : 0 ≤ fee) (y : (other - spent) * (beside - after) < 0) : false = true := by
  subst e1 e2
  exact absurd y (not_apart hT hf)
theorem back_yes {T spent fee back after : Int} (e1 : back = aft T (T + T - spent) after) (e2 : after = aft T spent fee) (hT : 1 ≤ T) (hf : 0 ≤ fee) (s0 : 0 ≤ spent) (s1 : spent ≤ T + T) (y : 8 * T ≤ (fee * if spent - T < 0 then -(spent - T) else spent - T)) : decide (back ≤ fee) = true := by
  subst e1 e2
  exact decide_eq_true ((back_le hT hf s0 s1).2 y)
theorem back_no {T spent fee back after : Int} (e1 : back = aft T (T + T - spent) after) (e2 : after = aft T spent fee) (hT : 1 ≤ T) (hf : 0 ≤ fee) (s0 : 0 ≤ spent) (s1 : spent ≤ T + T) : decide (back ≤ fee + 1) = true := by
  subst e1 e2
  exact decide_eq_true (back_le hT hf s0 s1).1
end Mine
namespace Mine
local macro_rules | `(tactic| k_room) => `(tactic| ktr_room)
local macro_rules | `(tactic| walk_at "call ref") => `(tactic| (k_here; (with_reducible show wpAny _ _ (call (Value.ref 102) _) _ _ _); k_dflt (first | (refine' draw_use0 ?k1 ?k2 ?k3 ?k4 ?k5 ?kK ?ko ?kl ?ki ?kn ?k6 ?k7 ?k8 ?k9 ?ka ?kb ?kd ?ku ?_; (case k1 => k_asm); (case k2 => k_asm); (case k3 => k_asm); (case k4 => assumption); (case k5 => k_asm); (case kK => first | exact rfl | assumption); (case ko => assumption); (case kl => assumption); (case ki => assumption); (case kn => assumption); (case k6 => omega); (case k7 => omega); (case k8 => assumption); (case k9 => assumption); (case ka => first | decide | omega); (case kb => first | decide | omega); (case kd => ktr_room); (case ku => ktr_units)) | (refine' draw_use1 ?k1 ?k2 ?k3 ?k4 ?k5 ?kK ?kx ?ko ?kl ?ki ?kn ?k6 ?k7 ?k8 ?k9 ?ka ?kb ?kd ?ku ?_; (case k1 => k_asm); (case k2 => k_asm); (case k3 => k_asm); (case k4 => assumption); (case k5 => k_asm); (case kK => first | exact rfl | assumption); (case kx => assumption); (case ko => assumption); (case kl => assumption); (case ki => assumption); (case kn => assumption); (case k6 => omega); (case k7 => omega); (case k8 => assumption); (case k9 => assumption); (case ka => first | decide | omega); (case kb => first | decide | omega); (case kd => ktr_room); (case ku => ktr_units))); intro v9 tv9 i9 t9 r9 u9 h9 tk9 a91 a92 a93 a94 a95 F9 N9; (try dsimp only); (try k_fold)))

local macro_rules | `(tactic| walk_at "binaryOp Mult int int") => `(tactic| (k_here; (with_reducible refine mul_int ?_ (mul_ok ?ka ?kb)); (case ka => omega); (case kb => omega)))
local macro_rules | `(tactic| walk_at "call ref") => `(tactic| (k_here; (with_reducible show wpAny _ _ (call (Value.ref 123) _) _ _ _); k_dflt (refine' beh_use ?k1 ?k2 ?k3 ?k4 ?k5 ?kK ?l0 ?l1 ?s0 ?s1 ?f0 ?f1 ?kd ?ku ?_; (case k1 => k_asm); (case k2 => k_asm); (case k3 => k_asm); (case k4 => assumption); (case k5 => k_asm); (case kK => first | exact rfl | assumption); (case l0 => assumption); (case l1 => assumption); (case s0 => first | omega | exact (menu2 (by assumption) (by assumption) _ (by omega)).1); (case s1 => first | omega | exact (menu2 (by assumption) (by assumption) _ (by omega)).2); (case f0 => assumption); (case f1 => omega); (case kd => ktr_room); (case ku => ktr_units)); intro v8 tv8 h8 tk8 e8 a81 a82 a83 a84 F8 N8; (try dsimp only); (try k_fold)))
local macro_rules | `(tactic| walk_at "call ref") => `(tactic| (k_here; (with_reducible show wpAny _ _ (call (Value.ref 130) _) _ _ _); k_dflt (refine' steps_use ?k1 ?k2 ?k3 ?k4 ?k5 ?kK ?g0 ?g1 ?s0 ?s1 ?f0 ?f1 ?a0 ?a1 ?e ?kd ?ku ?_; (case k1 => k_asm); (case k2 => k_asm); (case k3 => k_asm); (case k4 => assumption); (case k5 => k_asm); (case kK => first | exact rfl | assumption); (case g0 => assumption); (case g1 => assumption); (case s0 => assumption); (case s1 => omega); (case f0 => assumption); (case f1 => omega); (case a0 => assumption); (case a1 => omega); (case e => assumption); (case kd => ktr_room); (case ku => ktr_units)); intro h8 tk8 F8 N8; (try dsimp only); (try k_fold)))
local macro_rules | `(tactic| walk_at "call ref") => `(tactic| (k_here; (with_reducible show wpAny _ _ (call (Value.ref 137) _) _ _ _); k_dflt (refine' bounds_use ?k1 ?k2 ?k3 ?k4 ?k5 ?kK ?e ?g0 ?s0 ?s1 ?f0 ?f1 ?a0 ?a1 ?kd ?ku ?_; (case k1 => k_asm); (case k2 => k_asm); (case k3 => k_asm); (case k4 => assumption); (case k5 => k_asm); (case kK => first | exact rfl | assumption); (case e => assumption); (case g0 => assumption); (case s0 => assumption); (case s1 => assumption); (case f0 => assumption); (case f1 => omega); (case a0 => assumption); (case a1 => omega); (case kd => ktr_room); (case ku => ktr_units)); intro h8 tk8 F8 N8; (try dsimp only); (try k_fold)))
theorem bool_end {Q : Value → Shared → Prop} {s' : Shared} {b : Bool} (h : Q (.bool true) s') (e : b = true) : Q (.bool b) s' := e ▸ h
def Rights (w : World) (loose : List Str) (mean : ExcName → Option Value) (mg mb : Str → Option Value) : Prop :=
  ∀ (dp un : Nat) (gd : Option (List Code)) (cn : Str) (cs : Scope) (a : Addr) (ccd : Value) (cl : List (Str × Addr)) (outer : List Env) (A₀ : Around) (base h₀ : Heap) (L : Addr) (m : Str → Option Value) (s : Shared)
    (wl l : Addr) (vs : List Value) (ns : List Int) (nn k : Nat) (i : Int) (t : Tok) (r : Int) (u : Tok) (own : List (Addr × Obj)) (limit spent fee after : Int) (t1 t2 t3 t4 : Tok) (Q E : Value → Shared → Prop),
    Below A₀ base outer h₀ → Fr h₀ L s.heap m → (hd.heap_39 w.params).In h₀ → News h₀ L s.heap ((wl, wellOf l i t r u k) :: (l, listOf vs.toArray nn) :: own) → OwnOff own [wl, l] → @LT.lt Nat _ l wl →
    Top hd.view_39 loose mean mg mb h₀ → cs.kind = .function → IntsAre vs ns → ns.length ≤ 40 → 0 ≤ i → i ≤ 990 → 0 ≤ r → r ≤ 100 → 2 ≤ limit → limit < 2 ^ 64 → 0 ≤ spent → spent ≤ Int.fdiv limit 2 + Int.fdiv limit 2 → 0 ≤ fee → fee < 1897137590064188545819787018382342682267975428761855001222473056385648716020711424 → 0 ≤ after → after ≤ 2 * fee + 1 → after = aft (Int.fdiv limit 2) spent fee → 1 ≤ Int.fdiv limit 2 → Int.fdiv limit 2 < 2 ^ 63 → Int.fdiv limit 2 + Int.fdiv limit 2 ≤ limit → dp + 8 < recursionLimit → un + 64 < cLine →
    (∀ i' t' r' u' h' tk', 0 ≤ i' → i' = i + 2 → 0 ≤ r' → r' ≤ 100 → Fr h₀ L h' m → News h₀ L h' ((wl, wellOf l i' t' r' u' k) :: (l, listOf vs.toArray nn) :: own) → Q (.bool true) { s with heap := h', toks := tk' }) →
    wpAny (model PySem.Challenge.rw_sa0302_01.row.prog w) (ktrTop dp un gd cn cs L a ccd cl outer) (call (.ref 144) [.ref wl, .int limit t1, .int spent t2, .int fee t3, .int after t4]) Q E s
set_option maxRecDepth 100000 in
set_option maxHeartbeats 8000000 in
theorem rights (w : World) (loose : List Str) (mean : ExcName → Option Value) (mg mb : Str → Option Value) : Rights w loose mean mg mb := by
  unfold Rights
  intro dp un gd cn cs a ccd cl outer A₀ base h₀ L m s wl l vs ns nn k i t r u own limit spent fee after t1 t2 t3 t4 Q E B F X N hoff hlw T hk hi hlen h0 h1 hr0 hr1 hl0 hl1 hs0 hs1 hf0 hf1 ha0 ha1 hea hg0 hg1 hgl hd hu hret
  refine wpAny_call ?_
  k_dflt cell_enter
  k_steps
  all_goals (
    refine' bool_end (hret _ _ _ _ _ _ ?e3 ?e4 ?e5 ?e6 ?e7 ?e8) ?e1
    (case e7 => k_asm)
    (case e8 => refine' cb_drop ?cN ?cS; (case cN => assumption); (case cS => kcj_all))
    (case e3 => omega)
    (case e4 => omega)
    (case e5 => assumption)
    (case e6 => assumption)
    (case e1 => first | exact apart_no (by assumption) hea hg0 hf0 (by assumption) | exact back_yes (by assumption) hea hg0 hf0 hs0 hs1 (by assumption) | exact back_no (by assumption) hea hg0 hf0 hs0 hs1))
end Mine
namespace Mine
open PySem PySem.W PyProof.Rows PySem.Calls PySem.Spec PySem.Builtin PySem.Builtin.ObjectAttr
set_option maxRecDepth 100000
theorem refuse_exc (self : Value) (c c' : Addr) : refuseLoop self "__setattr__" [.ref c, .ref c', .type "Exception", .type "BaseException", .type "object"] = pure () := by
  rw [refuseLoop_ref, refuseLoop_ref]
  kernel_rfl
section
variable {prog : Program} {w : World} {A : Around} {R : Result → Shared → Prop} {E : Value → Shared → Prop} {s : Shared} {K : Frag} {e C c' : Addr} {cd : ClassData} {fs : Array Value} {name : Str} {tk : Tok} {v : Value}
theorem exc_osa (X : K.In s.heap) (he : s.heap.get? e = some ⟨.ref C, none, .fields fs, #[]⟩) (hc : clsIn K C = some cd) (hdd : cd.hasDict = true) (hmro : cd.mro = [.ref C, .ref c', .type "Exception", .type "BaseException", .type "object"])
    (ht : takerIn K C name = some none) 
    (hQ : R (.ok (.ret .none)) { s with heap := ((s.heap.push { cls := .type "dict", data := .dict #[] }).update e fun o => { o with dict := some s.heap.objs.size }).update s.heap.objs.size (Obj.putName name (PyData.keyHash w.params name) (.str name s.toks) v), toks := s.toks + 1 }) :
    codeAny (model prog w) A (.call (.builtin "object.__setattr__") ⟨[.ref e, .str name tk, v], []⟩) R s := by
  have SF := PySem.F.store_object
  have I : InstAt s.heap e ⟨.ref C, none, .fields fs, #[]⟩ C none := ⟨he, rfl, rfl, trivial⟩
  have sub : Looks (model prog w) s.heap (isInstance (.ref e) (.type "object")) true := I.type.andThen (looks_mroIn X (by unfold mroIn; rw [hc, Option.bind_some, hmro]; rfl))
  refine codeAny_call_builtin SF.slot.plain SF.entry (@check_slot (model prog w) _ _ s "object.__setattr__" "object" "__setattr__" (.ref e) [.str name tk, v] [] _ SF.kind SF.split sub (SF.args (.ref e) (.str name tk) v) ?_)
  obtain ⟨attr, ha, hr⟩ := Option.bind_eq_some_iff.mp ht
  have hm : Looks (model prog w) s.heap (mroOf (.ref C)) cd.mro := (looks_clsIn X hc).andThen .now
  have L3 : Looks (model prog w) s.heap (storeTaker? attr) none := by
    cases attr with
    | none => exact .now
    | some a =>
      obtain ⟨b, hb, hb2⟩ := Option.map_eq_some_iff.mp hr
      refine (looks_takesIn X hb).andThen ?_
      cases b with
      | false => exact .now
      | true => cases hb2
  rw [osa_eq, refuse_eq]
  refine wpAny_bind (wpAny_bind (I.type.here (wpAny_bind (hm.here ?_))))
  rw [hmro, refuse_exc]
  refine wpAny_pure (wpAny_bind (I.type.here (wpAny_bind ((looks_findIn X ha).here (wpAny_bind (L3.here ?_))))))
  show wpAny _ _ (storeInOwnDict (.ref e) (.ref C) (.str name tk) name v attr.isSome) _ _ _
  unfold storeInOwnDict ownDictForStores instanceDict
  refine wpAny_bind (wpAny_pure ?_)
  refine bm_if_false rfl ?_
  refine wpAny_bind ?_
  refine wpAny_bind (wpAny_loadPart he ?_)
  refine wpAny_bind ((looks_clsIn X hc).here ?_)
  rw [hdd]
  refine bm_if_false rfl ?_
  refine bm_if_false rfl ?_
  refine wpAny_bind (wpAny_alloc ?_)
  have hE := Heap.get?_push_of_some { cls := .type "dict", data := .dict #[] } he
  have hne : e ≠ s.heap.objs.size := Nat.ne_of_lt (Heap.lt_size he)
  refine wpAny_bind (wpAny_update hE ?_)
  refine wpAny_pure ?_
  have hD : ((s.heap.push { cls := .type "dict", data := .dict #[] }).update e fun o => { o with dict := some s.heap.objs.size }).get? s.heap.objs.size = some { cls := .type "dict", data := .dict #[] } :=
    (Heap.get?_update_other _ _ hne).trans (Heap.get?_push_size _ rfl)
  unfold storeInDict
  refine wpAny_bind (wpAny_pure (wpAny_bind ?_))
  unfold nsSet
  refine wpAny_bind (wpAny_bind (wpAny_askSetting (wpAny_pure (wpAny_bind (wpAny_mkText (wpAny_bind (wpAny_loadPart hD ?_)))))))
  dsimp only
  refine wpAny_updatePart hD ?_
  have hD' : (((s.heap.push { cls := .type "dict", data := .dict #[] }).update e fun o => { o with dict := some s.heap.objs.size }).update s.heap.objs.size (Obj.putName name (PyData.keyHash w.params name) (.str name s.toks) v)).get? s.heap.objs.size = some (Obj.putName name (PyData.keyHash w.params name) (.str name s.toks) v { cls := .type "dict", data := .dict #[] }) :=
    Heap.get?_update_self _ hD rfl
  refine wpAny_bind (wpAny_lookBehind hD' ?_ ?_)
  · show Data.pastItsLine (.dict #[⟨PyData.keyHash w.params name, .str name s.toks, v⟩] 1) = none
    exact pastItsLine_dict (by rw [sizeLine_eq]; show (1 : Nat) ≤ 16777216 + 1; decide)
  · exact wpAny_pure hQ
theorem exc_set (X : K.In s.heap) (he : s.heap.get? e = some ⟨.ref C, none, .fields fs, #[]⟩) (hs : findIn K (.ref C) "__setattr__" = some (some (.builtin "object.__setattr__"))) (hc : clsIn K C = some cd) (hdd : cd.hasDict = true)
    (hmro : cd.mro = [.ref C, .ref c', .type "Exception", .type "BaseException", .type "object"]) (ht : takerIn K C name = some none) {Q : Unit → Shared → Prop}
    (hQ : ∀ h' tk', (∀ b o, b ≠ e → s.heap.get? b = some o → h'.get? b = some o) → h'.get? e = some ⟨.ref C, some s.heap.objs.size, .fields fs, #[]⟩ → h'.get? s.heap.objs.size = some ⟨.type "dict", none, .dict #[⟨PyData.keyHash w.params name, .str name tk', v⟩] 1, #[]⟩ → Q () { s with heap := h', toks := s.toks + 2 }) :
    wpAny (model prog w) A (setAttr (.ref e) name v) Q E s := by
  have hne : e ≠ s.heap.objs.size := Nat.ne_of_lt (Heap.lt_size he)
  have hE := Heap.get?_push_of_some { cls := .type "dict", data := .dict #[] } he
  refine set_plain (od := none) X ⟨he, rfl, rfl, trivial⟩ hs (exc_osa (s := { s with toks := s.toks + 1 }) X he hc hdd hmro ht ?_)
  refine hQ _ (s.toks + 1) (fun b o hb ho => ?_) ?_ ?_
  · have hbs : s.heap.objs.size ≠ b := Nat.ne_of_gt (Heap.lt_size ho)
    exact (Heap.get?_update_other _ _ hbs).trans ((Heap.get?_update_other _ _ (Ne.symm hb)).trans (Heap.get?_push_of_some _ ho))
  · exact (Heap.get?_update_other _ _ (Ne.symm hne)).trans (Heap.get?_update_self _ hE rfl)
  · exact Heap.get?_update_self _ ((Heap.get?_update_other _ _ hne).trans (Heap.get?_push_size _ rfl)) rfl
end
end Mine
namespace Mine
open PySem PySem.W PyProof.Rows PySem.Calls PySem.Spec PySem.Builtin PySem.Builtin.ObjectAttr
set_option maxRecDepth 100000
section
variable {prog : Program} {w : World} {A : Around} {R : Result → Shared → Prop} {E : Value → Shared → Prop} {s : Shared} {K : Frag} {e C : Addr} {oe : Obj} {od : Option Obj} {name : Str} {tk : Tok} {v : Value}
theorem exc_ga {hp : Heap} {g : Array GenState} {d : Drawn} {t : Nat} {os : OsState} (X : K.In hp) (I : InstAt hp e oe C od) (hm : mroIn K C (.type "BaseException") = some true)
    (hf : findObj K C od name = some (.value v)) (h : R (.ok (.ret v)) ⟨hp, g, d, t, os⟩) :
    codeAny (model prog w) A (.call (.builtin "BaseException.__getattribute__") ⟨[.ref e, .str name tk], []⟩) R ⟨hp, g, d, t, os⟩ := by
  have hk : builtinKind "BaseException.__getattribute__" = some .slot := by decide +kernel
  have hsplit : splitId "BaseException.__getattribute__" = some ("BaseException", "__getattribute__") := by decide +kernel
  have L0 := I.type (M := model prog w)
  have L1 := looks_find (M := model prog w) X I hf
  have L2 := looks_mroIn (M := model prog w) X hm
  have sub : Looks (model prog w) hp (isInstance (.ref e) (.type "BaseException")) true := L0.andThen L2
  refine codeAny_call_builtin PySem.F.attr_Exception.ga.plain PySem.F.entry_bexc_ga (@check_slot (model prog w) _ _ ⟨hp, g, d, t, os⟩ "BaseException.__getattribute__" "BaseException" "__getattribute__" (.ref e) [.str name tk] [] _ hk hsplit sub (PySem.F.args_bexc_ga (.ref e) (.str name tk)) ?_)
  unfold «object.__getattribute__»
  refine wpAny_bind (wpAny_pure (wpAny_bind (wpAny_pure (wpAny_bind (L0.at (wpAny_bind (L1.at ?_)))))))
  exact wpAny_pure h
theorem exc_get {expr : Bool} {Q : Value → Shared → Prop} (X : K.In s.heap) (I : InstAt s.heap e oe C od) (hga : findIn K (.ref C) "__getattribute__" = some (some (.builtin "BaseException.__getattribute__"))) (hgx : findIn K (.ref C) "__getattr__" = some none)
    (hm : mroIn K C (.type "BaseException") = some true) (hf : findObj K C od name = some (.value v)) (hh : handedIn v = true) (h : Q v { s with toks := s.toks + 1 }) : wpAny (model prog w) A (getAttr (.ref e) name expr) Q E s := by
  obtain ⟨hp, g, d, t, os⟩ := s
  have L0 := I.type (M := model prog w)
  have L3 := looks_findIn (M := model prog w) X hga
  have L4 := looks_findIn (M := model prog w) X hgx
  have f3 := PySem.F.attr_Exception.ga.bind (.ref e)
  have hx0 : (expr && onTheHeap (Value.builtin "BaseException.__getattribute__")) = false := by cases expr <;> rfl
  have hx2 : (Value.builtin "BaseException.__getattribute__" == Value.builtin "object.__getattribute__") = false := by decide +kernel
  have hx1 : (onTheHeap (Value.ref C) && Value.builtin "BaseException.__getattribute__" == Value.builtin "object.__getattribute__") = false := by rw [hx2]; rfl
  unfold getAttr
  refine wpAny_bind (wpAny_mkText ?_)
  repeat (any_goals (first | assumption | with_reducible refine L0.at ?_ | with_reducible refine L3.at ?_ | with_reducible refine L4.at ?_ | wp_step))
  refine exc_ga X I hm hf ?_
  show wpAny _ _ (handedOut v) _ _ _
  rw [handedOut_of hh]
  exact wpAny_pure h
end
end Mine
namespace Mine
open PySem PySem.W PyProof.Rows PySem.Calls PySem.Spec
set_option maxRecDepth 100000
section
variable {prog : Program} {w : World} {A : Around} {E : Value → Shared → Prop} {h : Heap} {g : Array GenState} {d : Drawn} {t : Nat} {os : OsState}
variable {nm q : Str} {C N : Addr} {bs bm bmN : List Value} {hdct : Bool} {sn : List Str} {sub : List Value} {ab : Bool} {col : Option Bool} {dd : Option Addr} {k0 k1 k2 k3 k5 : Option Value} {B newId inN : String}
theorem own_check_new (F : ExcBaseFacts B newId inN bmN) (hcB : (Value.ref C :: bm).contains (.type B) = true) {M : Model} {rest : List Value} {Q : Unit → Shared → Prop} (hC : h.get? C = some (excClassObj nm q C N bs bm hdct sn sub ab col dd k0 k1 k2 k3 k5 newId))
    (hq : Q () ⟨h, g, d, t, os⟩) : wpAny M A (checkBuiltinCall newId ⟨.ref C :: rest, []⟩) Q E ⟨h, g, d, t, os⟩ := by
  have hstar := F.noStar
  simp only [checkBuiltinCall, F.newKind, F.newSplit, F.newRow]
  repeat (first | refine wpAny_loadPart_at hC ?_ | (refine wpAny_isSubtype_exc hC ?_; rw [hcB]) | refine wpAny_staticBase_exc hC ?_ | refine wpAny_madeBy_exc hC ?_ | simp only [bne_self_eq_false, Bool.false_eq_true, if_false] | wp_step)
  exact hq
theorem own_new (F : ExcBaseFacts B newId inN bmN) (hcB : (Value.ref C :: bm).contains (.type B) = true) (hcA : (Value.ref C :: bm).contains (.type "AttributeError") = false) (hcN : (Value.ref C :: bm).contains (.type "NameError") = false) {R : Result → Shared → Prop} {rest : List Value}
    (hC : h.get? C = some (excClassObj nm q C N bs bm hdct sn sub ab col dd k0 k1 k2 k3 k5 newId))
    (hq : R (.ok (.ret (.ref (h.objs.size + 1)))) ⟨(h.push { cls := .type "tuple", data := .seq rest.toArray }).push { cls := .ref C, data := .fields #[.ref h.objs.size, .none, .none, .none, .bool false, .none] }, g, d, t, os⟩) (hrest : rest.length ≤ sizeLine) :
    codeAny (model prog w) A (.builtin newId ⟨.ref C :: rest, []⟩) R ⟨h, g, d, t, os⟩ := by
  have hends := F.ends
  refine PySem.codeAny_builtinAt F.entry ?_
  unfold Builtin.«BaseException.__new__»
  refine PySem.wpAt_bind ?_
  show PySem.wpAt _ _ _ (stack >>= _) _ _ _
  refine PySem.wpAt_bind (PySem.wpAt_stack fun p below => PySem.wpAt_of_wpAny ?_)
  wp_walk
  refine PySem.wpAt_of_wpAny ?_
  rw [F.owner]
  repeat (first | with_reducible refine wpAny_madeHere_exc F.canon hC ?_ | with_reducible refine wpAny_loadPart_at hC ?_ | (with_reducible refine wpAny_isSubtype_exc hC ?_; first | rw [hcB] | rw [hcA] | rw [hcN]) | wp_step)
  show R _ _
  rw [Heap.size_push]
  exact hq
theorem own_type_call (F : ExcBaseFacts B newId inN bmN) (hcB : (Value.ref C :: bm).contains (.type B) = true) (hcA : (Value.ref C :: bm).contains (.type "AttributeError") = false) (hcN : (Value.ref C :: bm).contains (.type "NameError") = false) {K : Frag} {rest : List Value} {fI : Addr} {oI : Obj} {Q : Fin → Shared → Prop}
    (X : K.In h) (hC : h.get? C = some (excClassObj nm q C N bs bm hdct sn sub ab col dd k0 k1 k2 k3 k5 newId)) (hi : findIn K (.ref C) "__init__" = some (some (.ref fI))) (hfI : h.get? fI = some oI) (hfc : oI.cls = .type "function")
    (hq : wpAny (model prog w) A (call (.ref fI) (.ref (h.objs.size + 1) :: rest)) (fun r s' => r = .none ∧ Q (.done (.ret (.ref (h.objs.size + 1)))) s') E
      ⟨(h.push { cls := .type "tuple", data := .seq rest.toArray }).push { cls := .ref C, data := .fields #[.ref h.objs.size, .none, .none, .none, .bool false, .none] }, g, d, t, os⟩) (hrest : rest.length ≤ sizeLine) :
    wpAny (model prog w) A (Builtin.«type.__call__» ⟨.ref C :: rest, []⟩) Q E ⟨h, g, d, t, os⟩ := by
  repeat (first | with_reducible refine wpAny_loadPart_at hC ?_ | with_reducible refine wpAny_madeBy_exc hC ?_ | wp_step)
  refine codeAny_call_builtin_code (Code.quiet_builtin _ F.quiet) (own_check_new F hcB hC ?_)
  refine own_new F hcB hcA hcN hC ?_ hrest
  show wpAny _ _ _ _ _ _
  have hk : ∀ b o, h.get? b = some o → ((h.push { cls := .type "tuple", data := .seq rest.toArray }).push { cls := .ref C, data := .fields #[.ref h.objs.size, .none, .none, .none, .bool false, .none] }).get? b = some o :=
    fun b o hb => Heap.get?_push_of_some _ (Heap.get?_push_of_some _ hb)
  have hC₁ := hk _ _ hC
  have hfI₁ := hk _ _ hfI
  have X₁ := X.keeps hk
  have hget : ((h.push { cls := .type "tuple", data := .seq rest.toArray }).push
      { cls := .ref C, data := .fields #[.ref h.objs.size, .none, .none, .none, .bool false, .none] }).get? (h.objs.size + 1) = some
      { cls := .ref C, data := .fields #[.ref h.objs.size, .none, .none, .none, .bool false, .none] } := by heap_get
  have hcC : (Value.ref C :: bm).contains (.ref C) = true := by simp
  unfold isInstance
  repeat (first | with_reducible refine wpAny_loadPart_at hget ?_ | (with_reducible refine wpAny_isSubtype_exc hC₁ ?_; rw [hcC]) | wp_step)
  show wpAny _ _ (typeLookup (.ref C) _) _ _ _
  refine (looks_findIn (M := model prog w) X₁ hi).at ?_
  refine wpAny_holding (wpAny_bind ?_)
  unfold bindSpecial
  refine wpAny_bind (wpAny_typeOf (T := "function") ⟨_, hfI₁, hfc⟩ ?_)
  rw [if_pos (by decide)]
  refine wpAny_pure (wpAny_bind (wpAny_mono hq (fun r s' hr => ?_) fun _ _ x => x))
  obtain ⟨rfl, hQ⟩ := hr
  wp_walk
  exact hQ
theorem own_call (F : ExcBaseFacts B newId inN bmN) (hcB : (Value.ref C :: bm).contains (.type B) = true) (hcA : (Value.ref C :: bm).contains (.type "AttributeError") = false) (hcN : (Value.ref C :: bm).contains (.type "NameError") = false) {K : Frag} {rest : List Value} {fI : Addr} {oI : Obj} {Q : Value → Shared → Prop}
    (X : K.In h) (hC : h.get? C = some (excClassObj nm q C N bs bm hdct sn sub ab col dd k0 k1 k2 k3 k5 newId)) (hi : findIn K (.ref C) "__init__" = some (some (.ref fI))) (hfI : h.get? fI = some oI) (hfc : oI.cls = .type "function")
    (hq : wpAny (model prog w) (A.under (.builtin "type.__call__" ⟨.ref C :: rest, []⟩)) (call (.ref fI) (.ref (h.objs.size + 1) :: rest)) (fun r s' => r = .none ∧ Q (.ref (h.objs.size + 1)) s') E
      ⟨(h.push { cls := .type "tuple", data := .seq rest.toArray }).push { cls := .ref C, data := .fields #[.ref h.objs.size, .none, .none, .none, .bool false, .none] }, g, d, t, os⟩) (hrest : rest.length ≤ sizeLine) :
    wpAny (model prog w) A (call (.ref C) rest) Q E ⟨h, g, d, t, os⟩ := by
  have f1 := tc_lookup
  have f2 := tc_bind (.ref C)
  have hT : (⟨h, g, d, t, os⟩ : Shared).TypeIs (.ref C) "type" := ⟨_, hC, rfl⟩
  refine wpAny_call (codeAny_of_tree ?_)
  show wpAny _ _ (callAny (.ref C) _) _ _ _
  repeat (any_goals (first | assumption | with_reducible refine wpAny_loadPart_at hC ?_ | wp_step))
  refine ⟨rfl, ?_⟩
  exact codeAny_call_builtin_at (Code.quiet_builtin _ (by decide +kernel)) entry_typeCall (wpAny_check_type_call_sub hC (own_type_call F hcB hcA hcN X hC hi hfI hfc hq hrest))
end
abbrev excObj (C t : Addr) : Obj := { cls := .ref C, data := .fields #[.ref t, .none, .none, .none, .bool false, .none] }
abbrev excObjD (C t d : Addr) : Obj := { cls := .ref C, dict := some d, data := .fields #[.ref t, .none, .none, .none, .bool false, .none] }
abbrev tupObj (vs : List Value) : Obj := { cls := .type "tuple", data := .seq vs.toArray }
section
variable {prog : Program} {w : World} {A : Around} {E : Value → Shared → Prop} {s : Shared} {h₀ : Heap} {L : Addr} {m : Str → Option Value} {news : List (Addr × Obj)} {K : Frag}
variable {nm q : Str} {C N : Addr} {bs bm bmN : List Value} {hdct : Bool} {sn : List Str} {sub : List Value} {ab : Bool} {col : Option Bool} {dd : Option Addr} {k0 k1 k2 k3 k5 : Option Value} {B newId inN : String}
theorem exc_make_K (FB : ExcBaseFacts B newId inN bmN) {rest : List Value} {fI : Addr} {oI : Obj} {Q : Value → Shared → Prop} (F : Fr h₀ L s.heap m) (X₀ : K.In h₀) (N' : News h₀ L s.heap news)
    (hC : K.lookup C = some (excClassObj nm q C N bs bm hdct sn sub ab col dd k0 k1 k2 k3 k5 newId)) (hcB : (Value.ref C :: bm).contains (.type B) = true) (hcA : (Value.ref C :: bm).contains (.type "AttributeError") = false) (hcN : (Value.ref C :: bm).contains (.type "NameError") = false)
    (hi : findIn K (.ref C) "__init__" = some (some (.ref fI))) (hfI : K.lookup fI = some oI) (hfc : oI.cls = .type "function") (hrest : rest.length ≤ sizeLine)
    (h : ∀ e t h', Fr h₀ L h' m → News h₀ L h' ((e, excObj C t) :: (t, tupObj rest) :: news) → (∀ p ∈ news, p.1 < t) → @LT.lt Nat _ t e →
      codeAny (model prog w) (A.under (.builtin "type.__call__" ⟨.ref C :: rest, []⟩)) (.call (.ref fI) ⟨.ref e :: rest, []⟩) (InitBack e fun r s' => match r with | .ok (.ret v) => Q v s' | .ok _ => False | .error x => E x s') { s with heap := h' }) :
    wpAny (model prog w) A (call (.ref C) rest) Q E s := by
  have X := X₀.keeps F.keep
  obtain ⟨hp, g, d, t, os⟩ := s
  refine own_call FB hcB hcA hcN X (X _ _ hC) hi (X _ _ hfI) hfc (wpAny_call (codeAny_mono (h (hp.objs.size + 1) hp.objs.size _ ((F.push _).push _) ?_ (fun p hp => Heap.lt_size (N' p hp).1) (Nat.lt_succ_self _)) fun r s' z => ?_)) hrest
  · have := (N'.push F (tupObj rest)).push (F.push _) (excObj C hp.objs.size)
    rwa [Heap.size_push] at this
  · rcases r with e | (v | _ | _ | _) <;> first | exact z | exact ⟨z.1, z.2⟩
end
end Mine
namespace Mine
open PySem PySem.W PyProof.Rows PySem.Calls PySem.Spec
set_option maxRecDepth 100000
section
variable {M : Model} {A : Around} {E : Value → Shared → Prop} {s : Shared} {env : Env}
variable {nm q : Str} {C N : Addr} {bs bm : List Value} {hdct : Bool} {sn : List Str} {sub : List Value} {ab : Bool} {col : Option Bool} {dd : Option Addr} {k0 k1 k2 k3 k5 : Option Value} {newId : String}
theorem own_raiseStmt {x : Sem Value} {Q : Flow → Shared → Prop} (hcB : (Value.ref C :: bm).contains (.type "BaseException") = true) (hh : A.handled = none)
    (h : wpAny M A x (fun v s₁ => ∃ e t d, v = .ref e ∧ s₁.heap.get? C = some (excClassObj nm q C N bs bm hdct sn sub ab col dd k0 k1 k2 k3 k5 newId) ∧ s₁.heap.get? e = some (excObjD C t d) ∧ E (.ref e) s₁) E s) :
    wpAny M A (raiseStmt env (some x) none) Q E s := by
  unfold raiseStmt
  refine wpAny_bind (wpAny_mono h (fun v s₁ h₁ => ?_) fun _ _ x => x)
  obtain ⟨e, t, d, rfl, hC, he, hE⟩ := h₁
  obtain ⟨hp, g, dr, tk, os⟩ := s₁
  repeat (first | with_reducible refine wpAny_loadPart_at he ?_ | with_reducible refine wpAny_loadPart_at hC ?_ | (with_reducible refine wpAny_isSubtype_exc hC ?_; rw [hcB]) | wp_step)
  exact wpAny_raiseNew_none hh hE
theorem own_raise {e₀ : PySem.Expr} {pos : Pos} {Q : Flow → Shared → Prop} (hcB : (Value.ref C :: bm).contains (.type "BaseException") = true) (hh : A.handled = none)
    (h : wpAny M A (eval e₀ env) (fun v s₁ => ∃ e t d, v = .ref e ∧ s₁.heap.get? C = some (excClassObj nm q C N bs bm hdct sn sub ab col dd k0 k1 k2 k3 k5 newId) ∧ s₁.heap.get? e = some (excObjD C t d) ∧ E (.ref e) s₁) E s) :
    wpAny M A (exec (.Raise (some e₀) none pos) env) Q E s := by
  show wpAny M A (do standAt pos; raiseStmt env (some (do let v ← eval e₀ env; standAt pos; pure v)) none) Q E s
  refine wpAny_bind (wpAny_standAt (own_raiseStmt hcB hh (wpAny_bind (wpAny_mono h (fun v s₁ h₁ => wpAny_bind (wpAny_standAt (wpAny_pure h₁))) fun _ _ x => x))))
end
end Mine
namespace Mine
open PySem PySem.W PyProof.Rows PySem.Calls PySem.Spec
set_option maxRecDepth 100000
abbrev blockMro : List Value := [.ref 31, .type "Exception", .type "BaseException", .type "object"]
abbrev blockObj : Obj := excClassObj (Str.ofString "BlockFault") (Str.ofString "BlockFault") 44 43 [.ref 31] blockMro true [] [] false none none (some (.ref 35)) none (some (.str (Str.ofString "BlockFault") 218)) (some (.str (Str.ofString "BlockFault") 226)) (some (.bool true)) "Exception.__new__"
theorem block_at (P : Params) : (hd.heap_39 P).lookup 44 = some blockObj := by rfl
theorem block_init (P : Params) : findIn (hd.heap_39 P) (.ref 44) "__init__" = some (some (.ref 28)) := by rfl
theorem block_ga (P : Params) : findIn (hd.heap_39 P) (.ref 44) "__getattribute__" = some (some (.builtin "BaseException.__getattribute__")) := by rfl
theorem block_gx (P : Params) : findIn (hd.heap_39 P) (.ref 44) "__getattr__" = some none := by rfl
theorem block_sa (P : Params) : findIn (hd.heap_39 P) (.ref 44) "__setattr__" = some (some (.builtin "object.__setattr__")) := by rfl
theorem block_tk (P : Params) : takerIn (hd.heap_39 P) 44 "word" = some none := by rfl
theorem block_mr (P : Params) : mroIn (hd.heap_39 P) 44 (.type "BaseException") = some true := by rfl
theorem block_cB : (Value.ref 44 :: blockMro).contains (.type "BaseException") = true := by decide
theorem block_cE : (Value.ref 44 :: blockMro).contains (.type "Exception") = true := by decide
theorem block_cA : (Value.ref 44 :: blockMro).contains (.type "AttributeError") = false := by decide
theorem block_cN : (Value.ref 44 :: blockMro).contains (.type "NameError") = false := by decide
def BlockRaised (E : Value → Shared → Prop) (v : Value) (s₁ : Shared) : Prop := ∃ e t d, v = .ref e ∧ s₁.heap.get? 44 = some blockObj ∧ s₁.heap.get? e = some (excObjD 44 t d) ∧ E (.ref e) s₁
theorem block_raise {M : Model} {A : Around} {E : Value → Shared → Prop} {s : Shared} {env : Env} {e₀ : PySem.Expr} {pos : Pos} {Q : Flow → Shared → Prop} (hh : A.handled = none) (h : wpAny M A (eval e₀ env) (BlockRaised E) E s) : wpAny M A (exec (.Raise (some e₀) none pos) env) Q E s := own_raise block_cB hh h
theorem init_at (P : Params) : ∃ oI, (hd.heap_39 P).lookup 28 = some oI ∧ oI.cls = .type "function" := ⟨_, rfl, rfl⟩
theorem block_make {prog : Program} {w : World} {A : Around} {E : Value → Shared → Prop} {s : Shared} {h₀ : Heap} {L : Addr} {m : Str → Option Value} {news : List (Addr × Obj)} {P : Params} {v : Value} {Q : Value → Shared → Prop} (F : Fr h₀ L s.heap m) (X₀ : (hd.heap_39 P).In h₀) (N' : News h₀ L s.heap news)
    (h : ∀ e t h', Fr h₀ L h' m → News h₀ L h' ((e, excObj 44 t) :: (t, tupObj [v]) :: news) → (∀ p ∈ news, p.1 < t) → @LT.lt Nat _ t e → (∀ p ∈ (t, tupObj [v]) :: news, p.1 ≠ e) →
      codeAny (model prog w) (A.under (.builtin "type.__call__" ⟨[.ref 44, v], []⟩)) (.call (.ref 28) ⟨[.ref e, v], []⟩) (InitBack e fun r s' => match r with | .ok (.ret v) => Q v s' | .ok _ => False | .error x => E x s') { s with heap := h' }) :
    wpAny (model prog w) A (call (.ref 44) [v]) Q E s := by
  obtain ⟨oI, h1, h2⟩ := init_at P
  exact exc_make_K PySem.F.excBase_Exception F X₀ N' (block_at P) block_cE block_cA block_cN (block_init P) h1 h2 (by rw [sizeLine_eq]; show (1 : Nat) ≤ 16777216; decide) fun e t h' F' N'' l1 l2 => h e t h' F' N'' l1 l2 (by
    intro p hp
    rcases List.mem_cons.mp hp with rfl | hp
    · exact Nat.ne_of_lt l2
    · exact Nat.ne_of_lt (Nat.lt_trans (l1 p hp) l2))
end Mine
namespace Mine
open PySem PySem.W PyProof.Rows PySem.Calls PySem.Spec
set_option maxRecDepth 100000
/-- an own exception in flight: its args, its traceback's head, its dict -/
abbrev flown (C t d : Addr) (x : Value) : Obj := { cls := .ref C, dict := some d, data := .fields #[.ref t, x, .none, .none, .bool false, .none] }
def Told5 (h base : Heap) (e C t d : Addr) (fl : Value) : Prop :=
  ∃ T oT ts, h.get? e = some (flown C t d (.ref T)) ∧ base.get? T = none ∧ T ≠ e ∧ h.get? T = some oT ∧ oT.data = .fields ts ∧ ts[3]? = some fl
def Noted5 (base : Heap) (l : List Env) (e C t d : Addr) (fl : Value) (h h' : Heap) : Prop :=
  base.StaysIn h' ∧ h'.FunFrames base l ∧ Told5 h' base e C t d fl ∧ h.UpToSlots h'
section
variable {M : Model} {A : Around} {E : Value → Shared → Prop} {s : Shared}
theorem own_entry {base : Heap} {env : Env} {outer : List Env} {L e C t d : Addr} {x head : Value} {hadNext : Bool} {Q : Unit → Shared → Prop}
    (hfr : A.frames = some (env :: outer)) (hl : s.heap.FunFrames base (env :: outer)) (hf : env.frame = some L)
    (he : s.heap.get? e = some (flown C t d x)) (hkb : base.StaysIn s.heap) (hen : base.get? e = none)
    (h : ∀ h', Noted5 base (env :: outer) e C t d (rawInt L) s.heap h' → Q () { s with heap := h' }) :
    wpAny M A (do let a ← frameOf env; let pl ← entryPlaceOf L hadNext; let b ← EntryCells.newEntry head a .none (rawInt L) .none pl; setField (.ref e) 1 b) Q E s := by
  have hene : e ∉ (env :: outer).filterMap (·.frame) := fun hm => by
    obtain ⟨_, o, ho, hnf⟩ := hl.mem hm
    rw [he] at ho; injection ho with ho; subst ho; exact hnf _ rfl
  refine wpAny_bind (wpAny_frameOf_fun hfr hl hf fun h₁ hs₁ => ?_)
  refine wpAny_bind (wpAny_entryPlaceOf fun pl hpl => ?_)
  unfold EntryCells.newEntry newFields
  refine wpAny_bind (wpAny_newObj_type ?_ (hpl.sizeOk5 _ _ _ _ _))
  have he₁ : h₁.get? e = some (flown C t d x) := (hs₁.2.1 e hene).trans he
  have kb₁ : base.StaysIn h₁ := fun b o hbo => (hs₁.2.1 b fun hm => by rw [(hl.mem hm).1] at hbo; cases hbo).trans (hkb b o hbo)
  let tb : Obj := { cls := .type "traceback", dict := none, data := .fields ([head, .ref L, .none, rawInt L, .none] ++ (if pl.isEmpty then List.replicate 6 Value.none else pl)).toArray }
  have he₂ : (h₁.push tb).get? e = some (flown C t d x) := Heap.get?_push_of_some tb he₁
  refine wpAny_setField he₂ rfl (by show 1 < 6; decide) (h _ ?_)
  have hTe : h₁.objs.size ≠ e := Nat.ne_of_gt (Heap.lt_size he₁)
  have he₃ := Heap.get?_update_self (Obj.mapFields (·.setIfInBounds 1 (Value.ref h₁.objs.size))) he₂ rfl
  have hT₃ := (Heap.get?_update_other (h₁.push tb) (Obj.mapFields (·.setIfInBounds 1 (Value.ref h₁.objs.size))) (Ne.symm hTe)).trans (Heap.get?_push_size h₁ rfl)
  have keep : ∀ b o, b ≠ e → h₁.get? b = some o → ((h₁.push tb).update e (Obj.mapFields (·.setIfInBounds 1 (Value.ref h₁.objs.size)))).get? b = some o := fun b o hbe hb => by
    rw [Heap.get?_update_other _ _ (Ne.symm hbe)]
    exact Heap.get?_push_of_some _ hb
  have noRecord : ∀ b o, s.heap.get? b = some o → (∀ vs, o.data ≠ .fields vs) → b ≠ e := fun b o hb hnf q => by
    rw [q, he] at hb; injection hb with hb; subst hb; exact hnf _ rfl
  refine ⟨fun b o hbo => keep b o (fun q => by rw [q, hen] at hbo; cases hbo) (kb₁ b o hbo), hl.of_keeps fun b o hb hnf => ?_, ?_, fun b o hb hnf => ?_⟩
  · obtain ⟨sl, hs⟩ := hs₁.2.2 b o hb
    exact ⟨_, keep b _ (noRecord b o hb hnf) hs, rfl⟩
  · exact ⟨h₁.objs.size, _, _, he₃, kb₁.fresh, hTe, hT₃, rfl, by first | (simp; done) | (rcases hpl with rfl | ⟨_, _, _, _, _, _, _, rfl⟩ <;> simp)⟩
  · obtain ⟨sl, hs⟩ := hs₁.2.2 b o hb
    exact ⟨sl, keep b _ (noRecord b o hb hnf) hs⟩
/-- the first station -/
theorem own_note0 {base : Heap} {env : Env} {outer : List Env} {L e C t d : Addr} {Q : Unit → Shared → Prop}
    (hfr : A.frames = some (env :: outer)) (hl : s.heap.FunFrames base (env :: outer)) (hf : env.frame = some L)
    (he : s.heap.get? e = some (flown C t d .none)) (hkb : base.StaysIn s.heap) (hen : base.get? e = none)
    (h : ∀ h', Noted5 base (env :: outer) e C t d (rawInt L) s.heap h' → Q () { s with heap := h' }) : wpAny M A (noteFrame (.ref e) env) Q E s := by
  unfold noteFrame
  simp only [hf]
  refine wpAny_bind (wpAny_field he rfl (x := .none) rfl ?_)
  rw [if_neg (by decide)]
  exact own_entry hfr hl hf he hkb hen h
/-- a later station -/
theorem own_note1 {base : Heap} {env : Env} {outer : List Env} {L e C t d : Addr} {Q : Unit → Shared → Prop}
    (hfr : A.frames = some (env :: outer)) (hl : s.heap.FunFrames base (env :: outer)) (hf : env.frame = some L)
    (ht : Told5 s.heap base e C t d .none) (hkb : base.StaysIn s.heap) (hen : base.get? e = none)
    (h : ∀ h', Noted5 base (env :: outer) e C t d (rawInt L) s.heap h' → Q () { s with heap := h' }) : wpAny M A (noteFrame (.ref e) env) Q E s := by
  obtain ⟨T, oT, ts, he, hnT, hTe, hT, hdT, h3⟩ := ht
  unfold noteFrame
  simp only [hf]
  refine wpAny_bind (wpAny_field he rfl (x := .ref T) rfl ?_)
  rw [if_pos (show (Value.ref T != Value.none) = true from by simp)]
  refine wpAny_bind (wpAny_field hT hdT h3 ?_)
  rw [if_neg (show ¬ ((Value.none == rawInt L) = true) from by simp [rawInt])]
  refine wpAny_bind (wpAny_setField hT hdT (Array.getElem?_eq_some_iff.mp h3).1 ?_)
  have other : ∀ b, b ≠ T → (s.heap.update T (Obj.mapFields (·.setIfInBounds 3 Value.none))).get? b = s.heap.get? b := fun b hb => Heap.get?_update_other _ _ (Ne.symm hb)
  have noRecord : ∀ b o, s.heap.get? b = some o → (∀ vs, o.data ≠ .fields vs) → b ≠ T := fun b o hb hnf q => by
    rw [q, hT] at hb; injection hb with hb; subst hb; exact hnf ts hdT
  refine own_entry hfr (hl.of_keeps fun b o hb hnf => ⟨o, (other b (noRecord b o hb hnf)).trans hb, rfl⟩) hf ((other e (Ne.symm hTe)).trans he)
    (fun b o hbo => (other b fun q => by rw [q, hnT] at hbo; cases hbo).trans (hkb b o hbo)) hen
    fun h' ⟨x1, x2, x3, x4⟩ => h h' ⟨x1, x2, x3, fun b o hb hnf => x4 b o ((other b (noRecord b o hb hnf)).trans hb) hnf⟩
/-- the flight laid down -/
theorem own_land {base : Heap} {l : List Env} {e C t d : Addr} {fl : Value} {Q : Unit → Shared → Prop}
    (hkb : base.StaysIn s.heap) (hl : s.heap.FunFrames base l) (ht : Told5 s.heap base e C t d fl)
    (h : ∀ h', base.StaysIn h' → h'.FunFrames base l → Told5 h' base e C t d .none → s.heap.UpToSlots h' → Q () { s with heap := h' }) :
    wpAny M A (setFlight (.ref e) none) Q E s := by
  obtain ⟨T, oT, ts, he, hnT, hTe, hT, hdT, h3⟩ := ht
  have hsz3 : 3 < ts.size := (Array.getElem?_eq_some_iff.mp h3).1
  have other : ∀ b, b ≠ T → (s.heap.update T (Obj.mapFields (·.setIfInBounds 3 ((none : Option Addr).elim Value.none fun f => rawInt f)))).get? b = s.heap.get? b :=
    fun b hb => Heap.get?_update_other _ _ (Ne.symm hb)
  have noRecord : ∀ b o, s.heap.get? b = some o → (∀ vs, o.data ≠ .fields vs) → b ≠ T := fun b o hb hnf q => by
    rw [q, hT] at hb; injection hb with hb; subst hb; exact hnf ts hdT
  unfold setFlight
  refine wpAny_bind (wpAny_field he rfl (x := .ref T) rfl ?_)
  rw [if_pos (show (Value.ref T != Value.none) = true from by simp)]
  refine wpAny_setField hT hdT hsz3 (h _ (fun b o hbo => (other b fun q => by rw [q, hnT] at hbo; cases hbo).trans (hkb b o hbo))
    (hl.of_keeps fun b o hb hnf => ⟨o, (other b (noRecord b o hb hnf)).trans hb, rfl⟩) ?_ fun b o hb hnf => ⟨o.slots, (other b (noRecord b o hb hnf)).trans hb⟩)
  exact ⟨T, _, _, (other e (Ne.symm hTe)).trans he, hnT, hTe, Heap.get?_update_self _ hT (Obj.isFreed_of_fields (Obj.data_mapFields hdT _)), Obj.data_mapFields hdT _, by simp [hsz3]⟩
end
end Mine
namespace Mine
open PySem PySem.W PyProof.Rows PySem.Calls PySem.Spec
set_option maxRecDepth 100000
theorem meta_exc : typeOf (.type "Exception") = pure (.type "type") := by kernel_rfl
theorem stub_exc : Manifest.isStub "Exception" = false := by decide +kernel
theorem exc_init_found (P : Params) : findCls (hd.heap_39 P) (.type "Exception") (.type "type") "__init__" = some (.val (.builtin "Exception.__init__")) := by rfl
section
variable {prog : Program} {w : World} {A : Around} {E : Value → Shared → Prop} {s : Shared} {h₀ : Heap} {L : Addr} {m : Str → Option Value} {news : List (Addr × Obj)} {P : Params} {e t : Addr} {v : Value}
theorem exc_getm {pl : Sem Bool} {Q : Value × List Value → Shared → Prop} (F : Fr h₀ L s.heap m) (X₀ : (hd.heap_39 P).In h₀) (h : Q (.builtin "Exception.__init__", []) { s with toks := s.toks + 1 }) :
    wpAny (model prog w) A (getMethod (.type "Exception") "__init__" pl) Q E s :=
  method_type F X₀ meta_exc stub_exc (exc_init_found P) rfl h
theorem exc_check_init {h : Heap} {g : Array GenState} {d : Drawn} {tk : Nat} {os : OsState} {M : Model} {rest : List Value} {Q : Unit → Shared → Prop} (hC : h.get? 44 = some blockObj) (he : h.get? e = some (excObj 44 t)) (hq : Q () ⟨h, g, d, tk, os⟩) :
    wpAny M A (checkBuiltinCall "Exception.__init__" ⟨.ref e :: rest, []⟩) Q E ⟨h, g, d, tk, os⟩ := by
  have FB := PySem.F.excBase_Exception
  have hcB := block_cE
  have hshort := FB.noStar
  simp only [checkBuiltinCall, FB.initKind, FB.initSplit, FB.initRow]
  repeat (first | with_reducible refine wpAny_loadPart_at he ?_ | with_reducible refine wpAny_loadPart_at hC ?_ | (with_reducible refine wpAny_isSubtype_exc hC ?_; rw [hcB]) | wp_step)
  refine wpAny_onRaise ?_
  rw [show ∀ (a b : String) (n : Nat), Bind.check ⟨.positional, "*", "Exception", .self, [⟨"args", .varPos, false⟩]⟩ a b n (List.map (fun x => x.fst) ({ pos := Value.ref e :: rest } : Args).kw) = pure () from
    fun a b n => check_star_args _ _ _ _ _ _]
  exact wpAny_pure hq
theorem news_change {d : Addr} {f : Obj → Obj} {o o' : Obj} (F : Fr h₀ L s.heap m) (N : News h₀ L s.heap ((d, o) :: news)) (hf : f o = o') (hfr : o'.isFreed = false) (hoff : ∀ p ∈ news, p.1 ≠ d) :
    Fr h₀ L (s.heap.update d f) m ∧ News h₀ L (s.heap.update d f) ((d, o') :: news) := by
  have y := N (d, o) (.head _)
  refine ⟨F.change (Heap.SameBut.update ..) y.2.1 y.2.2, fun p hp => ?_⟩
  rcases List.mem_cons.mp hp with rfl | hp
  · exact ⟨by rw [Heap.get?_update_self _ y.1 (hf ▸ hfr), hf], y.2⟩
  · have z := N p (.tail _ hp)
    exact ⟨(Heap.get?_update_other _ _ (Ne.symm (hoff p hp))).trans z.1, z.2⟩
theorem exc_init_K {Q : Value → Shared → Prop} (F : Fr h₀ L s.heap m) (X₀ : (hd.heap_39 P).In h₀) (N : News h₀ L s.heap ((e, excObj 44 t) :: news)) (hoff : ∀ p ∈ news, p.1 ≠ e)
    (h : ∀ t' h', Fr h₀ L h' m → News h₀ L h' ((e, excObj 44 t') :: (t', tupObj [v]) :: news) → (∀ p ∈ (t', tupObj [v]) :: news, p.1 ≠ e) → Q .none { s with heap := h' }) :
    wpAny (model prog w) A (call (.builtin "Exception.__init__") [.ref e, v]) Q E s := by
  have FB := PySem.F.excBase_Exception
  have X := X₀.keeps F.keep
  have he := (N _ (.head _)).1
  have N₁ : News h₀ L (s.heap.push (tupObj [v])) ((e, excObj 44 t) :: (s.heap.objs.size, tupObj [v]) :: news) := by
    have := News.push F N (tupObj [v])
    exact fun p hp => this p (by
      rcases List.mem_cons.mp hp with r | hp
      · exact .tail _ (r ▸ .head _)
      rcases List.mem_cons.mp hp with r | hp
      · exact r ▸ .head _
      · exact .tail _ (.tail _ hp))
  have hne : s.heap.objs.size ≠ e := Nat.ne_of_gt (Heap.lt_size he)
  obtain ⟨F₂, N₂⟩ := news_change (s := { s with heap := s.heap.push (tupObj [v]) }) (f := Obj.mapFields (·.setIfInBounds 0 (.ref s.heap.objs.size))) (o' := excObj 44 s.heap.objs.size) (F.push _) N₁ rfl rfl (by
    intro p hp
    rcases List.mem_cons.mp hp with rfl | hp
    · exact hne
    · exact hoff p hp)
  have hQ := h _ _ F₂ N₂ (by
    intro p hp
    rcases List.mem_cons.mp hp with rfl | hp
    · exact hne
    · exact hoff p hp)
  obtain ⟨hp, g, d, tk, os⟩ := s
  refine wpAny_call (codeAny_call_builtin FB.init.plain FB.initEntry (exc_check_init (X _ _ (block_at P)) he ?_))
  have he₁ := Heap.get?_push_of_some (tupObj [v]) he
  wp_walk
  exact hQ
abbrev wordDict (P : Params) (v : Value) (tk : Tok) : Obj := { cls := .type "dict", data := .dict #[⟨PyData.keyHash P "word", .str "word" tk, v⟩] 1 }
theorem news_turn {h : Heap} {x y : Addr × Obj} (N : News h₀ L h (x :: y :: news)) : News h₀ L h (y :: x :: news) := fun p hp => N p (by
  rcases List.mem_cons.mp hp with r | hp
  · exact .tail _ (r ▸ .head _)
  rcases List.mem_cons.mp hp with r | hp
  · exact r ▸ .head _
  · exact .tail _ (.tail _ hp))
theorem exc_set_K {Q : Unit → Shared → Prop} (F : Fr h₀ L s.heap m) (X₀ : (hd.heap_39 P).In h₀) (N : News h₀ L s.heap ((e, excObj 44 t) :: news)) (hoff : ∀ p ∈ news, p.1 ≠ e)
    (h : ∀ d h' tk', Fr h₀ L h' m → News h₀ L h' ((e, excObjD 44 t d) :: (d, wordDict w.params v tk') :: news) → (∀ p ∈ (d, wordDict w.params v tk') :: news, p.1 ≠ e) → Q () { s with heap := h', toks := s.toks + 2 }) :
    wpAny (model prog w) A (setAttr (.ref e) "word" v) Q E s := by
  have X := X₀.keeps F.keep
  have he := (N _ (.head _)).1
  have hne : s.heap.objs.size ≠ e := Nat.ne_of_gt (Heap.lt_size he)
  have hlt : ∀ p ∈ news, @LT.lt Nat _ p.1 s.heap.objs.size := fun p hp => Heap.lt_size (N p (.tail _ hp)).1
  have N₁ := news_turn (News.push F N { cls := .type "dict", data := .dict #[] })
  obtain ⟨F₂, N₂⟩ := news_change (s := { s with heap := s.heap.push { cls := .type "dict", data := .dict #[] } }) (f := fun o => { o with dict := some s.heap.objs.size }) (o' := excObjD 44 t s.heap.objs.size) (F.push _) N₁ rfl rfl (by
    intro p hp
    rcases List.mem_cons.mp hp with rfl | hp
    · exact hne
    · exact hoff p hp)
  obtain ⟨F₃, N₃⟩ := news_change (s := { s with heap := (s.heap.push { cls := .type "dict", data := .dict #[] }).update e fun o => { o with dict := some s.heap.objs.size } }) (f := Obj.putName "word" (PyData.keyHash w.params "word") (.str "word" (s.toks + 1)) v) (o' := wordDict w.params v (s.toks + 1)) F₂ (news_turn N₂) rfl rfl (by
    intro p hp
    rcases List.mem_cons.mp hp with rfl | hp
    · exact Ne.symm hne
    · exact Nat.ne_of_lt (hlt p hp))
  exact set_plain (od := none) X ⟨he, rfl, rfl, trivial⟩ (block_sa P) (exc_osa (c' := 31) (s := { s with toks := s.toks + 1 }) X he (cd := { name := Str.ofString "BlockFault", bases := [.ref 31], mro := .ref 44 :: blockMro, ns := 43, qualname := Str.ofString "BlockFault" }) rfl rfl rfl (block_tk P) (h _ _ (s.toks + 1) F₃ (news_turn N₃) (by
    intro p hp
    rcases List.mem_cons.mp hp with rfl | hp
    · exact hne
    · exact hoff p hp)))
theorem block_raised {E : Value → Shared → Prop} {d : Addr} (F : Fr h₀ L s.heap m) (X₀ : (hd.heap_39 P).In h₀) (N : News h₀ L s.heap ((e, excObjD 44 t d) :: news)) (h : E (.ref e) s) : BlockRaised E (.ref e) s :=
  ⟨e, t, d, rfl, (X₀.keeps F.keep) _ _ (block_at P), (N _ (.head _)).1, h⟩
theorem word_found {P' : Params} {x : Str} {tk tk' : Tok} : findObj (hd.heap_39 P) 44 (some (wordDict P' (.str x tk) tk')) "word" = some (.value (.str x tk)) := by rfl
theorem exc_get_K {P' : Params} {d : Addr} {tb : Value} {x : Str} {tk tk' : Tok} {expr : Bool} {Q : Value → Shared → Prop} (F : Fr h₀ L s.heap m) (X₀ : (hd.heap_39 P).In h₀) (N : News h₀ L s.heap ((e, flown 44 t d tb) :: news)) (hm : (d, wordDict P' (.str x tk) tk') ∈ news)
    (h : Q (.str x tk) { s with toks := s.toks + 1 }) : wpAny (model prog w) A (getAttr (.ref e) "word" expr) Q E s :=
  exc_get (X₀.keeps F.keep) (oe := flown 44 t d tb) (od := some (wordDict P' (.str x tk) tk')) ⟨(N _ (.head _)).1, rfl, rfl, (N _ (.tail _ hm)).1⟩ (block_ga P) (block_gx P) (block_mr P) word_found rfl h
end
end Mine
namespace Mine
open PySem PySem.W PyProof.Rows PySem.Calls PySem.Spec
set_option maxRecDepth 100000
def RaisedD (base G : Heap) (l : List Env) (e C t d : Addr) (news : List (Addr × Obj)) (h : Heap) : Prop :=
  ∃ B, base.StaysIn B ∧ (∀ b o, G.get? b = some o → b ∉ l.filterMap (·.frame) → B.get? b = some o) ∧ (∀ q ∈ news, B.get? q.1 = some q.2 ∧ G.get? q.1 = none) ∧ B.StaysIn h ∧ B.get? e = none ∧ G.get? e = none ∧ h.FunFrames B l ∧ Told5 h B e C t d .none
section
variable {M : Model} {A : Around} {E : Value → Shared → Prop} {s : Shared} {base g : Heap} {outer : List Env} {L a e C t d : Addr} {m : Str → Option Value} {name : Str} {scope : Scope} {cd : Value} {Q : Unit → Shared → Prop} {news : List (Addr × Obj)}
theorem own_leave (K : Below A base outer g) (F : Fr g L s.heap m) (N : News g L s.heap ((e, flown C t d .none) :: news)) (hoff : ∀ p ∈ news, p.1 ≠ e)
    (hQ : ∀ h', RaisedD base g outer e C t d news h' → g.UpToSlots h' → Q () { s with heap := h' }) (hk : scope.kind = .function := by rfl) :
    wpAny M (A.deeper (envOf name scope L a cd)) (leaving (envOf name scope L a cd) (.ref e)) Q E s := by
  have K' := K.push (name := name) (a := a) (cd := cd) F hk
  have he := N _ (.head _)
  have hbe : base.get? e = none := fresh_of_stays K.stays he.2.2
  have hin : ∀ env ∈ (envOf name scope L a cd :: outer), ∀ b, env.frame = some b → b ∈ e :: (envOf name scope L a cd :: outer).filterMap (·.frame) := fun env he b hb => .tail _ (List.mem_filterMap.mpr ⟨env, he, hb⟩)
  have st : base.StaysIn (hideAll s.heap (e :: (envOf name scope L a cd :: outer).filterMap (·.frame))) := fun b o q => hideAll_get _ (K'.stays b o q) fun hm => by
    rcases List.mem_cons.mp hm with rfl | hm
    · rw [hbe] at q; cases q
    · rw [(K'.frames.mem hm).1] at q; cases q
  have sg : ∀ b o, g.get? b = some o → b ∉ outer.filterMap (·.frame) → (hideAll s.heap (e :: (envOf name scope L a cd :: outer).filterMap (·.frame))).get? b = some o := fun b o q nm => hideAll_get _ (F.keep b o q) fun hm => by
    rcases List.mem_cons.mp hm with rfl | hm
    · rw [he.2.2] at q; cases q
    rcases kts_mem hm with z | z
    · rw [z, kts_self F] at q
      cases q
    · exact nm z
  have hl : ∀ q ∈ news, (hideAll s.heap (e :: (envOf name scope L a cd :: outer).filterMap (·.frame))).get? q.1 = some q.2 ∧ g.get? q.1 = none := fun q hq => by
    have hN := N q (.tail _ hq)
    refine ⟨hideAll_get _ hN.1 fun hm => ?_, hN.2.2⟩
    rcases List.mem_cons.mp hm with r | hm
    · exact hoff q hq r
    obtain ⟨env, he, hf⟩ := List.mem_filterMap.mp hm
    rcases List.mem_cons.mp he with rfl | he
    · exact hN.2.1 (Option.some.inj hf).symm
    · obtain ⟨o, ho, _⟩ := (K.frames.mem (List.mem_filterMap.mpr ⟨env, he, hf⟩)).2
      rw [hN.2.2] at ho; cases ho
  unfold leaving
  refine wpAny_bind (own_note0 (base := hideAll s.heap (e :: (envOf name scope L a cd :: outer).filterMap (·.frame))) K'.stack (funFrames_hide K'.frames hin) rfl he.1 (fun b o q => of_hideAll _ q) (hideAll_none _ (.head _)) fun h₁ ⟨x1, x2, x3, x4⟩ => ?_)
  refine own_land x1 x2 x3 fun h₂ y1 y2 y3 y4 => ?_
  obtain ⟨_, _, y2'⟩ := y2
  exact hQ h₂ ⟨_, st, sg, hl, y1, hideAll_none _ (.head _), he.2.2, y2', y3⟩ (((Heap.UpToSlots.of_keeps F.keep).trans x4).trans y4)
end
section
variable {prog : Program} {w : World} {A₀ : Around} {E : Value → Shared → Prop} {s' : Shared} {base g G : Heap} {outer : List Env} {L a e t d : Addr} {m : Str → Option Value} {name : Str} {scope : Scope} {cd : Value}
  {n : Str} {b₀ : Stmt} {suite : List Stmt} {pos np : Pos} {rest : List ExceptHandler} {Q : Flow → Shared → Prop} {news : List (Addr × Obj)} {P : Params}
  {p : Program} {loose : List Str} {mean : ExcName → Option Value} {mg mb : Str → Option Value} {x : Str}
theorem own_caught (R : RaisedD base G (envOf name scope L a cd :: outer) e 44 t d news s'.heap) (F : Fr g L G m) (K : Below A₀ base outer g) (hsm : G.UpToSlots s'.heap) (XB : (hd.heap_39 P).In base) (TB : Top p loose mean mg mb base)
    (ex : nsIn (hd.heap_39 P) mainGlobals x = some (some (.ref 44)))
    (k : ∀ h' g' tb tk, KtsTurn (outer.filterMap (·.frame)) g g' → Fr g' L h' (fun y => if y = n then some (.ref e) else m y) → News g' L h' ((e, flown 44 t d tb) :: news) → Below A₀ base outer g' → (hd.heap_39 P).In g' → Top p loose mean mg mb g' →
      wpAny (model prog w) ((A₀.deeper (envOf name scope L a cd)).mark (some (.ref e))) (execs (b₀ :: suite) (envOf name scope L a cd))
        (fun f s₄ => wpAny (model prog w) (A₀.deeper (envOf name scope L a cd)) (do bindName (envOf name scope L a cd) n .none; unbindBehindTheSuite (envOf name scope L a cd) n pos) (fun _ s₅ => Q f s₅) E s₄)
        (AsSuiteRaised (model prog w) ((A₀.deeper (envOf name scope L a cd)).mark (some (.ref e))) (envOf name scope L a cd) n pos (notedBy (model prog w) ((A₀.deeper (envOf name scope L a cd)).mark (some (.ref e))) (envOf name scope L a cd) (cameBackBy (model prog w) (A₀.deeper (envOf name scope L a cd)) (envOf name scope L a cd) E)))
        { s' with heap := h', toks := tk })
    (hk : scope.kind = .function := by rfl) (hlo : (envOf name scope L a cd).kindOf n = some .local := by rfl) (hx : (envOf name scope L a cd).kindOf x = some .globalImplicit := by rfl) (hd : (x == ("__debug__" : Str)) = false := by decide) :
    wpAny (model prog w) (A₀.deeper (envOf name scope L a cd)) (noteFrame (.ref e) (envOf name scope L a cd))
      (fun _ s₂ => wpAny (model prog w) (A₀.deeper (envOf name scope L a cd)) (setFlight (.ref e) none) (fun _ s₃ =>
        wpAny (model prog w) (A₀.deeper (envOf name scope L a cd)) (handleBy (.ref e) (envOf name scope L a cd) (.ExceptHandler (some (.Name x np)) (some n) (b₀ :: suite) pos :: rest)) Q E s₃) E s₂) E s' := by
  obtain ⟨B, hB, hBG, hl, hBs, hBe, hGe, hfr, ht⟩ := R
  have hL : B.get? L = none := by
    obtain ⟨_, ⟨L', _, hf, hn', _⟩, _⟩ := hfr
    obtain rfl : L = L' := Option.some.inj hf
    exact hn'
  refine own_note1 (base := B) (Around.frames_deeper K.stack) hfr rfl ht hBs hBe fun h₄ ⟨w1, w2, w3, w4⟩ => ?_
  refine own_land w1 w2 w3 fun h₅ v1 v2 v3 v4 => ?_
  obtain ⟨g₅, T₅, F₅, K₅⟩ := kts_ground K F hBG v1 ((hsm.trans w4).trans v4)
  have X₅ := XB.keeps K₅.stays
  have P₅ : TopRead p loose mg mb g₅ := topRead_of (TB.keeps K₅.stays)
  refine wpAny_handleBy_cons (codeAny_handlers_test (name_K F₅ X₅ P₅ ex ?_ hk hx hd)) (by intro q; cases q)
  have hC : h₅.get? 44 = some blockObj := (X₅.keeps F₅.keep) _ _ (block_at P)
  obtain ⟨T', oT, ts, he₅, hrest⟩ := id v3
  refine wpAny_excMatches_sub_self hC he₅ rfl block_cB (codeAny_handlers_suite_as ?_)
  refine own_land v1 v2 v3 fun h₆ u1 u2 u3 u4 => ?_
  obtain ⟨g₆, T₆, F₆, K₆⟩ := kts_ground K F hBG u1 (((hsm.trans w4).trans v4).trans u4)
  obtain ⟨T'', oT₆, ts₆, he₆, _⟩ := u3
  have N₆ : News g₆ L h₆ ((e, flown 44 t d (.ref T'')) :: news) := fun q hq => by
    rcases List.mem_cons.mp hq with rfl | hq
    · refine ⟨he₆, fun z => ?_, T₆.none_ _ (kts_none F.keep hGe)⟩
      obtain ⟨_, ⟨L', oL, hf, _, ho, hnf⟩, _⟩ := u2
      obtain rfl : L = L' := Option.some.inj hf
      rw [← z, he₆] at ho
      injection ho with ho
      subst ho
      exact hnf _ rfl
    · exact ⟨u1 _ _ (hl q hq).1, (fun z => by have := (hl q hq).1; rw [z, hL] at this; cases this), T₆.none_ _ (kts_none F.keep (hl q hq).2)⟩
  refine stN F₆ N₆ (fun h₇ F₇ N₇ => ?_) hk hlo
  exact k h₇ g₆ _ _ T₆ F₇ N₇ K₆ (XB.keeps K₆.stays) (TB.keeps K₆.stays)
end
end Mine
namespace Mine
local macro_rules | `(tactic| k_room) => `(tactic| ktr_room)
local macro_rules | `(tactic| walk_at "call type:bytes") => `(tactic| (k_here; (with_reducible show wpAny _ _ (call (Value.type _) [Value.int _ _]) _ _ _); k_dflt (refine' call_bytes32 ?_; k_whole); intro _ _))
local macro_rules | `(tactic| walk_at "binaryOp FloorDiv int int") => `(tactic| (k_here; (with_reducible refine floordiv_int ?kbe ?_ (Or.inl (PyProof.noPylong_of_log2 ?kbp))); (case kbe => (with_reducible exact half_ne (by assumption))); (case kbp => exact half_log (by assumption) (by assumption))))
local macro_rules | `(tactic| walk_at "binaryOp Mult ref int") => `(tactic| (k_here; (with_reducible show wpAny _ _ (binaryOp Operator.Mult (Value.ref _) (Value.int _ _)) _ _ _); k_dflt (refine' KMa.mul ?F ?N ?l ?lo ?hi ?z ?e ?_; (case F => k_asm); (case N => k_asm); (case l => is_list); (case lo => decide); (case hi => decide); (case z => exact Nat.le_of_ble_eq_true rfl); (case e => exact rfl); k_whole); intro D' h' F' N' l1; (try k_lt l1); (try k_sweep)))
local macro_rules | `(tactic| walk_at "exec Raise some none") => `(tactic| (k_here; (with_reducible show wpAny _ _ (exec (Stmt.Raise (some (Expr.Call (Expr.Name _ _) _ _ _)) none _) _) _ _ _); k_dflt (refine' block_raise ?hh ?_; (case hh => rfl))))
local macro_rules | `(tactic| walk_at "call ref") => `(tactic| (k_here; (with_reducible show wpAny _ _ (call (Value.ref 44) _) _ _ _); k_dflt (refine' block_make ?F ?X ?N ?_; (case F => k_asm); (case X => k_asm); (case N => k_asm)); intro e9 t9 h9 F' N' l1 l2 o9; (try k_lt l1); k_enter))
local macro_rules | `(tactic| walk_at "getMethod type:Exception") => `(tactic| (k_here; k_dflt (refine' exc_getm ?F ?X ?_; (case F => k_asm); (case X => k_asm))))
local macro_rules | `(tactic| walk_at "call builtin:Exception.__init__") => `(tactic| (k_here; k_dflt (refine' exc_init_K ?F ?X ?N ?o ?_; (case F => k_asm); (case X => k_asm); (case N => k_asm); (case o => k_asm)); intro t9 h9 F' N' o9))
local macro_rules | `(tactic| walk_at "setAttr ref") => `(tactic| (k_here; (with_reducible show wpAny _ _ (setAttr (Value.ref _) ("word" : Str) _) _ _ _); k_dflt (refine' exc_set_K ?F ?X ?N ?o ?_; (case F => k_asm); (case X => k_asm); (case N => k_asm); (case o => k_asm)); intro d9 h9 tk9 F' N' o9))
local macro_rules | `(tactic| walk_at "BlockRaised") => `(tactic| (k_dflt (refine' block_raised ?F ?X ?N ?_; (case F => k_asm); (case X => k_asm); (case N => k_asm))))
local macro_rules | `(tactic| walk_at "leaving ref") => `(tactic| (k_here; k_dflt (refine' own_leave ?K ?F ?N ?o ?_; (case N => k_asm); (case K => assumption); (case F => k_asm); (case o => assumption)); intro h9 R9 U9; (try dsimp only at R9 U9 ⊢)))
local macro_rules | `(tactic| walk_at "noteFrame ref") => `(tactic| (k_here; (rename RaisedD _ _ _ _ _ _ _ _ _ => rkX); k_dflt (refine' own_caught ?R ?F ?K ?S ?XB ?TB ?ex ?_; (case R => exact rkX); (case K => assumption); (case F => assumption); (case S => assumption); (case XB => k_asm); (case TB => k_asm); (case ex => rfl)); intro h9 g9 tb9 tk9 T9 F' N' K9 X9 P9))
local macro_rules | `(tactic| walk_at "getAttr ref") => `(tactic| (k_here; (with_reducible show wpAny _ _ (getAttr (Value.ref _) ("word" : Str) _) _ _ _); k_dflt (refine' exc_get_K ?F ?X ?N ?m ?_; (case F => k_asm); (case X => k_asm); (case N => k_asm); (case m => exact .head _))))
def Refuses (w : World) (loose : List Str) (mean : ExcName → Option Value) (mg mb : Str → Option Value) : Prop :=
  ∀ (dp un : Nat) (gd : Option (List Code)) (cn : Str) (cs : Scope) (a : Addr) (ccd : Value) (A₀ : Around) (h₀ : Heap) (L : Addr) (m : Str → Option Value) (s : Shared)
    (limit fee : Int) (tl ts tf : Tok) (own : List (Addr × Obj)) (Q E : Value → Shared → Prop),
    Below A₀ h₀ [] h₀ → Fr h₀ L s.heap m → (hd.heap_39 w.params).In h₀ → News h₀ L s.heap own →
    Top hd.view_39 loose mean mg mb h₀ → cs.kind = .function → 0 ≤ limit → limit < 2 → Int.fdiv limit 2 = 0 → dp + 5 < recursionLimit → un + 40 < cLine →
    (∀ h' tk', Fr h₀ L h' m → News h₀ L h' own → Q .none { s with heap := h', toks := tk' }) →
    wpAny (model PySem.Challenge.rw_sa0302_01.row.prog w) (ktrTop dp un gd cn cs L a ccd [] []) (call (.ref 123) [.int limit tl, .int 0 ts, .int fee tf]) Q E s
set_option maxRecDepth 100000 in
set_option maxHeartbeats 8000000 in
theorem refuses (w : World) (loose : List Str) (mean : ExcName → Option Value) (mg mb : Str → Option Value) : Refuses w loose mean mg mb := by
  unfold Refuses
  intro dp un gd cn cs a ccd A₀ h₀ L m s limit fee tl ts tf own Q E B F X N T hk hl0 hl1 hg hd hu hret
  refine wpAny_call ?_
  k_dflt (refine' code_defS0 (cn := cn) (cs := cs) (L := L) (a := a) (ccd := ccd) B F X N T ?kA ?k6 ?k7 ?k8 ?k9 ?kB ?_ hk ?c2 ?c3 ?c4 ?c5)
  (case kA => exact rfl)
  (case k6 => k_is)
  (case k7 => k_is)
  (case k8 => ktr_room)
  (case k9 => exact BindsTo.of_eq rfl)
  (case c5 => decide)
  (case kB => exact locs rfl)
  (case c2 => exact rfl)
  (case c3 => exact rfl)
  (case c4 => exact rfl)
  intro g' L' h' FG' F' N' B' X' T' D'
  (try dsimp only)
  (try k_fold)
  k_steps
  all_goals (
    refine' hret _ _ ?e2 ?e3
    (case e2 => k_asm)
    (case e3 => first | k_asm | (refine' cb_drop ?cN ?cS; (case cN => assumption); (case cS => kcj_all))))
end Mine
namespace Mine
theorem off_one {x y z : Addr} {o : Obj} (h1 : @LT.lt Nat _ x y) (h2 : @LT.lt Nat _ y z ∧ @LT.lt Nat _ x z) : OwnOff [(x, o)] [z, y] := by
  intro p hp b hb
  rw [List.mem_singleton.mp hp]
  rcases List.mem_cons.mp hb with rfl | hb
  · exact Nat.ne_of_lt h2.2
  · rw [List.mem_singleton.mp hb]; exact Nat.ne_of_lt h1
theorem mul_first {prog : Program} {w : World} {A : Around} {E : Value → Shared → Prop} {s : Shared} {v : Int} {j : Nat} {t u : Tok} {Q : Value → Shared → Prop} (h0 : 0 ≤ v) (h1 : v < 2 ^ 224) (h : ∀ x : Int, 0 ≤ x → x < 2 ^ 254 → Q (.int x s.toks) { s with toks := s.toks + 1 }) :
    wpAny (model prog w) A (binaryOp .Mult (.int v t) (.int (([1, 1000, 10 ^ Int.toNat 9] : List Int).getD j 0) u)) Q E s := by
  have hb : 0 ≤ (([1, 1000, 10 ^ Int.toNat 9] : List Int).getD j 0) ∧ (([1, 1000, 10 ^ Int.toNat 9] : List Int).getD j 0) ≤ 1000000000 := by
    match j with
    | 0 => decide
    | 1 => decide
    | 2 => decide
    | n + 3 => exact ⟨by show (0 : Int) ≤ 0; decide, by show (0 : Int) ≤ 1000000000; decide⟩
  generalize (([1, 1000, 10 ^ Int.toNat 9] : List Int).getD j 0) = b at hb ⊢
  refine mul_int (h _ (Int.mul_nonneg h0 hb.1) ?_) (mul_ok (by omega) (by omega))
  have h2 : v * b ≤ v * 1000000000 := Int.mul_le_mul_of_nonneg_left hb.2 h0
  omega
theorem off_front {x y q : Addr × Obj} {wl l : Addr} (hx : @LT.lt Nat _ y.1 x.1 ∧ @LT.lt Nat _ wl x.1 ∧ @LT.lt Nat _ l x.1 ∧ @LT.lt Nat _ q.1 x.1) (hy : @LT.lt Nat _ wl y.1 ∧ @LT.lt Nat _ l y.1 ∧ @LT.lt Nat _ q.1 y.1) (h : OwnOff [q] [wl, l]) : OwnOff (x :: y :: [q]) [wl, l] :=
  off_cons (off_cons h hy.1 hy.2.1) hx.2.1 hx.2.2.1
section
variable {w : World} {loose : List Str} {mean : ExcName → Option Value} {mg mb : Str → Option Value} {dp un : Nat} {gd : Option (List Code)} {cn : Str} {cs : Scope} {a : Addr} {ccd : Value} {cl : List (Str × Addr)} {outer : List Env} {A₀ : Around} {base h₀ : Heap} {L : Addr} {m : Str → Option Value} {s : Shared}
    {wl l : Addr} {vs : List Value} {ns : List Int} {nn k : Nat} {i : Int} {t : Tok} {r : Int} {u : Tok} {n : Int} {tn : Tok} {x y q : Addr × Obj} {Q E : Value → Shared → Prop}
theorem draw_use2 (B : Below A₀ base outer h₀) (F : Fr h₀ L s.heap m) (X : (hd.heap_39 w.params).In h₀) (N : News h₀ L s.heap (x :: y :: (wl, wellOf l i t r u k) :: (l, listOf vs.toArray nn) :: [q])) (T : Top hd.view_39 loose mean mg mb h₀) (hk : cs.kind = .function)
    (hx : @LT.lt Nat _ y.1 x.1 ∧ @LT.lt Nat _ wl x.1 ∧ @LT.lt Nat _ l x.1 ∧ @LT.lt Nat _ q.1 x.1) (hy : @LT.lt Nat _ wl y.1 ∧ @LT.lt Nat _ l y.1 ∧ @LT.lt Nat _ q.1 y.1) (hoff : OwnOff [q] [wl, l]) (hlw : @LT.lt Nat _ l wl) (hi : IntsAre vs ns) (hlen : ns.length ≤ 40) (h0 : 0 ≤ i) (h1 : i ≤ 1000) (hr0 : 0 ≤ r) (hr1 : r ≤ 100) (hn0 : 0 < n) (hn1 : n < 2 ^ 256) (hd : dp + 1 < recursionLimit) (hu : un + 8 < cLine)
    (ret : ∀ v tv i' t' r' u' h' tk', 0 ≤ v → v < n → i' = i + 1 → 0 ≤ r' → r' ≤ 100 → Fr h₀ L h' m → News h₀ L h' (x :: y :: (wl, wellOf l i' t' r' u' k) :: (l, listOf vs.toArray nn) :: [q]) → Q (.int v tv) { s with heap := h', toks := tk' }) :
    wpAny (model PySem.Challenge.rw_sa0302_01.row.prog w) (ktrTop dp un gd cn cs L a ccd cl outer) (call (.ref 102) [.ref wl, .int n tn]) Q E s :=
  draw_use0 (own := x :: y :: [q]) (k := k) (nn := nn) (t := t) (u := u) B F X (cb_drop N (by intro p hp; simp only [List.mem_cons, List.not_mem_nil, or_false] at hp ⊢; rcases hp with h | h | h | h | h <;> simp [h])) T hk (off_front hx hy hoff) hlw hi hlen h0 h1 hr0 hr1 hn0 hn1 hd hu fun v tv i' t' r' u' h' tk' a1 a2 a3 a4 a5 F' N' => ret v tv i' t' r' u' h' tk' a1 a2 a3 a4 a5 F' (cb_drop N' (by intro p hp; simp only [List.mem_cons, List.not_mem_nil, or_false] at hp ⊢; rcases hp with h | h | h | h | h <;> simp [h]))
end
theorem pow_fits {b many x : Int} (hb0 : 0 ≤ b) (hb : b ≤ 9) (h1 : many ≤ 6) : PySem.IntMulOk (b ^ many.toNat) x := by
  refine PySem.IntMulOk.of_left (intBits_le_iff.mpr ?_)
  rw [Int.natAbs_pow]
  have a1 : b.natAbs ^ many.toNat ≤ 9 ^ many.toNat := Nat.pow_le_pow_left (by omega) _
  have a2 : 9 ^ many.toNat ≤ 9 ^ 6 := Nat.pow_le_pow_right (by decide) (by omega)
  have a3 : 9 ^ 6 < 2 ^ 64 := by decide
  omega
theorem le_big {n : Int} (h : n ≤ 6) : n ≤ 1000000 := by omega
structure St where
  i : Int
  r : Int
  fee : Int
  many : Int
  ti : Tok
  tr : Tok
  tf : Tok
  tm : Tok
abbrev ledOf (wl l : Addr) (vs : List Value) (k nn : Nat) (q : Addr × Obj) (c : St) : List (Addr × Obj) := [(wl, wellOf l c.i c.ti c.r c.tr k), (l, listOf vs.toArray nn), q]
abbrev psOf (c : St) : List (Str × Value) := [(Str.ofString "fee", .int c.fee c.tf), (Str.ofString "many", .int c.many c.tm)]
def Hold (first : Int) (pre : List Int) (c : St) : Prop := 0 ≤ c.i ∧ c.i ≤ 3 + 6 * (pre.length : Int) ∧ 0 ≤ c.r ∧ c.r ≤ 100 ∧ Inv first pre.length c.fee c.many
abbrev storedOf : List Str := [Str.ofString "limit", Str.ofString "spent", Str.ofString "after"]
section
variable {prog : Program} {w : World} {A : Around} {E : Value → Shared → Prop} {s : Shared} {env : Env} {h₀ : Heap} {x : Str} {body : List Stmt} {Q : Flow → Shared → Prop}
theorem law_loop {rr LL : Addr} {v first i r : Int} {t₀ u₀ v₀ ti tr tf tm : Tok} {m₀ : Str → Option Value} {wl l : Addr} {vs : List Value} {k nn : Nat} {x1 x2 x3 q : Addr × Obj}
    (hL : env.locals = LL) (hh : A.handled = none) (hr : IsRange s.heap rr 0 (1 + v) 1 t₀ u₀ v₀) (hv0 : 0 ≤ v) (hv1 : v < 6) (F : Fr h₀ LL s.heap m₀) (N : News h₀ LL s.heap (x1 :: x2 :: x3 :: (wl, wellOf l i ti r tr k) :: (l, listOf vs.toArray nn) :: [q]))
    (hq : OwnOff [q] [wl, l])
    (hf : m₀ (Str.ofString "fee") = some (.int first tf)) (hm : m₀ (Str.ofString "many") = some (.int 0 tm)) (i0 : 0 ≤ i) (i1 : i ≤ 3) (r0 : 0 ≤ r) (r1 : r ≤ 100) (f0 : 0 ≤ first) (f1 : first < 2 ^ 254)
    (turn : ∀ (pre : List Int) (ci cr cfee cmany : Int) (cti ctr ctf ctm : Tok) (kk : Int) t (u : Str → Option Value) h tk own, pre.length < 6 → 0 ≤ ci → ci ≤ 3 + 6 * (pre.length : Int) → ci ≤ 40 → 0 ≤ cr → cr ≤ 100 → 0 ≤ cfee → cfee < 3705346855594118253554271520278013051304639509300498049262642688253220148477952 → 0 ≤ cmany → cmany ≤ 6 → Inv first pre.length cfee cmany → OwnOff (q :: own) [wl, l] →
      Fr h₀ LL h (fun y => if y = x then some (.int kk t) else if y = Str.ofString "fee" then some (.int cfee ctf) else if y = Str.ofString "many" then some (.int cmany ctm) else if storedOf.contains y then u y else m₀ y) → News h₀ LL h ((wl, wellOf l ci cti cr ctr k) :: (l, listOf vs.toArray nn) :: q :: own) →
      wpAny (model prog w) A (execs body env) (InvPostN h₀ LL (KstS (ledOf wl l vs k nn q) psOf (fun _ => True) x storedOf m₀ (Hold first) (pre ++ [kk])) own [wl, l, q.1] { s with heap := h, toks := tk } Q) E { s with heap := h, toks := tk })
    (done : ∀ (ci cr cfee cmany : Int) (cti ctr ctf ctm : Tok) (u : Str → Option Value) h tk, 0 ≤ cfee → cfee < 3705346855594118253554271520278013051304639509300498049262642688253220148477952 → 0 ≤ cmany → cmany ≤ 6 → (7 : Int) ^ cmany.toNat * first ≤ (8 : Int) ^ cmany.toNat * cfee → (8 : Int) ^ cmany.toNat * (cfee + 8) ≤ (9 : Int) ^ cmany.toNat * (first + 8) →
      Fr h₀ LL h (fun y => if y = x then u y else if y = Str.ofString "fee" then some (.int cfee ctf) else if y = Str.ofString "many" then some (.int cmany ctm) else if storedOf.contains y then u y else m₀ y) → News h₀ LL h [(wl, wellOf l ci cti cr ctr k), (l, listOf vs.toArray nn), q] → Q .next { s with heap := h, toks := tk }) :
    wpAny (model prog w) A (pyIter (.ref rr)) (fun it s₂ => LoopAtV prog w A h₀ env x body Q E it s₂) E s := by
  subst hL
  have hn : Builtin.Range.rangeSize 0 (1 + v) 1 = (((1 + v).toNat : Nat) : Int) := by
    have := rangeSize_nat (0 : Int) (1 + v)
    simpa using this
  have hsm : Builtin.Range.small 0 (1 + v) 1 = true := small_one (by omega) (by omega) (by omega) (by omega)
  refine kst_range (ledOf wl l vs k nn q) psOf (fun _ => True) storedOf (Hold first) ⟨i, r, first, 0, ti, tr, tf, tm⟩ hh hr hsm hn F (kst_newsOf N fun p hp => .tail _ (.tail _ (.tail _ hp))) trivial ?_ ⟨i0, by simpa using i1, r0, r1, inv_start f0⟩ ?_ ?_
  · intro p hp
    rcases List.mem_cons.mp hp with rfl | hp
    · exact hf
    · rw [List.mem_singleton.mp hp]; exact hm
  · rintro c pre kk t u h tk own _ hlt hoff _ ⟨p1, p2, p3, p4, p5⟩ F₁ N₁
    have hl : pre.length < 6 := by omega
    have sm := inv_small p5 f0 f1 (by omega)
    have mn := inv_many p5
    refine turn pre c.i c.r c.fee c.many c.ti c.tr c.tf c.tm kk t u h tk own hl p1 p2 (by omega) p3 p4 sm.1 sm.2 mn.1 (by omega) p5 ?_ F₁ N₁
    intro p hp b hb
    rcases List.mem_cons.mp hp with rfl | hp
    · exact hq _ (.head _) b hb
    · refine hoff p hp b ?_
      rcases List.mem_cons.mp hb with rfl | hb
      · exact .head _
      · rw [List.mem_singleton.mp hb]; exact .tail _ (.head _)
  · rintro c u h tk _ ⟨p1, p2, p3, p4, p5⟩ F₁ N₁
    have hl : (rangeKs 0 (1 + v).toNat).length ≤ 6 := by rw [rangeKs_length]; omega
    have sm := inv_small p5 f0 f1 hl
    have mn := inv_many p5
    exact done c.i c.r c.fee c.many c.ti c.tr c.tf c.tm u h tk sm.1 sm.2 mn.1 (by omega) (inv_end1 p5) (inv_end2 p5) F₁ N₁
theorem turn_end {LL : Addr} {m' m₀ : Str → Option Value} {news' own : List (Addr × Obj)} {s₁ : Shared} {h' : Heap} {tk : Nat} {x : Str} {first kk i i' r' fee' many' : Int} {ti' tr' tf' tm' : Tok} {wl l : Addr} {vs : List Value} {k nn : Nat} {q : Addr × Obj} {pre : List Int}
    (F : Fr h₀ LL h' m') (N : News h₀ LL h' news') (hn : ∀ p ∈ [(wl, wellOf l i' ti' r' tr' k), (l, listOf vs.toArray nn), q], p ∈ news') (ho : ∀ p ∈ own, p ∈ news') (hf : m' (Str.ofString "fee") = some (.int fee' tf')) (hm : m' (Str.ofString "many") = some (.int many' tm'))
    (hr : ∀ z, z ≠ x → z ≠ Str.ofString "fee" → z ≠ Str.ofString "many" → storedOf.contains z = false → m' z = m₀ z) (i0 : 0 ≤ i') (hi : i ≤ 3 + 6 * (pre.length : Int)) (i1 : i' ≤ i + 6) (r0 : 0 ≤ r') (r1 : r' ≤ 100) (inv : Inv first (pre.length + 1) fee' many') :
    InvEndN h₀ LL (KstS (ledOf wl l vs k nn q) psOf (fun _ => True) x storedOf m₀ (Hold first) (pre ++ [kk])) own [wl, l, q.1] s₁ { s₁ with heap := h', toks := tk } :=
  kst_end (⟨i', r', fee', many', ti', tr', tf', tm'⟩ : St) F N hn ho rfl trivial
    (fun p hp => by
      rcases List.mem_cons.mp hp with rfl | hp
      · exact hf
      · rw [List.mem_singleton.mp hp]; exact hm)
    (fun z h1 h2 h3 => hr z h1 (h2 _ (.head _)) (h2 _ (.tail _ (.head _))) h3)
    ⟨i0, by rw [List.length_append]; show i' ≤ _; simp only [List.length_singleton]; omega, r0, r1, by rw [List.length_append]; exact inv⟩
theorem stored_ne {z : Str} (h : storedOf.contains z = false) : z ≠ Str.ofString "limit" ∧ z ≠ Str.ofString "spent" ∧ z ≠ Str.ofString "after" := by
  refine ⟨?_, ?_, ?_⟩ <;> (rintro rfl; revert h; decide)
end
end Mine
namespace Mine
section
variable {w : World} {loose : List Str} {mean : ExcName → Option Value} {mg mb : Str → Option Value} {dp un : Nat} {gd : Option (List Code)} {cn : Str} {cs : Scope} {a : Addr} {ccd : Value} {cl : List (Str × Addr)} {outer : List Env} {A₀ : Around} {base h₀ : Heap} {L : Addr} {m : Str → Option Value} {s : Shared}
    {own : List (Addr × Obj)} {wl l : Addr} {vs : List Value} {ns : List Int} {nn k : Nat} {i : Int} {t : Tok} {r : Int} {u : Tok} {Q E : Value → Shared → Prop}
theorem limits_use (B : Below A₀ base outer h₀) (F : Fr h₀ L s.heap m) (X : (hd.heap_39 w.params).In h₀) (N : News h₀ L s.heap ((wl, wellOf l i t r u k) :: (l, listOf vs.toArray nn) :: own)) (T : Top hd.view_39 loose mean mg mb h₀) (hk : cs.kind = .function)
    (hoff : OwnOff own [wl, l]) (hlw : @LT.lt Nat _ l wl) (hi : IntsAre vs ns) (hlen : ns.length ≤ 40) (h0 : 0 ≤ i) (h1 : i ≤ 990) (hr0 : 0 ≤ r) (hr1 : r ≤ 100) (hd : dp + 3 < recursionLimit) (hu : un + 24 < cLine)
    (ret : ∀ v tv i' t' r' u' h' tk', 0 ≤ v → v < 2 ^ 64 → 0 ≤ i' → i' = i + 2 → 0 ≤ r' → r' ≤ 100 → Fr h₀ L h' m → News h₀ L h' ((wl, wellOf l i' t' r' u' k) :: (l, listOf vs.toArray nn) :: own) → Q (.int v tv) { s with heap := h', toks := tk' }) :
    wpAny (model PySem.Challenge.rw_sa0302_01.row.prog w) (ktrTop dp un gd cn cs L a ccd cl outer) (call (.ref 109) [.ref wl]) Q E s :=
  limits w loose mean mg mb _ _ _ _ _ _ _ _ _ _ _ _ _ _ _ _ _ _ _ _ _ _ _ _ _ _ _ _ B F X N hoff hlw T hk hi hlen h0 h1 hr0 hr1 hd hu ret
theorem uses_use {g : Int} {tg : Tok} (B : Below A₀ base outer h₀) (F : Fr h₀ L s.heap m) (X : (hd.heap_39 w.params).In h₀) (N : News h₀ L s.heap ((wl, wellOf l i t r u k) :: (l, listOf vs.toArray nn) :: own)) (T : Top hd.view_39 loose mean mg mb h₀) (hk : cs.kind = .function)
    (hoff : OwnOff own [wl, l]) (hlw : @LT.lt Nat _ l wl) (hi : IntsAre vs ns) (hlen : ns.length ≤ 40) (h0 : 0 ≤ i) (h1 : i ≤ 990) (hr0 : 0 ≤ r) (hr1 : r ≤ 100) (g0 : 1 ≤ g) (g1 : g < 2 ^ 63) (hd : dp + 3 < recursionLimit) (hu : un + 24 < cLine)
    (ret : ∀ v tv i' t' r' u' h' tk', 0 ≤ v → v ≤ g + g → 0 ≤ i' → i' = i + 2 → 0 ≤ r' → r' ≤ 100 → Fr h₀ L h' m → News h₀ L h' ((wl, wellOf l i' t' r' u' k) :: (l, listOf vs.toArray nn) :: own) → Q (.int v tv) { s with heap := h', toks := tk' }) :
    wpAny (model PySem.Challenge.rw_sa0302_01.row.prog w) (ktrTop dp un gd cn cs L a ccd cl outer) (call (.ref 116) [.ref wl, .int g tg]) Q E s :=
  uses w loose mean mg mb _ _ _ _ _ _ _ _ _ _ _ _ _ _ _ _ _ _ _ _ _ _ _ _ _ _ _ _ _ _ B F X N hoff hlw T hk hi hlen h0 h1 hr0 hr1 g0 g1 hd hu ret
theorem rights_use {limit spent fee after : Int} {t1 t2 t3 t4 : Tok} (B : Below A₀ base outer h₀) (F : Fr h₀ L s.heap m) (X : (hd.heap_39 w.params).In h₀) (N : News h₀ L s.heap ((wl, wellOf l i t r u k) :: (l, listOf vs.toArray nn) :: own)) (T : Top hd.view_39 loose mean mg mb h₀) (hk : cs.kind = .function)
    (hoff : OwnOff own [wl, l]) (hlw : @LT.lt Nat _ l wl) (hi : IntsAre vs ns) (hlen : ns.length ≤ 40) (h0 : 0 ≤ i) (h1 : i ≤ 990) (hr0 : 0 ≤ r) (hr1 : r ≤ 100) (l0 : 2 ≤ limit) (l1 : limit < 2 ^ 64) (s0 : 0 ≤ spent) (s1 : spent ≤ Int.fdiv limit 2 + Int.fdiv limit 2) (f0 : 0 ≤ fee) (f1 : fee < 1897137590064188545819787018382342682267975428761855001222473056385648716020711424) (a0 : 0 ≤ after) (a1 : after ≤ 2 * fee + 1) (ea : after = aft (Int.fdiv limit 2) spent fee) (hd : dp + 8 < recursionLimit) (hu : un + 64 < cLine)
    (ret : ∀ i' t' r' u' h' tk', 0 ≤ i' → i' = i + 2 → 0 ≤ r' → r' ≤ 100 → BoundOk fee after → Fr h₀ L h' m → News h₀ L h' ((wl, wellOf l i' t' r' u' k) :: (l, listOf vs.toArray nn) :: own) → Q (.bool true) { s with heap := h', toks := tk' }) :
    wpAny (model PySem.Challenge.rw_sa0302_01.row.prog w) (ktrTop dp un gd cn cs L a ccd cl outer) (call (.ref 144) [.ref wl, .int limit t1, .int spent t2, .int fee t3, .int after t4]) Q E s :=
  rights w loose mean mg mb _ _ _ _ _ _ _ _ _ _ _ _ _ _ _ _ _ _ _ _ _ _ _ _ _ _ _ _ _ _ _ _ _ _ _ _ B F X N hoff hlw T hk hi hlen h0 h1 hr0 hr1 l0 l1 s0 s1 f0 f1 a0 a1 ea (half_ge l0) (half_lt (by omega) l1) half_two.1 hd hu
    fun i' t' r' u' h' tk' x1 x2 x3 x4 => ret i' t' r' u' h' tk' x1 x2 x3 x4 (ea ▸ bound_ok (half_ge l0) f0 s0 s1)
theorem refuses_use {limit fee : Int} {tl ts tf : Tok} (B : Below A₀ h₀ [] h₀) (F : Fr h₀ L s.heap m) (X : (hd.heap_39 w.params).In h₀) (N : News h₀ L s.heap own) (T : Top hd.view_39 loose mean mg mb h₀) (hk : cs.kind = .function)
    (l0 : 0 ≤ limit) (l1 : limit < 2) (hd : dp + 5 < recursionLimit) (hu : un + 40 < cLine) (ret : ∀ h' tk', Fr h₀ L h' m → News h₀ L h' own → Q .none { s with heap := h', toks := tk' }) :
    wpAny (model PySem.Challenge.rw_sa0302_01.row.prog w) (ktrTop dp un gd cn cs L a ccd [] []) (call (.ref 123) [.int limit tl, .int 0 ts, .int fee tf]) Q E s :=
  refuses w loose mean mg mb _ _ _ _ _ _ _ _ _ _ _ _ _ _ _ _ _ _ _ _ B F X N T hk l0 l1 (by rw [Int.fdiv_eq_ediv_of_nonneg _ (by decide)]; omega) hd hu ret
end
end Mine
open Mine
local macro_rules | `(tactic| k_room) => `(tactic| ktr_room)
local macro_rules | `(tactic| walk_at "call ref") => `(tactic| (k_here; (with_reducible show wpAny _ _ (call (Value.ref 102) _) _ _ _); k_dflt (first | (refine' draw_use0 ?k1 ?k2 ?k3 ?k4 ?k5 ?kK ?ko ?kl ?ki ?kn ?k6 ?k7 ?k8 ?k9 ?ka ?kb ?kd ?ku ?_; (case k1 => k_asm); (case k2 => k_asm); (case k3 => k_asm); (case k4 => assumption); (case k5 => k_asm); (case kK => first | exact rfl | assumption); (case ko => first | assumption | exact off_one (by assumption) (by assumption)); (case kl => first | assumption | exact And.left (by assumption)); (case ki => assumption); (case kn => first | assumption | omega); (case k6 => omega); (case k7 => omega); (case k8 => first | assumption | decide); (case k9 => first | assumption | decide); (case ka => first | decide | omega); (case kb => first | decide | omega); (case kd => ktr_room); (case ku => ktr_units)) | (refine' draw_use1 ?k1 ?k2 ?k3 ?k4 ?k5 ?kK ?kx ?ko ?kl ?ki ?kn ?k6 ?k7 ?k8 ?k9 ?ka ?kb ?kd ?ku ?_; (case k1 => k_asm); (case k2 => k_asm); (case k3 => k_asm); (case k4 => assumption); (case k5 => k_asm); (case kK => first | exact rfl | assumption); (case kx => assumption); (case ko => first | assumption | exact off_one (by assumption) (by assumption)); (case kl => first | assumption | exact And.left (by assumption)); (case ki => assumption); (case kn => first | assumption | omega); (case k6 => omega); (case k7 => omega); (case k8 => first | assumption | decide); (case k9 => first | assumption | decide); (case ka => first | decide | omega); (case kb => first | decide | omega); (case kd => ktr_room); (case ku => ktr_units))); intro v9 tv9 i9 t9 r9 u9 h9 tk9 a91 a92 a93 a94 a95 F9 N9; (try dsimp only); (try k_fold)))

local macro_rules | `(tactic| walk_at "binaryOp Mult int int") => `(tactic| (k_here; (with_reducible refine mul_int ?_ (mul_ok ?ka ?kb)); (case ka => omega); (case kb => omega)))
local macro_rules | `(tactic| walk_at "call ref") => `(tactic| (k_here; (with_reducible show wpAny _ _ (call (Value.ref 123) _) _ _ _); k_dflt (refine' beh_use ?k1 ?k2 ?k3 ?k4 ?k5 ?kK ?l0 ?l1 ?s0 ?s1 ?f0 ?f1 ?kd ?ku ?_; (case k1 => k_asm); (case k2 => k_asm); (case k3 => k_asm); (case k4 => assumption); (case k5 => k_asm); (case kK => first | exact rfl | assumption); (case l0 => assumption); (case l1 => assumption); (case s0 => first | omega | exact (menu2 (by assumption) (by assumption) _ (by omega)).1); (case s1 => first | omega | exact (menu2 (by assumption) (by assumption) _ (by omega)).2); (case f0 => assumption); (case f1 => omega); (case kd => ktr_room); (case ku => ktr_units)); intro v8 tv8 h8 tk8 e8 a81 a82 a83 a84 F8 N8; (try dsimp only); (try k_fold)))
local macro_rules | `(tactic| walk_at "call ref") => `(tactic| (k_here; (with_reducible show wpAny _ _ (call (Value.ref 130) _) _ _ _); k_dflt (refine' steps_use ?k1 ?k2 ?k3 ?k4 ?k5 ?kK ?g0 ?g1 ?s0 ?s1 ?f0 ?f1 ?a0 ?a1 ?e ?kd ?ku ?_; (case k1 => k_asm); (case k2 => k_asm); (case k3 => k_asm); (case k4 => assumption); (case k5 => k_asm); (case kK => first | exact rfl | assumption); (case g0 => assumption); (case g1 => assumption); (case s0 => assumption); (case s1 => omega); (case f0 => assumption); (case f1 => omega); (case a0 => assumption); (case a1 => omega); (case e => assumption); (case kd => ktr_room); (case ku => ktr_units)); intro h8 tk8 F8 N8; (try dsimp only); (try k_fold)))
local macro_rules | `(tactic| walk_at "call ref") => `(tactic| (k_here; (with_reducible show wpAny _ _ (call (Value.ref 137) _) _ _ _); k_dflt (refine' bounds_use ?k1 ?k2 ?k3 ?k4 ?k5 ?kK ?e ?g0 ?s0 ?s1 ?f0 ?f1 ?a0 ?a1 ?kd ?ku ?_; (case k1 => k_asm); (case k2 => k_asm); (case k3 => k_asm); (case k4 => assumption); (case k5 => k_asm); (case kK => first | exact rfl | assumption); (case e => assumption); (case g0 => assumption); (case s0 => assumption); (case s1 => assumption); (case f0 => assumption); (case f1 => omega); (case a0 => assumption); (case a1 => omega); (case kd => ktr_room); (case ku => ktr_units)); intro h8 tk8 F8 N8; (try dsimp only); (try k_fold)))
local macro_rules | `(tactic| walk_at "call ref") => `(tactic| (k_here; (with_reducible show wpAny _ _ (call (Value.ref 102) _) _ _ _); k_dflt (refine' draw_use2 ?k1 ?k2 ?k3 ?k4 ?k5 ?kK ?kx ?ky ?ko ?kl ?ki ?kn ?k6 ?k7 ?k8 ?k9 ?ka ?kb ?kd ?ku ?_; (case k1 => k_asm); (case k2 => k_asm); (case k3 => k_asm); (case k4 => assumption); (case k5 => k_asm); (case kK => first | exact rfl | assumption); (case kx => assumption); (case ky => assumption); (case ko => first | assumption | exact off_one (by assumption) (by assumption)); (case kl => first | assumption | exact And.left (by assumption)); (case ki => assumption); (case kn => first | assumption | omega); (case k6 => omega); (case k7 => omega); (case k8 => first | assumption | decide); (case k9 => first | assumption | decide); (case ka => first | decide | omega); (case kb => first | decide | omega); (case kd => ktr_room); (case ku => ktr_units)); intro v9 tv9 i9 t9 r9 u9 h9 tk9 a91 a92 a93 a94 a95 F9 N9; (try dsimp only); (try k_fold)))
local macro_rules | `(tactic| walk_at "binaryOp Mult int int") => `(tactic| (k_here; (with_reducible show wpAny _ _ (binaryOp _ (Value.int _ _) (Value.int (List.getD _ _ _) _)) _ _ _); k_dflt (refine' mul_first ?ka ?kb ?_; (case ka => assumption); (case kb => assumption)); intro x9 x90 x91))
local macro_rules | `(tactic| walk_at "call ref") => `(tactic| (k_here; (with_reducible show wpAny _ _ (call (Value.ref 109) _) _ _ _); (k_dflt (refine' limits_use ?k1 ?k2 ?k3 ?k4 ?k5 ?kK ?ko ?kl ?ki ?kn ?k6 ?k7 ?k8 ?k9 ?kd ?ku ?_; (case k1 => k_asm); (case k2 => k_asm); (case k3 => k_asm); (case k4 => assumption); (case k5 => k_asm); (case kK => first | exact rfl | assumption); (case ko => assumption); (case kl => first | assumption | exact And.left (by assumption)); (case ki => assumption); (case kn => first | assumption | omega); (case k6 => first | assumption | omega); (case k7 => omega); (case k8 => assumption); (case k9 => assumption); (case kd => ktr_room); (case ku => ktr_units)); intro v9 tv9 i9 t9 r9 u9 h9 tk9 a91 a92 a96 a93 a94 a95 F9 N9; (try dsimp only); (try k_fold))))
local macro_rules | `(tactic| walk_at "call ref") => `(tactic| (k_here; (with_reducible show wpAny _ _ (call (Value.ref 116) _) _ _ _); (k_dflt (refine' uses_use ?k1 ?k2 ?k3 ?k4 ?k5 ?kK ?ko ?kl ?ki ?kn ?k6 ?k7 ?k8 ?k9 ?g0 ?g1 ?kd ?ku ?_; (case k1 => k_asm); (case k2 => k_asm); (case k3 => k_asm); (case k4 => assumption); (case k5 => k_asm); (case kK => first | exact rfl | assumption); (case ko => assumption); (case kl => first | assumption | exact And.left (by assumption)); (case ki => assumption); (case kn => first | assumption | omega); (case k6 => first | assumption | omega); (case k7 => omega); (case k8 => assumption); (case k9 => assumption); (case g0 => exact half_ge (by omega)); (case g1 => exact half_lt (by assumption) (by assumption)); (case kd => ktr_room); (case ku => ktr_units)); intro v9 tv9 i9 t9 r9 u9 h9 tk9 a91 a92 a96 a93 a94 a95 F9 N9; (try dsimp only); (try k_fold))))
local macro_rules | `(tactic| walk_at "call ref") => `(tactic| (k_here; (with_reducible show wpAny _ _ (call (Value.ref 123) _) _ _ _); (k_dflt (first | (refine' beh_use ?k1 ?k2 ?k3 ?k4 ?k5 ?kK ?l0 ?l1 ?s0 ?s1 ?f0 ?f1 ?kd ?ku ?_; (case k1 => k_asm); (case k2 => k_asm); (case k3 => k_asm); (case k4 => assumption); (case k5 => k_asm); (case kK => first | exact rfl | assumption); (case l0 => omega); (case l1 => assumption); (case s0 => assumption); (case s1 => exact Int.le_trans (by assumption) half_two.1); (case f0 => assumption); (case f1 => omega); (case kd => ktr_room); (case ku => ktr_units); intro v8 tv8 h8 tk8 e8 a81 a82 a83 a84 F8 N8) | (refine' refuses_use ?k1 ?k2 ?k3 ?k4 ?k5 ?kK ?l0 ?l1 ?kd ?ku ?_; (case k1 => k_asm); (case k2 => k_asm); (case k3 => k_asm); (case k4 => assumption); (case k5 => k_asm); (case kK => first | exact rfl | assumption); (case l0 => assumption); (case l1 => assumption); (case kd => ktr_room); (case ku => ktr_units); intro h8 tk8 F8 N8)); (try dsimp only); (try k_fold))))
local macro_rules | `(tactic| walk_at "call ref") => `(tactic| (k_here; (with_reducible show wpAny _ _ (call (Value.ref 144) _) _ _ _); (k_dflt (refine' rights_use ?k1 ?k2 ?k3 ?k4 ?k5 ?kK ?ko ?kl ?ki ?kn ?k6 ?k7 ?k8 ?k9 ?l0 ?l1 ?s0 ?s1 ?f0 ?f1 ?a0 ?a1 ?ea ?kd ?ku ?_; (case k1 => k_asm); (case k2 => k_asm); (case k3 => k_asm); (case k4 => assumption); (case k5 => k_asm); (case kK => first | exact rfl | assumption); (case ko => assumption); (case kl => first | assumption | exact And.left (by assumption)); (case ki => assumption); (case kn => first | assumption | omega); (case k6 => first | assumption | omega); (case k7 => omega); (case k8 => assumption); (case k9 => assumption); (case l0 => omega); (case l1 => assumption); (case s0 => assumption); (case s1 => assumption); (case f0 => assumption); (case f1 => omega); (case a0 => assumption); (case a1 => assumption); (case ea => assumption); (case kd => ktr_room); (case ku => ktr_units)); intro i9 t9 r9 u9 h9 tk9 a96 a93 a94 a95 b9 F9 N9; (try dsimp only); (try k_fold))))
local macro_rules | `(tactic| walk_at "binaryOp Mult int int") => `(tactic| (k_here; (with_reducible refine mul_int ?_ (pow_fits ?ka ?kb ?kc)); (case ka => decide); (case kb => decide); (case kc => assumption)))
local macro_rules | `(tactic| walk_at "binaryOp Pow int int") => `(tactic| (k_here; (with_reducible refine pow_int_small ?kb1 ?kb2 ?kb3 ?_); (case kb1 => (with_reducible assumption)); (case kb2 => (with_reducible exact le_big (by assumption))); (case kb3 => decide)))
local macro_rules | `(tactic| walk_at "InvEndN") => `(tactic| ((k_dflt (refine' turn_end ?F ?N ?hn ?ho ?hf ?hm ?hr ?i0 ?hi ?i1 ?r0 ?r1 ?inv; (case F => assumption); (case N => assumption); (case hf => with_unfolding_all rfl); (case hm => with_unfolding_all rfl); (case hn => k_allIn); (case ho => (intro p hp; k_ownIn)); (case hr => (intro z z1 z2 z3 z4; obtain ⟨z5, z6, z7⟩ := stored_ne z4; first | rfl | (simp [z1, z2, z3, z4, z5, z6, z7]; done))); (case hi => assumption); (case i0 => assumption); (case i1 => omega); (case r0 => assumption); (case r1 => assumption); (case inv => first | exact inv_skip (by assumption) | exact inv_step (by assumption) (by assumption) (by assumption) (by assumption))))))
local macro_rules | `(tactic| walk_at "pyIter ref") => `(tactic| ((k_here; (rename Fr _ _ _ _ => lF'); (rename News _ _ _ _ => lN'); (rename IsRange _ _ _ _ _ _ _ _ => rgX); (with_unfolding_all refine' law_loop ?hL ?hh rgX ?v0 ?v1 lF' lN' ?hq ?hf ?hm ?i0 ?i1 ?r0 ?r1 ?f0 ?f1 ?g1 ?g2); (case hL => with_unfolding_all rfl); (case hh => with_unfolding_all rfl); (case hq => exact off_one (by assumption) (by assumption)); (case hf => with_unfolding_all rfl); (case hm => with_unfolding_all rfl); (case v0 => assumption); (case v1 => assumption); (case i0 => omega); (case i1 => omega); (case r0 => assumption); (case r1 => assumption); (case f0 => assumption); (case f1 => assumption); (case' g1 => (intro pre9 ci cr cfee cmany cti ctr ctf ctm kk9 tkk9 u9 h9 tk9 own9 q91 q92 q93 q94 q95 q96 q97 q98 q99 q9a qInv qOff F9 N9)); (case' g2 => (intro ci cr cfee cmany cti ctr ctf ctm u9 h9 tk9 q97 q98 q99 q9a qE1 qE2 F9 N9)); (all_goals (try k_fold)))))
local macro_rules | `(tactic| walk_at "call type:range") => `(tactic| ((rename Fr _ _ _ _ => F'); (rename News _ _ _ _ => N'); (with_unfolding_all refine range1_rows F' N' ?_; intro _ _ _ _ _ _ _ _ _)))
set_option maxRecDepth 100000 in
set_option maxHeartbeats 8000000 in
theorem PySem.Challenge.cw_sa0302_01_holds : PySem.Challenge.rw_sa0302_01.Holds := by
  exact Mine.hd (by (k_go0; (all_goals try k_fold); k_steps))
