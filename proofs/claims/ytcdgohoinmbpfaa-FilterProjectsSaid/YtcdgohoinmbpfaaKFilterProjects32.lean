import Derived.Test.YtcdgohoinmbpfaaKFilterProjects30
import Derived.Test.YtcdgohoinmbpfaaKFilterProjects19
/- Plain numbers: what ints.Do gives. -/
namespace Go.Proofs.Ytcdgohoinmbpfaa.M
open Go.RowKit Go.Proofs.YtcdgohoinmbpfaaW.PrintWords Go.Proofs.YtcdgohoinmbpfaaW.PrintLast Go.Proofs.YtcdgohoinmbpfaaW.PrintMore
set_option linter.unusedVariables false
set_option linter.unusedSimpArgs false

/-- A number of 64 bits. -/
def Rng (x : Int) : Prop := -9223372036854775808 ≤ x ∧ x < 9223372036854775808
theorem rng_wrap (x : Int) : Rng (wrap64 x) := by unfold Rng wrap64; omega
theorem and63 (b : Int) : Go.bits .and .i64 b 63 = b % 64 := by
  have h : (BitVec.ofInt 64 b &&& BitVec.ofInt 64 63).toNat = (b % 64).toNat := by
    rw [BitVec.toNat_and, BitVec.toNat_ofInt, show (BitVec.ofInt 64 63).toNat = 2 ^ 6 - 1 from rfl, Nat.and_two_pow_sub_one_eq_mod]
    omega
  have e : Go.bits .and .i64 b 63 = IntKind.i64.wrap ((BitVec.ofInt 64 b &&& BitVec.ofInt 64 63).toNat : Int) := rfl
  rw [e, h, i64_w, w64 (by omega) (by omega)]
  omega
theorem or_zero {a b : Int} (ha : Rng a) (hb : Rng b) : (Go.bits .or .i64 a b != 0) = (a != 0 || b != 0) := by
  have e : Go.bits .or .i64 a b = wrap64 ((BitVec.ofInt 64 a ||| BitVec.ofInt 64 b).toNat : Int) := (show Go.bits .or .i64 a b = IntKind.i64.wrap ((BitVec.ofInt 64 a ||| BitVec.ofInt 64 b).toNat : Int) from rfl).trans (i64_w _)
  have hlt := (BitVec.ofInt 64 a ||| BitVec.ofInt 64 b).isLt
  have hz : ∀ x : Int, Rng x → (BitVec.ofInt 64 x = 0#64 ↔ x = 0) := by
    intro x hx
    unfold Rng at hx
    constructor
    · intro h
      have := congrArg BitVec.toNat h
      rw [BitVec.toNat_ofInt] at this
      simp at this
      omega
    · rintro rfl; rfl
  have hor : BitVec.ofInt 64 a ||| BitVec.ofInt 64 b = 0#64 ↔ a = 0 ∧ b = 0 := by
    rw [BitVec.or_eq_zero_iff, hz a ha, hz b hb]
  rw [e, Bool.eq_iff_iff, bne_iff_ne, Bool.or_eq_true, bne_iff_ne, bne_iff_ne]
  have hw : wrap64 ((BitVec.ofInt 64 a ||| BitVec.ofInt 64 b).toNat : Int) = 0 ↔ BitVec.ofInt 64 a ||| BitVec.ofInt 64 b = 0#64 := by
    constructor
    · intro h
      apply BitVec.eq_of_toNat_eq
      unfold wrap64 at h
      simp only [BitVec.toNat_ofNat]
      omega
    · intro h; rw [h]; exact w64 (x := 0) (by decide) (by decide)
  rw [Ne, hw, hor]
  omega
theorem rng_half {x : Int} (hx : Rng x) (n : Nat) : Rng (x / 2 ^ n) := by
  induction n with
  | zero => simpa using hx
  | succ n ih =>
    rw [Int.pow_succ, ← Int.ediv_ediv_of_nonneg (Int.pow_nonneg (by decide))]
    unfold Rng at ih ⊢
    omega
/-- What an operator gives. -/
def opv (k x y : Int) : Int := ((ints_Do.f k x y).getD (0, 0)).1
theorem kinds15 {k : Int} (h : 5 ≤ k ∧ k ≤ 19) : k = 5 ∨ k = 6 ∨ k = 7 ∨ k = 8 ∨ k = 9 ∨ k = 10 ∨ k = 11 ∨ k = 12 ∨ k = 13 ∨ k = 14 ∨ k = 15 ∨ k = 16 ∨ k = 17 ∨ k = 18 ∨ k = 19 := by omega
theorem truth_eq (b : Bool) : ints_truth.f b = some (if b = true then 1 else 0) := by cases b <;> rfl
theorem do_eq {k : Int} (h : 5 ≤ k ∧ k ≤ 19) (x y : Int) : ints_Do.f k x y = some (opv k x y, 0) := by
  have hb : 0 ≤ y % 64 := by omega
  unfold opv
  rcases kinds15 h with rfl | rfl | rfl | rfl | rfl | rfl | rfl | rfl | rfl | rfl | rfl | rfl | rfl | rfl | rfl <;> simp [ints_Do.f, truth_eq, and63, hb]
  split <;> rfl
/-- Operators of one part don't see the second. -/
theorem opv_one {k : Int} (h : 5 ≤ k ∧ k ≤ 6) (x y z : Int) : opv k x y = opv k x z := by
  have : k = 5 ∨ k = 6 := by omega
  rcases this with rfl | rfl <;> simp [opv, ints_Do.f]
theorem opv_rng {k : Int} (h : 5 ≤ k ∧ k ≤ 19) {x y : Int} (hx : Rng x) : Rng (opv k x y) := by
  have hb : 0 ≤ y % 64 := by omega
  have h01 : ∀ b : Bool, Rng (if b = true then 1 else 0) := by intro b; cases b <;> (unfold Rng; decide)
  have hs : shl .i64 x (y % 64) = wrap64 (x * 2 ^ min (y % 64).toNat 64) := i64_w _
  have hs' : Rng (shr .i64 x (y % 64)) := rng_half hx _
  have hw := fun z => rng_wrap z
  unfold opv
  rcases kinds15 h with rfl | rfl | rfl | rfl | rfl | rfl | rfl | rfl | rfl | rfl | rfl | rfl | rfl | rfl | rfl <;> simp only [ints_Do.f, truth_eq, and63, hb, if_true, Option.bind_some, Option.getD_some, Int.reduceEq, if_false]
  case inr.inr.inr.inr.inr.inl => rw [hs]; exact hw _
  case inr.inr.inr.inr.inr.inr.inl => exact hs'
  all_goals first | exact hw _ | exact h01 _ | (split <;> (simp only [Option.getD_some]; exact h01 _))
end Go.Proofs.Ytcdgohoinmbpfaa.M
