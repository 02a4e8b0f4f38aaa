import Derived.Test.YtcdgohoinmbpfaaKFilterTwice25
import Derived.Test.YtcdgohoinmbpfaaKFilterTwice28
import Derived.Test.YtcdgohoinmbpfaaKFilterTwice30
namespace Go.Proofs.Ytcdgohoinmbpfaa.M
open Go.RowKit Go.Proofs.YtcdgohoinmbpfaaW.PrintWords Go.Proofs.YtcdgohoinmbpfaaW.PrintLast Go.Proofs.YtcdgohoinmbpfaaW.PrintMore
set_option linter.unusedVariables false
set_option linter.unusedSimpArgs false

theorem count_eq {b : Int} (hb : Rng b) : tailwaterref01_Count.f b = some (b % 64) := by
  unfold tailwaterref01_Count.f
  unfold Rng at hb
  have e : IntKind.u64.wrap b = b % 18446744073709551616 := rfl
  rw [e, Int.tmod_eq_emod_of_nonneg (by omega), w64 (by omega) (by omega)]
  congr 1
  omega
theorem wrap_add (x : Int) : wrap64 (wrap64 x + wrap64 x) = wrap64 (x + x) := by unfold wrap64; omega
theorem power_go {n : Int} (hn : 0 ≤ n) (hn' : n < 64) : ∀ (d i : Nat), (i : Int) + d = n → ∀ k, d < k → tailwaterref01_power.l0 k n (wrap64 (2 ^ i)) i = some (wrap64 (2 ^ n.toNat)) := by
  intro d
  induction d with
  | zero =>
    intro i hi k hk
    obtain ⟨k, rfl⟩ : ∃ m, k = m + 1 := ⟨k - 1, by omega⟩
    rw [tailwaterref01_power.l0, if_neg (by omega), show n.toNat = i by omega]
  | succ d ih =>
    intro i hi k hk
    obtain ⟨k, rfl⟩ : ∃ m, k = m + 1 := ⟨k - 1, by omega⟩
    have hw1 : wrap64 ((i : Int) + 1) = ((i + 1 : Nat) : Int) := by rw [w64 (by omega) (by omega)]; omega
    have h2 : (2 : Int) ^ (i + 1) = 2 ^ i + 2 ^ i := by rw [Int.pow_succ]; omega
    have := ih (i + 1) (by omega) k (by omega)
    rw [tailwaterref01_power.l0, if_pos (by omega), wrap_add, hw1, ← h2]
    exact this
theorem power_eq {n : Int} (hn : 0 ≤ n) (hn' : n < 64) {k : Nat} (hk : 64 < k) : tailwaterref01_power.f k n = some (wrap64 (2 ^ n.toNat)) := by
  unfold tailwaterref01_power.f
  have := power_go hn hn' n.toNat 0 (by omega) k (by omega)
  rw [show wrap64 (2 ^ 0) = 1 from w64 (x := 1) (by decide) (by decide)] at this
  exact this
theorem tdiv2 (x : Int) : (0 ≤ x ∧ Int.tdiv x 2 = x / 2 ∧ Int.tmod x 2 = x % 2) ∨ (x < 0 ∧ Int.tdiv x 2 = -((-x) / 2) ∧ Int.tmod x 2 = -((-x) % 2)) := by
  by_cases h : 0 ≤ x
  · exact .inl ⟨h, Int.tdiv_eq_ediv_of_nonneg h, Int.tmod_eq_emod_of_nonneg h⟩
  · have h1 : Int.tdiv (-(-x)) 2 = -(Int.tdiv (-x) 2) := Int.neg_tdiv ..
    have h2 : Int.tmod (-(-x)) 2 = -(Int.tmod (-x) 2) := Int.neg_tmod ..
    have h3 : 0 ≤ -x := by omega
    rw [Int.neg_neg, Int.tdiv_eq_ediv_of_nonneg h3] at h1
    rw [Int.neg_neg, Int.tmod_eq_emod_of_nonneg h3] at h2
    exact .inr ⟨by omega, h1, h2⟩
theorem half_eq {x : Int} (hx : Rng x) : tailwaterref01_half.f x = some (x / 2) := by
  unfold tailwaterref01_half.f
  unfold Rng at hx
  have ht := tdiv2 x
  have h1 : wrap64 (Int.tdiv x 2) = Int.tdiv x 2 := w64 (by omega) (by omega)
  rw [h1]
  by_cases h : Int.tmod x 2 < 0
  · rw [if_pos h, w64 (by omega) (by omega)]; congr 1; omega
  · rw [if_neg h]; congr 1; omega
theorem given_go {x b : Int} (hx : Rng x) (hb : Rng b) : ∀ (d i : Nat), (i : Int) + d = b % 64 → ∀ k, d < k → tailwaterref01_Given.l0 k (x / 2 ^ i) b i = some (x / 2 ^ (b % 64).toNat) := by
  intro d
  induction d with
  | zero =>
    intro i hi k hk
    obtain ⟨k, rfl⟩ : ∃ m, k = m + 1 := ⟨k - 1, by omega⟩
    rw [tailwaterref01_Given.l0, count_eq hb, Option.bind_some, if_neg (by omega), show (b % 64).toNat = i by omega]
  | succ d ih =>
    intro i hi k hk
    obtain ⟨k, rfl⟩ : ∃ m, k = m + 1 := ⟨k - 1, by omega⟩
    have hw1 : wrap64 ((i : Int) + 1) = ((i + 1 : Nat) : Int) := by rw [w64 (by omega) (by omega)]; omega
    have h2 : x / 2 ^ i / 2 = x / 2 ^ (i + 1) := by rw [Int.pow_succ, ← Int.ediv_ediv_of_nonneg (Int.pow_nonneg (by decide))]
    have := ih (i + 1) (by omega) k (by omega)
    rw [tailwaterref01_Given.l0, count_eq hb, Option.bind_some, if_pos (by omega), half_eq (rng_half hx i), Option.bind_some, hw1, h2]
    exact this
theorem wrap_mul (x y : Int) : wrap64 (x * wrap64 y) = wrap64 (x * y) := by
  have h : ∀ z : Int, wrap64 z = Int.bmod z 18446744073709551616 := by
    intro z
    rw [Int.bmod_def]
    unfold wrap64
    split <;> omega
  rw [h, h, h, Int.mul_bmod_bmod]
theorem truth_eq' (b : Bool) : tailwaterref01_Truth.f b = some (if b = true then 1 else 0) := by cases b <;> rfl
theorem given_eq {k : Int} (h : 5 ≤ k ∧ k ≤ 19) {x y : Int} (hx : Rng x) (hy : Rng y) {n : Nat} (hn : 64 < n) : tailwaterref01_Given.f n k x y = some (opv k x y) := by
  have hb : 0 ≤ y % 64 := by omega
  have hb' : y % 64 < 64 := by omega
  have hs : shl .i64 x (y % 64) = wrap64 (x * 2 ^ (y % 64).toNat) := by
    rw [← show min (y % 64).toNat IntKind.i64.bits = (y % 64).toNat from Nat.min_eq_left (by show _ ≤ 64; omega)]; exact i64_w _
  have hs' : shr .i64 x (y % 64) = x / 2 ^ (y % 64).toNat := by
    rw [← show min (y % 64).toNat IntKind.i64.bits = (y % 64).toNat from Nat.min_eq_left (by show _ ≤ 64; omega)]; rfl
  have hg := given_go hx hy (y % 64).toNat 0 (by omega) n (by omega)
  have hg' : tailwaterref01_Given.l0 n x y 0 = some (x / 2 ^ (y % 64).toNat) := by simpa using hg
  unfold opv
  rcases kinds15 h with rfl | rfl | rfl | rfl | rfl | rfl | rfl | rfl | rfl | rfl | rfl | rfl | rfl | rfl | rfl
  all_goals simp only [ints_Do.f, tailwaterref01_Given.f, tailwaterref01_Compare.f, truth_eq, truth_eq', and63, hb, if_true, Option.bind_some, Option.getD_some, Int.reduceEq, if_false, count_eq hy, power_eq hb hb' hn, wrap_mul, hs, hs', hg']
  case inr.inr.inr.inr.inr.inr.inr.inr.inl => 
    by_cases h1 : x < y
    · simp [h1, Int.le_of_lt h1]
    · simp only [h1, if_false, Option.bind_some]
      have : decide (x ≤ y) = (x == y) := by rw [Bool.eq_iff_iff, decide_eq_true_iff, beq_iff_eq]; omega
      rw [this]
  case inr.inr.inr.inr.inr.inr.inr.inr.inr.inr.inl =>
    by_cases h1 : y < x
    · have h2 : x ≥ y := Int.le_of_lt h1
      simp [h1, h2]
    · simp only [h1, if_false, Option.bind_some]
      have : decide (x ≥ y) = (x == y) := by rw [Bool.eq_iff_iff, decide_eq_true_iff, beq_iff_eq]; omega
      rw [this]
  case inr.inr.inr.inr.inr.inr.inr.inr.inr.inr.inr.inr.inr.inl =>
    split <;> rfl
  case inr.inr.inr.inr.inr.inr.inr.inr.inr.inr.inr.inr.inr.inr =>
    rw [or_zero hx hy]
    by_cases h1 : x = 0
    · simp [h1]
    · simp [h1]
open Ex in
theorem value_sub {a b c : Int} (ha : Rng a) (hb : Rng b) (hc : Rng c) {e : Ex} (he : e.Ok) (hr : ∀ x ∈ e.ser 0, Rng x.f1) : ∀ (s : Ex) (o : Nat), Sub e o s → ∀ k, s.depth + 70 < k → tailwaterref07_Value.f k (e.ser 0) ((o + s.size - 1 : Nat) : Int) a b c = some (s.val a b c)
  | leaf n m t, o, h, k, hk => by
    obtain ⟨k, rfl⟩ : ∃ m, k = m + 1 := ⟨k - 1, by omega⟩
    have hs := h.size
    have hrd := rd_sub h
    have h1 := (h.ok he).1
    rw [tailwaterref07_Value.f, if_pos (by omega), ser_len, if_pos (by simp only [size] at hs ⊢; omega), hrd]
    have e0 : (root o (leaf n m t)).f0 = n := rfl
    have e1 : (root o (leaf n m t)).f1 = m := rfl
    rw [e0, e1]
    unfold val leafVal
    by_cases k1 : n = 1
    · rw [if_pos k1, if_pos k1]
    · rw [if_neg k1, if_neg k1]
      by_cases k2 : n = 2
      · rw [if_pos k2, if_pos k2]
      · rw [if_neg k2, if_neg k2]
        by_cases k3 : n = 3
        · rw [if_pos k3, if_pos k3]
        · rw [if_neg k3, if_neg k3, if_pos (by omega)]
  | one n t x, o, h, k, hk => by
    obtain ⟨k, rfl⟩ : ∃ m, k = m + 1 := ⟨k - 1, by omega⟩
    have hs := h.size
    have hrd := rd_sub h
    have hx : Sub e o x := by have := h.trans (.one (.refl x)); rwa [Nat.add_zero] at this
    have h1 := (h.ok he).1
    have hn : ¬ n = 1 ∧ ¬ n = 2 ∧ ¬ n = 3 ∧ ¬ n = 4 ∧ ¬ n ≤ 4 ∧ n ≤ 6 := by omega
    have hv := value_sub ha hb hc he hr x o hx k (by simp only [depth] at hk; omega)
    have hrg : Rng (x.val a b c) := by
      obtain ⟨p, q, e1, e2⟩ := hx.ser 0
      exact val_rng ha hb hc x (0 + o) (hx.ok he) (fun y hy => hr y (by rw [e1]; exact List.mem_append_right _ (List.mem_append_left _ hy)))
    rw [tailwaterref07_Value.f, if_pos (by omega), ser_len, if_pos (by simp only [size] at hs ⊢; omega), hrd]
    have e0 : (root o (one n t x)).f0 = n := rfl
    have e1 : (root o (one n t x)).f2 = ((o + x.size - 1 : Nat) : Int) := rfl
    rw [e0, e1, if_neg hn.1, if_neg hn.2.1, if_neg hn.2.2.1, if_neg hn.2.2.2.1, Count_eq, if_neg hn.2.2.2.2.1, if_pos hn.2.2.2.2.2, Option.bind_some, if_neg (by decide), hv, Option.bind_some, given_eq ⟨by omega, by omega⟩ hrg (by unfold Rng; decide) (by omega), Option.bind_some]
    rfl
  | two n t x y, o, h, k, hk => by
    obtain ⟨k, rfl⟩ : ∃ m, k = m + 1 := ⟨k - 1, by omega⟩
    have hs := h.size
    have hrd := rd_sub h
    have hx : Sub e o x := by have := h.trans (.left (.refl x)); rwa [Nat.add_zero] at this
    have hy : Sub e (o + x.size) y := by have := h.trans (.right (.refl y)); rwa [Nat.add_zero] at this
    have h1 := (h.ok he).1
    have hn : ¬ n = 1 ∧ ¬ n = 2 ∧ ¬ n = 3 ∧ ¬ n = 4 ∧ ¬ n ≤ 4 ∧ ¬ n ≤ 6 := by omega
    have hv := value_sub ha hb hc he hr x o hx k (by simp only [depth] at hk; omega)
    have hv' := value_sub ha hb hc he hr y (o + x.size) hy k (by simp only [depth] at hk; omega)
    have hrg : Rng (x.val a b c) := by
      obtain ⟨p, q, e1, e2⟩ := hx.ser 0
      exact val_rng ha hb hc x (0 + o) (hx.ok he) (fun y hy => hr y (by rw [e1]; exact List.mem_append_right _ (List.mem_append_left _ hy)))
    have hrg' : Rng (y.val a b c) := by
      obtain ⟨p, q, e1, e2⟩ := hy.ser 0
      exact val_rng ha hb hc y (0 + (o + x.size)) (hy.ok he) (fun z hz => hr z (by rw [e1]; exact List.mem_append_right _ (List.mem_append_left _ hz)))
    rw [tailwaterref07_Value.f, if_pos (by omega), ser_len, if_pos (by simp only [size] at hs ⊢; omega), hrd]
    have e0 : (root o (two n t x y)).f0 = n := rfl
    have e1 : (root o (two n t x y)).f2 = ((o + x.size - 1 : Nat) : Int) := rfl
    have e2 : (root o (two n t x y)).f3 = ((o + x.size + y.size - 1 : Nat) : Int) := rfl
    rw [e0, e1, e2, if_neg hn.1, if_neg hn.2.1, if_neg hn.2.2.1, if_neg hn.2.2.2.1, Count_eq, if_neg hn.2.2.2.2.1, if_neg hn.2.2.2.2.2, Option.bind_some, if_pos rfl, hv', Option.bind_some, hv, Option.bind_some, given_eq ⟨by omega, by omega⟩ hrg hrg' (by omega), Option.bind_some]
    rfl
open Ex in
theorem refOf_tree {a b c : Int} {e : Ex} (he : e.Ok) (hz : e.size ≤ 60) (hd : e.depth ≤ 20) (ha : Rng a) (hb : Rng b) (hc : Rng c) (hr : ∀ x ∈ e.ser 0, Rng x.f1) {k : Nat} {g : Bool} {i : Int} (h : tailwaterref06_Of.f k (e.ser 0) = some (g, i, 0)) (hk : 90 < k) : tailwaterref07_Of.f k (e.ser 0) a b c = some (e.val a b c, 0) := by
  have hp := size_pos e
  have hv := value_sub ha hb hc he hr e 0 (.refl e) k (by omega)
  unfold tailwaterref07_Of.f
  rw [h, Option.bind_some, if_pos rfl, ser_len, w64 (by omega) (by omega), show (e.size : Int) - 1 = ((0 + e.size - 1 : Nat) : Int) by omega, hv, Option.bind_some]

end Go.Proofs.Ytcdgohoinmbpfaa.M
