import Derived.Test.YtcdgohoinmbpfaaKFilterTwice6
namespace Go.Proofs.Ytcdgohoinmbpfaa.M
open Go.RowKit Go.Proofs.YtcdgohoinmbpfaaW.PrintWords Go.Proofs.YtcdgohoinmbpfaaW.PrintLast Go.Proofs.YtcdgohoinmbpfaaW.PrintMore

def kfit (k : Int) (a b : Bool) : Bool :=
  if k = 5 then !a else if k = 6 then a else if k ≤ 15 then !a && !b else if k ≤ 17 then a == b else a && b
def kgive (k : Int) : Bool := decide (k = 6) || decide (12 ≤ k)
def toldGo : List S61 → Int → List Bool → Option (List Bool × Int)
  | [], i, is => some (is, i)
  | x :: l, i, is =>
    if x.f0 ≤ 4 then toldGo l (i + 1) (is ++ [false]) else
    if 0 ≤ x.f2 ∧ x.f2 < is.length ∧ 0 ≤ x.f3 ∧ x.f3 < is.length then
      if kfit x.f0 (rdOf false is x.f2) (rdOf false is x.f3) = true then toldGo l (i + 1) (is ++ [kgive x.f0]) else some ([], i)
    else none
def kinds_told.f (l0 : List (S61)) : Option (List Bool × Int) := if l0.length ≤ 1000 then toldGo l0 0 [] else none

end Go.Proofs.Ytcdgohoinmbpfaa.M
namespace Go.Proofs.Ytcdgohoinmbpfaa.M
open Go.RowKit Go.Proofs.YtcdgohoinmbpfaaW.PrintWords Go.Proofs.YtcdgohoinmbpfaaW.PrintLast Go.Proofs.YtcdgohoinmbpfaaW.PrintMore
set_option linter.unusedVariables false
set_option linter.unusedSimpArgs false

def takesB (t : Bool) (is : List Bool) (ps : List Int) : Bool := ps.all fun p => rdOf false is p == t
theorem takesB_no {t : Bool} {is : List Bool} {ps : List Int} {k : Nat} (hk : k < ps.length) (h : ¬ (rdOf false is (rd ps k) = t)) : takesB t is ps = false := by
  unfold takesB
  rw [List.all_eq_false]
  refine ⟨ps[k], List.getElem_mem hk, ?_⟩
  have e : rd ps k = ps[k] := by simp [rd, hk]
  rw [e] at h
  simpa using h
theorem takesB_yes {t : Bool} {is : List Bool} {ps : List Int} (h : ∀ k : Nat, k < ps.length → rdOf false is (rd ps k) = t) : takesB t is ps = true := by
  unfold takesB
  rw [List.all_eq_true]
  intro p hp
  obtain ⟨k, hk, rfl⟩ := List.getElem_of_mem hp
  have := h k hk
  have e : rd ps k = ps[k] := by simp [rd, hk]
  rw [e] at this
  simp [this]

set_option maxHeartbeats 1000000 in
set_option maxRecDepth 100000 in
theorem kinds_takes.calls (t : Bool) (A0 : Option Addr) (c0 : Nat) (ps : List Int) (B : Nat) (A1 : Option Addr) (c1 : Nat) (is : List Bool) (w : World)
    (hr0 : Kd.C (Kd.int .i64) w A0 ps.length ps) (hr1 : Kd.C Kd.bool w A1 is.length is) (hb : w.cell? ⟨B, 0, none⟩ = some (.slice A1 is.length c1))
    (hin : ∀ k : Nat, k < ps.length → 0 ≤ rd ps k ∧ rd ps k < is.length) :
    Calls Try.prog 97 #[.bool t, .slice A0 ps.length c0, .pointer (some ⟨B, 0, none⟩)] w fun e w' => e = .returned (.bool (takesB t is ps)) ∧ Drawn0 w w' := by
  have HR0 := am hr0
  have HR1 := am hr1
  have HI := am hin
  clear hr0 hr1 hin
  have hm0 : ps.length ≤ 9223372036854775807 := HR0.out.2.1
  go_enter Try.func97, Try.ntmps97
  go_wp2
  go_loopg [10] (ps.length + 1) (fun kq v10 w' => ∃ (k : Nat) (m : Nat), v10 = .int .i64 k ∧ Aside0 (kq + k = ps.length + 1 ∧ k ≤ ps.length ∧ ∀ q : Nat, q < k → rdOf false is (rd ps q) = t) ∧ w' = w.drewN m)
  case atStart => exact ⟨0, 0, rfl, ⟨by omega, by omega, fun q hq => by omega⟩, rfl⟩
  case round =>
    obtain ⟨k, m, rfl, HK, rfl⟩ := hrel
    by_cases hk : k < ps.length
    · have c2 : decide (k < ps.length) = true := decide_eq_true hk
      obtain ⟨ad0, e0, hp0⟩ := Kd.at_int HR0.out k (by omega) (by omega)
      cases e0
      rw [Int.toNat_natCast] at hp0
      obtain ⟨h0, h1⟩ := HI.out k hk
      obtain ⟨p, hp⟩ : ∃ p, p = rd ps k := ⟨_, rfl⟩
      rw [← hp] at hp0 h0 h1
      obtain ⟨q, rfl⟩ := Int.eq_ofNat_of_zero_le h0
      obtain ⟨ad1, e1, hq0⟩ := Kd.at_bool HR1.out (q : Int) (by omega) (by omega)
      cases e1
      rw [Int.toNat_natCast] at hq0
      have hq1 : q < is.length := by omega
      obtain ⟨b, hbb⟩ : ∃ b, b = rdOf false is (q : Int) := ⟨_, rfl⟩
      rw [← hbb] at hq0
      have HBB := am hbb
      have HP := am hp
      clear hp hbb
      by_cases hbt : b = t
      · subst hbt
        have cb : (b != b) = false := by simp
        go_wp2
        go_roundg (gk - 1)
        case measure => have := HK.out; omega
        case rel => exact ⟨k + 1, m, by go_num, ⟨by have := HK.out; omega, by omega, fun z hz => by
            rcases Nat.lt_or_ge z k with h | h
            · exact HK.out.2.2 z h
            · obtain rfl : z = k := by omega
              rw [← HP.out, ← HBB.out]⟩, rfl⟩
      · have cb : (b != t) = true := by simpa using hbt
        have cb2 : (b == t) = false := by simpa using hbt
        have HF := am (takesB_no (t := t) (is := is) hk (by rw [← HP.out, ← HBB.out]; exact hbt))
        have hbt' := am hbt
        clear hbt
        go_wp2
        go_ret
        exact ⟨by rw [HF.out]; rfl, ⟨_, rfl⟩⟩
    · have c2 : decide (k < ps.length) = false := decide_eq_false hk
      have HF := am (takesB_yes (t := t) (is := is) (ps := ps) (fun q hq => HK.out.2.2 q (by have := HK.out; omega)))
      go_wp2
      go_ret
      exact ⟨by rw [HF.out]; rfl, ⟨_, rfl⟩⟩

end Go.Proofs.Ytcdgohoinmbpfaa.M
