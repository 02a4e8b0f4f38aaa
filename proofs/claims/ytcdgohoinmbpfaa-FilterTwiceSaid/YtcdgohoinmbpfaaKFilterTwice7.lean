import Derived.Test.YtcdgohoinmbpfaaKFilterTwice6
import Derived.Maps.OwnSet
import Derived.Maps.Views
import Derived.Maps.Keyed
namespace Go.Proofs.Ytcdgohoinmbpfaa.M
open Go.RowKit Go.Proofs.YtcdgohoinmbpfaaW.PrintWords Go.Proofs.YtcdgohoinmbpfaaW.PrintLast Go.Proofs.YtcdgohoinmbpfaaW.PrintMore
set_option linter.unusedVariables false
set_option linter.unusedSimpArgs false

def outB (x : Int) : Bool := decide (x < 0) || decide (x ≥ 4)
set_option maxRecDepth 100000 in
theorem sources_out.calls (x : Int) (w : World) : Calls Try.prog 93 #[.int .i64 x] w fun e w' => e = .returned (.bool (outB x)) ∧ Drawn0 w w' := by
  by_cases h : x < 0
  · have b1 : decide (x < 0) = true := decide_eq_true h
    have e : outB x = true := by unfold outB; rw [b1]; rfl
    rw [e]
    clear e h
    go_enter Try.func93, Try.ntmps93
    go_wp2
    go_ret
    exact ⟨rfl, by repeat (first | exact Drawn0.refl _ | apply Drawn0.step)⟩
  · have b1 : decide (x < 0) = false := decide_eq_false h
    have e : outB x = decide (x ≥ 4) := by unfold outB; rw [b1]; rfl
    rw [e]
    clear e h
    go_enter Try.func93, Try.ntmps93
    go_wp2
    go_ret
    exact ⟨rfl, by repeat (first | exact Drawn0.refl _ | apply Drawn0.step)⟩

def idxGo : List Int → Nat → Int
  | [], _ => -1
  | x :: xs, i => if outB x = true then i else idxGo xs (i + 1)
set_option maxHeartbeats 1000000 in
set_option maxRecDepth 100000 in
theorem sources_index.calls (A0 : Option Addr) (c0 : Nat) (l : List Int) (w : World) (hr0 : Kd.C (Kd.int .i64) w A0 l.length l) :
    Calls Try.prog 99 #[.slice A0 l.length c0, .func (.func 93) #[] #[]] w fun e w' => e = .returned (.int .i64 (idxGo l 0)) ∧ Drawn0 w w' := by
  have HR0 := am hr0
  clear hr0
  have hm0 : l.length ≤ 9223372036854775807 := HR0.out.2.1
  go_enter Try.func99, Try.ntmps99
  go_wp2
  go_loopg [8] (l.length + 1) (fun kq v8 w' => ∃ (k : Nat) (m : Nat), v8 = .int .i64 k ∧ Aside0 (kq + k = l.length + 1 ∧ k ≤ l.length ∧ idxGo (l.drop k) k = idxGo l 0) ∧ w' = w.drewN m)
  case atStart => exact ⟨0, 0, rfl, ⟨by omega, by omega, rfl⟩, rfl⟩
  case round =>
    obtain ⟨k, m, rfl, HK, rfl⟩ := hrel
    by_cases hk : k < l.length
    · have c2 : decide (k < l.length) = true := decide_eq_true hk
      obtain ⟨ad0, e0, hp0⟩ := Kd.at_int HR0.out k (by omega) (by omega)
      cases e0
      rw [Int.toNat_natCast] at hp0
      have hd : l.drop k = rd l k :: l.drop (k + 1) := by
        rw [List.drop_eq_getElem_cons hk]; simp [rd, hk]
      have hn := HK.out.2.2
      rw [hd, idxGo] at hn
      obtain ⟨p, hp⟩ : ∃ p, p = rd l k := ⟨_, rfl⟩
      rw [← hp] at hp0 hn
      have HK2 : Aside0 (gk + k = l.length + 1) := ⟨HK.out.1⟩
      clear hd hp HK
      cases hb : outB p with
      | true =>
        rw [if_pos hb] at hn
        have HN := am hn
        clear hn
        go_wp2_with (first | (go_at_call 93; (with_reducible refine (sources_out.calls p _).mono ?_); rintro e w' ⟨rfl, ⟨nd, rfl⟩⟩; rw [hb]))
        go_ret
        exact ⟨by rw [← HN.out]; rfl, by repeat (first | exact Drawn0.refl _ | apply Drawn0.step)⟩
      | false =>
        rw [if_neg (by rw [hb]; decide)] at hn
        have HN := am hn
        clear hn
        go_wp2_with (first | (go_at_call 93; (with_reducible refine (sources_out.calls p _).mono ?_); rintro e w' ⟨rfl, ⟨nd, rfl⟩⟩; rw [hb]))
        go_roundg (gk - 1)
        case measure => have := HK2.out; omega
        case rel => exact ⟨k + 1, _, by go_num, ⟨by have := HK2.out; omega, by omega, HN.out⟩, by first | rfl | exact World.drewN_drewN _ _ _⟩
    · have c2 : decide (k < l.length) = false := decide_eq_false hk
      have hn := HK.out.2.2
      rw [List.drop_of_length_le (by omega), idxGo] at hn
      have HN := am hn
      clear hn HK
      go_wp2
      go_ret
      exact ⟨by rw [← HN.out]; rfl, by repeat (first | exact Drawn0.refl _ | apply Drawn0.step)⟩

theorem idx_any : ∀ (l : List Int) (i : Nat), decide (idxGo l i ≥ 0) = l.any outB
  | [], i => rfl
  | x :: xs, i => by
    rw [idxGo, List.any_cons]
    cases h : outB x with
    | true => rw [if_pos rfl, Bool.true_or]; exact decide_eq_true (by omega)
    | false => rw [if_neg (by decide), Bool.false_or]; exact idx_any xs (i + 1)
set_option maxRecDepth 100000 in
theorem sources_contains.calls (A0 : Option Addr) (c0 : Nat) (l : List Int) (w : World) (hr0 : Kd.C (Kd.int .i64) w A0 l.length l) :
    Calls Try.prog 94 #[.slice A0 l.length c0, .func (.func 93) #[] #[]] w fun e w' => e = .returned (.bool (l.any outB)) ∧ Drawn0 w w' := by
  have HR0 := am hr0
  clear hr0
  rw [← idx_any l 0]
  go_enter Try.func94, Try.ntmps94
  go_wp2_with (first | (go_at_call 99; (with_reducible refine (sources_index.calls A0 c0 l _ (by repeat (first | exact HR0.out | (with_reducible refine Kd.C_alloc ?_ _) | (with_reducible refine Kd.C_drewN ?_ _)))).mono ?_); rintro e w' ⟨rfl, ⟨nd, rfl⟩⟩))
  go_ret
  exact ⟨rfl, by repeat (first | exact Drawn0.refl _ | apply Drawn0.step)⟩

section
open Go.Maps Go.WideMaps
def keysI (l : List Int) (k : Nat) : List Lit := (l.take k).map fun x => .int .i64 x
def SnI (l : List Int) (k : Nat) : DataW Unit := setOf (.lit (.bool true)) (keysI l k)
theorem keysI_succ (l : List Int) (k : Nat) (hk : k < l.length) : keysI l (k + 1) = keysI l k ++ [.int .i64 (Go.Proofs.YtcdgohoinmbpfaaW.PrintWords.rd l k)] := by
  unfold keysI
  rw [List.take_add_one, List.map_append]
  simp [Go.Proofs.YtcdgohoinmbpfaaW.PrintWords.rd, hk]
theorem SnI_succ (l : List Int) (k : Nat) (hk : k < l.length) : SnI l (k + 1) = (SnI l k).put (.int .i64 (Go.Proofs.YtcdgohoinmbpfaaW.PrintWords.rd l k)) (.lit (.bool true)) := by
  unfold SnI
  rw [keysI_succ l k hk, setOf_snoc]
theorem SnI_zero (l : List Int) : SnI l 0 = .map [] := by simp [SnI, keysI, setOf]
def distI (l : List Int) : Nat := Maps.size (SnI l l.length)
theorem lawI : Keyed Try.prog 3 := int_keyed Try.underlying3
theorem keyI_ok {l : List Int} (h : ∀ x ∈ l, 0 ≤ x ∧ x < 4) {k : Nat} (hk : k < l.length) : keyOf Try.prog 3 (.int .i64 (Go.Proofs.YtcdgohoinmbpfaaW.PrintWords.rd l k)) = some (.int .i64 (Go.Proofs.YtcdgohoinmbpfaaW.PrintWords.rd l k)) := by
  have := h l[k] (List.getElem_mem hk)
  have e : Go.Proofs.YtcdgohoinmbpfaaW.PrintWords.rd l k = l[k] := by simp [Go.Proofs.YtcdgohoinmbpfaaW.PrintWords.rd, hk]
  refine keyOf_int_mk Try.underlying3 ?_
  rw [e]
  unfold Lit.wf
  rw [Bool.and_eq_true, decide_eq_true_iff, decide_eq_true_iff]
  have h1 : IntKind.i64.min = -9223372036854775808 := rfl
  have h2 : IntKind.i64.max = 9223372036854775807 := rfl
  omega
set_option maxRecDepth 100000 in
theorem sources_distinct.calls (A0 : Option Addr) (c0 : Nat) (l : List Int) (w : World) (hr0 : Kd.C (Kd.int .i64) w A0 l.length l) (hin : ∀ x ∈ l, 0 ≤ x ∧ x < 4) (hl : l.length ≤ 4) :
    Calls Try.prog 95 #[.slice A0 l.length c0] w fun e w' => e = .returned (.int .i64 (distI l)) ∧ distI l ≤ l.length ∧ Below w.heap.size w w' := by
  have hmm := @run_makeMap Try.prog
  have HR0 := am hr0
  have HIN := am hin
  have HL := am hl
  clear hr0 hin hl
  go_enter Try.func95, Try.ntmps95
  go_wp2
  go_loopw [9] (fun i wr => ∃ k : Nat, k ≤ l.length ∧ i = .int .i64 k ∧ wr.ownsMap Try.prog 3 (plainElem Try.prog 4) w.heap.size k (SnI l k) ∧ Below w.heap.size w wr)
    (fun i _ => l.length - (intOf i).toNat)
  case atStart => exact ⟨0, Nat.zero_le _, rfl, by rw [SnI_zero]; exact World.ownsMap_made _ _ _ _, (Below.refl _ _).alloc (Nat.le_refl _) _⟩
  case round =>
    obtain ⟨k, hk, rfl, hown, hnx⟩ := hrel
    by_cases hlt : k < l.length
    · have c2 : decide ((k : Int) < (l.length : Int)) = true := decide_eq_true (by omega)
      have c2' : decide (k < l.length) = true := decide_eq_true hlt
      obtain ⟨ad0, e0, hp0⟩ := Kd.at_int HR0.out k (by omega) (by omega)
      cases e0
      rw [Int.toNat_natCast] at hp0
      replace hp0 := (hnx.cell (World.block_lt_of_cell? w _ hp0)).trans hp0
      have hkey := keyI_ok HIN.out hlt
      have hL := HL.out
      have hw1 : wrap64 ((k : Int) + 1) = ((k + 1 : Nat) : Int) := by unfold wrap64; omega
      go_wp2_with (first
        | (at_mapUpdate; refine wpList_mapUpdate_own _ rfl _ _ _ 167 rfl 3 4 lawI Try.underlying167 (plainElem (H := Unit) Try.prog 4) w.heap.size k _ rfl hown (by have := HL.out; unfold maxLen; omega) _ _ _ rfl rfl hkey _ [] (plainElem_bool Try.underlying4 true) ?_; intro w1 hown1 hgrow1)
        | go_in)
      go_roundw
      case rel => exact ⟨k + 1, by omega, by first | exact congrArg (Value.int .i64) hw1 | go_num, (SnI_succ l k (by omega)).symm ▸ hown1, hnx.grown hgrow1 hnx.size (fun j hj => by cases hj; exact Nat.le_refl _)⟩
      case measure => simp only [intOf, hw1, Int.toNat_natCast]; omega
    · have hkl : k = l.length := by omega
      have c2 : decide ((k : Int) < (l.length : Int)) = false := decide_eq_false (by omega)
      have c2' : decide (k < l.length) = false := decide_eq_false hlt
      go_wp2_with (first
        | (at_len; refine wpList_len_own _ rfl _ 167 rfl 3 4 Try.underlying167 _ w.heap.size k _ rfl hown ?_)
        | go_in)
      go_ret
      subst hkl
      exact ⟨rfl, hown.size_le, hnx⟩
end

def clauses_Sources.f (l0 : List Int) (a1 : Bool) : Option (Int) :=
  if l0.length > 4 then some 4 else if l0.length = 0 then some 8 else if (a1 && !(l0.length == 2)) = true then some 8 else if l0.any outB = true then some 8 else if distI l0 < l0.length then some 43 else some 0
theorem any_out {l : List Int} (h : l.any outB = false) : ∀ x ∈ l, 0 ≤ x ∧ x < 4 := by
  intro x hx
  rw [List.any_eq_false] at h
  have := h x hx
  unfold outB at this
  simp at this
  omega
set_option maxHeartbeats 2000000 in
set_option maxRecDepth 100000 in
theorem clauses_Sources.calls (A0 : Option Addr) (c0 : Nat) (l0 : List Int) (a1 : Bool) (r : Int) (w : World) (hr0 : Kd.C (Kd.int .i64) w A0 l0.length l0) (hc0 : l0.length ≤ c0) (h : clauses_Sources.f l0 a1 = some r) :
    Calls Try.prog 84 #[.slice A0 l0.length c0, .bool a1] w fun e w' => e = .returned (.int .i64 r) ∧ Below w.heap.size w w' := by
  have HR0 := am hr0
  clear hr0 hc0
  have hm0 : l0.length ≤ 9223372036854775807 := HR0.out.2.1
  unfold clauses_Sources.f at h
  by_cases h4 : l0.length > 4
  · rw [if_pos h4] at h
    obtain rfl := Option.some.inj h
    have b1 : decide ((l0.length : Int) > 4) = true := decide_eq_true (by omega)
    have b1' : decide (4 < l0.length) = true := decide_eq_true h4
    clear h h4
    go_enter Try.func84, Try.ntmps84
    go_wp2
    go_ret
    exact ⟨rfl, by repeat (first | exact Below.refl _ _ | apply below_alloc | apply pw_below_drewN | apply below_drew1)⟩
  · rw [if_neg h4] at h
    have b1 : decide ((l0.length : Int) > 4) = false := decide_eq_false (by omega)
    have b1' : decide (4 < l0.length) = false := decide_eq_false h4
    have HL : Aside0 (l0.length ≤ 4) := ⟨by omega⟩
    by_cases h0 : l0.length = 0
    · rw [if_pos h0] at h
      obtain rfl := Option.some.inj h
      have b2 : ((l0.length : Int) == 0) = true := beq_iff_eq.mpr (by omega)
      have b2' : (l0.length == 0) = true := beq_iff_eq.mpr h0
      clear h h4 h0
      go_enter Try.func84, Try.ntmps84
      go_wp2
      go_ret
      exact ⟨rfl, by repeat (first | exact Below.refl _ _ | apply below_alloc | apply pw_below_drewN | apply below_drew1)⟩
    · rw [if_neg h0] at h
      have b2 : ((l0.length : Int) == 0) = false := beq_eq_false_iff_ne.mpr (by omega)
      have b2' : (l0.length == 0) = false := beq_eq_false_iff_ne.mpr h0
      by_cases hj : (a1 && !(l0.length == 2)) = true
      · rw [if_pos hj] at h
        obtain rfl := Option.some.inj h
        rw [Bool.and_eq_true] at hj
        obtain ⟨rfl, hj2⟩ := hj
        have hne : ¬ l0.length = 2 := by simpa using hj2
        have b3 : ((l0.length : Int) != 2) = true := bne_iff_ne.mpr (by omega)
        have b3' : (l0.length != 2) = true := bne_iff_ne.mpr hne
        clear h h4 h0 hj2 hne
        go_enter Try.func84, Try.ntmps84
        go_wp2
        go_ret
        exact ⟨rfl, by repeat (first | exact Below.refl _ _ | apply below_alloc | apply pw_below_drewN | apply below_drew1)⟩
      · rw [if_neg hj] at h
        have HJ : Aside0 (a1 = false ∨ (a1 = true ∧ l0.length = 2)) := ⟨by
          cases a1 with
          | false => exact .inl rfl
          | true => exact .inr ⟨rfl, by simpa using hj⟩⟩
        clear h4 h0 hj
        have key : ∀ (fin : ∀ (hg : Aside0 ((a1 = false) ∨ (a1 = true ∧ ((l0.length : Int) != 2) = false ∧ (l0.length != 2) = false))), Calls Try.prog 84 #[.slice A0 l0.length c0, .bool a1] w fun e w' => e = .returned (.int .i64 r) ∧ Below w.heap.size w w'), Calls Try.prog 84 #[.slice A0 l0.length c0, .bool a1] w fun e w' => e = .returned (.int .i64 r) ∧ Below w.heap.size w w' := fun fin => by
          refine fin ⟨?_⟩
          rcases HJ.out with h1 | ⟨h1, h2⟩
          · exact .inl h1
          · exact .inr ⟨h1, bne_eq_false_iff_eq.mpr (by omega), bne_eq_false_iff_eq.mpr h2⟩
        refine key fun hg => ?_
        clear key HJ
        cases ho : l0.any outB with
        | true =>
          rw [if_pos ho] at h
          obtain rfl := Option.some.inj h
          clear h
          rcases hg.out with rfl | ⟨rfl, b3, b3'⟩
          all_goals clear hg
          all_goals go_enter Try.func84, Try.ntmps84
          all_goals go_wp2_with (first | (go_at_call 94; (with_reducible refine (sources_contains.calls A0 c0 l0 _ (by repeat (first | exact HR0.out | (with_reducible refine Kd.C_alloc ?_ _) | (with_reducible refine Kd.C_drewN ?_ _)))).mono ?_); rintro e w' ⟨rfl, ⟨nd, rfl⟩⟩; rw [ho]))
          all_goals go_ret
          all_goals exact ⟨rfl, by repeat (first | exact Below.refl _ _ | apply below_alloc | apply pw_below_drewN | apply below_drew1)⟩
        | false =>
          rw [if_neg (by rw [ho]; decide)] at h
          have HIN := am (any_out ho)
          by_cases hd : distI l0 < l0.length
          · rw [if_pos hd] at h
            obtain rfl := Option.some.inj h
            have b4 : decide ((distI l0 : Int) < (l0.length : Int)) = true := decide_eq_true (by omega)
            have b4' : decide (distI l0 < l0.length) = true := decide_eq_true hd
            clear h hd
            rcases hg.out with rfl | ⟨rfl, b3, b3'⟩
            all_goals clear hg
            all_goals go_enter Try.func84, Try.ntmps84
            all_goals go_wp2_with (first | (go_at_call 94; (with_reducible refine (sources_contains.calls A0 c0 l0 _ (by repeat (first | exact HR0.out | (with_reducible refine Kd.C_alloc ?_ _) | (with_reducible refine Kd.C_drewN ?_ _)))).mono ?_); rintro e w' ⟨rfl, ⟨nd, rfl⟩⟩; rw [ho]) | (go_at_call 95; (with_reducible refine (sources_distinct.calls A0 c0 l0 _ (by repeat (first | exact HR0.out | (with_reducible refine Kd.C_alloc ?_ _) | (with_reducible refine Kd.C_drewN ?_ _))) HIN.out HL.out).mono ?_); rintro e w2 ⟨rfl, hle, hb⟩; have HB2 := am hb; clear hb hle))
            all_goals go_ret
            all_goals exact ⟨rfl, below_then (h := pw_below_drewN (Below.refl _ _) _) (hB := Nat.le_refl _) (k := HB2.out)⟩
          · rw [if_neg hd] at h
            obtain rfl := Option.some.inj h
            have b4 : decide ((distI l0 : Int) < (l0.length : Int)) = false := decide_eq_false (by omega)
            have b4' : decide (distI l0 < l0.length) = false := decide_eq_false hd
            clear h hd
            rcases hg.out with rfl | ⟨rfl, b3, b3'⟩
            all_goals clear hg
            all_goals go_enter Try.func84, Try.ntmps84
            all_goals go_wp2_with (first | (go_at_call 94; (with_reducible refine (sources_contains.calls A0 c0 l0 _ (by repeat (first | exact HR0.out | (with_reducible refine Kd.C_alloc ?_ _) | (with_reducible refine Kd.C_drewN ?_ _)))).mono ?_); rintro e w' ⟨rfl, ⟨nd, rfl⟩⟩; rw [ho]) | (go_at_call 95; (with_reducible refine (sources_distinct.calls A0 c0 l0 _ (by repeat (first | exact HR0.out | (with_reducible refine Kd.C_alloc ?_ _) | (with_reducible refine Kd.C_drewN ?_ _))) HIN.out HL.out).mono ?_); rintro e w2 ⟨rfl, hle, hb⟩; have HB2 := am hb; clear hb hle))
            all_goals go_ret
            all_goals exact ⟨rfl, below_then (h := pw_below_drewN (Below.refl _ _) _) (hB := Nat.le_refl _) (k := HB2.out)⟩

end Go.Proofs.Ytcdgohoinmbpfaa.M
