import Derived.Test.YtcdgohoinmbpfaaKFilterTwice13
import Derived.WalkMore
namespace Go.Proofs.Ytcdgohoinmbpfaa.M
open Go.RowKit Go.Proofs.YtcdgohoinmbpfaaW.PrintWords Go.Proofs.YtcdgohoinmbpfaaW.PrintLast Go.Proofs.YtcdgohoinmbpfaaW.PrintMore
set_option linter.unusedVariables false
set_option linter.unusedSimpArgs false

theorem told_C1 {w : World} {g : Nat} {a : Int} (h : w.cell? ⟨g, 0, none⟩ = some (.int .i64 a)) : Kd.C (Kd.int .i64) w (some ⟨g, 0, none⟩) 1 [a] := by
  refine ⟨rfl, by decide, fun _ => ⟨_, rfl, fun j p hp => ?_⟩⟩
  match j, hp with
  | 0, hp =>
    simp at hp; subst hp
    refine ⟨[.int .i64 a], rfl, rfl, fun i u hu => ?_⟩
    match i, hu with
    | 0, hu => simp at hu; subst hu; simpa [Addr.add] using h
theorem told_C2 {w : World} {g : Nat} {a b : Int} (h : w.cell? ⟨g, 0, none⟩ = some (.int .i64 a)) (h' : w.cell? ⟨g, 1, none⟩ = some (.int .i64 b)) : Kd.C (Kd.int .i64) w (some ⟨g, 0, none⟩) 2 [a, b] := by
  refine ⟨rfl, by decide, fun _ => ⟨_, rfl, fun j p hp => ?_⟩⟩
  match j, hp with
  | 0, hp =>
    simp at hp; subst hp
    refine ⟨[.int .i64 a], rfl, rfl, fun i u hu => ?_⟩
    match i, hu with
    | 0, hu => simp at hu; subst hu; simpa [Addr.add] using h
  | 1, hp =>
    simp at hp; subst hp
    refine ⟨[.int .i64 b], rfl, rfl, fun i u hu => ?_⟩
    match i, hu with
    | 0, hu => simp at hu; subst hu; simpa [Addr.add, Kd.int, Kd.scalar] using h'

theorem kinds_takes.told (t T : Bool) (A0 : Option Addr) (c0 n : Nat) (ps : List Int) (B : Nat) (A1 : Option Addr) (c1 : Nat) (is : List Bool) (w : World) (hT : takesB t is ps = T) (hn : n = ps.length)
    (hr0 : Kd.C (Kd.int .i64) w A0 ps.length ps) (hr1 : Kd.C Kd.bool w A1 is.length is) (hb : w.cell? ⟨B, 0, none⟩ = some (.slice A1 is.length c1))
    (hin : ∀ k : Nat, k < ps.length → 0 ≤ rd ps k ∧ rd ps k < is.length) :
    Calls Try.prog 97 #[.bool t, .slice A0 n c0, .pointer (some ⟨B, 0, none⟩)] w fun e w' => e = .returned (.bool T) ∧ Drawn0 w w' := by
  subst hn
  rw [← hT]
  exact kinds_takes.calls t A0 c0 ps B A1 c1 is w hr0 hr1 hb hin
theorem told_in1 {is : List Bool} {a : Int} (h0 : 0 ≤ a) (h1 : a < is.length) : ∀ k : Nat, k < ([a] : List Int).length → 0 ≤ rd [a] k ∧ rd [a] k < is.length := by
  intro k hk
  match k, hk with
  | 0, _ => exact ⟨h0, h1⟩
theorem told_in2 {is : List Bool} {a b : Int} (h0 : 0 ≤ a) (h1 : a < is.length) (h2 : 0 ≤ b) (h3 : b < is.length) : ∀ k : Nat, k < ([a, b] : List Int).length → 0 ≤ rd [a, b] k ∧ rd [a, b] k < is.length := by
  intro k hk
  match k, hk with
  | 0, _ => exact ⟨h0, h1⟩
  | 1, _ => exact ⟨h2, h3⟩
theorem told_fit5 {is : List Bool} {a b : Int} : kfit 5 (rdOf false is a) (rdOf false is b) = takesB false is [a] := by
  simp [kfit, takesB]
theorem told_fit6 {is : List Bool} {a b : Int} : kfit 6 (rdOf false is a) (rdOf false is b) = takesB true is [a] := by
  simp [kfit, takesB]
theorem told_fit11 {is : List Bool} {k a b : Int} (h : 6 < k) (h' : k ≤ 11) : kfit k (rdOf false is a) (rdOf false is b) = takesB false is [a, b] := by
  unfold kfit takesB
  rw [if_neg (by omega), if_neg (by omega), if_pos (by omega)]
  simp
theorem told_fit15 {is : List Bool} {k a b : Int} (h : 6 < k) (h' : k ≤ 15) : kfit k (rdOf false is a) (rdOf false is b) = takesB false is [a, b] := by
  unfold kfit takesB
  rw [if_neg (by omega), if_neg (by omega), if_pos (by omega)]
  simp
theorem told_fit17 {is : List Bool} {k a b : Int} (h : 15 < k) (h' : k ≤ 17) : kfit k (rdOf false is a) (rdOf false is b) = (takesB false is [a, b] || takesB true is [a, b]) := by
  unfold kfit takesB
  rw [if_neg (by omega), if_neg (by omega), if_neg (by omega), if_pos (by omega)]
  simp only [List.all_cons, List.all_nil, Bool.and_true]
  cases rdOf false is a <;> cases rdOf false is b <;> rfl
theorem told_fit18 {is : List Bool} {k a b : Int} (h : 17 < k) : kfit k (rdOf false is a) (rdOf false is b) = takesB true is [a, b] := by
  unfold kfit takesB
  rw [if_neg (by omega), if_neg (by omega), if_neg (by omega), if_neg (by omega)]
  simp
theorem told_give5 : kgive 5 = false := rfl
theorem told_give6 : kgive 6 = true := rfl
theorem told_give11 {k : Int} (h : 6 < k) (h' : k ≤ 11) : kgive k = false := by simp [kgive]; omega
theorem told_give15 {k : Int} (h : 11 < k) : kgive k = true := by simp [kgive]; omega
theorem told_keep {wr W w2 : World} {b B : Nat} {v : Value} {is : List Bool} {cs : Array Value} {t : Nat} (ho : Kd.R Kd.bool 4 wr b (fun k_ => k_ ≠ B) v is) (hb : Below wr.heap.size wr W) (hg : W.grownBy w2 v.ownBlock) (hB : wr.heap[B]? = some (.cells cs t (0, 0))) : w2.heap[B]? = some (.cells cs t (0, 0)) :=
  blk_grown (blk_below hB hb) hg (fun h => ho.1 B h.symm rfl)

set_option maxHeartbeats 20000000 in
set_option maxRecDepth 100000 in
theorem kinds_told.calls (A0 : Option Addr) (c0 : Nat) (l0 : List (S61)) (r1 : List Bool) (r2 : Int) (w : World) (hr0 : Kd.C k61 w A0 l0.length l0) (hc0 : l0.length ≤ c0) (h : kinds_told.f l0 = some (r1, r2)) :
    Calls Try.prog 90 #[.slice A0 l0.length c0] w fun e w' => ∃ v0_ : Value, e = .returned (.tuple #[v0_, .int .i64 r2]) ∧ Kd.R Kd.bool 4 w' w.heap.size (fun _ => True) v0_ r1 ∧ Below w.heap.size w w' := by
  have HR0 := am hr0
  unfold kinds_told.f at h
  by_cases hlen : l0.length ≤ 1000
  · rw [if_pos hlen] at h
    have H := am h
    clear hr0 hc0 h
    go_enter Try.func90, Try.ntmps90
    go_wp2
    go_step3
    go_wp2
    go_step3
    go_wp2
    go_loopg [14] (l0.length + 1) (fun kq v14 W => ∃ (j : Nat) (v : Value) (is : List Bool), v14 = .int .i64 j ∧ Aside0 (kq + j = l0.length + 1 ∧ j ≤ l0.length ∧ toldGo (l0.drop j) j is = some (r1, r2) ∧ is.length = j) ∧ Aside0 (W.heap[w.heap.size]? = some (.cells #[v] 149 (0, 0))) ∧ Aside0 (Kd.R Kd.bool 4 W w.heap.size (fun k_ => k_ ≠ w.heap.size) v is) ∧ Aside0 (Below w.heap.size w W))
    case atStart => exact ⟨0, _, [], rfl, ⟨by omega, by omega, H.out, rfl⟩, ⟨blk_new _ _⟩, ⟨Kd.R_nil _ _ _ _ _⟩, ⟨below_alloc (Below.refl _ _) _⟩⟩
    case round =>
      clear H
      obtain ⟨j, v, is, rfl, HA, BI, HO, HB⟩ := hrel
      by_cases hj : j < l0.length
      · have c2 : decide ((j : Int) < (l0.length : Int)) = true := decide_eq_true (by omega)
        have c2' : decide (j < l0.length) = true := decide_eq_true hj
        have hj60 : j < 1000 := by omega
        obtain ⟨ad, e0, hx0, hx1, hx2, hx3, hx4⟩ := at_T61 HR0.out j (by omega) (by omega)
        cases e0
        rw [Int.toNat_natCast] at hx0 hx1 hx2 hx3 hx4
        replace hx0 := (HB.out.cell (World.block_lt_of_cell? w _ hx0)).trans hx0
        replace hx1 := (HB.out.cell (World.block_lt_of_cell? w _ hx1)).trans hx1
        replace hx2 := (HB.out.cell (World.block_lt_of_cell? w _ hx2)).trans hx2
        replace hx3 := (HB.out.cell (World.block_lt_of_cell? w _ hx3)).trans hx3
        replace hx4 := (HB.out.cell (World.block_lt_of_cell? w _ hx4)).trans hx4
        have hdrop : l0.drop j = rd_T61 l0 j :: l0.drop (j + 1) := by
          rw [List.drop_eq_getElem_cons hj]; simp [rd_T61, hj]
        obtain ⟨x, hx⟩ : ∃ x : S61, x = rd_T61 l0 j := ⟨_, rfl⟩
        rw [← hx] at hx0 hx1 hx2 hx3 hx4 hdrop
        have HT : Aside0 (toldGo (l0.drop j) j is = some (r1, r2)) := ⟨HA.out.2.2.1⟩
        rw [hdrop] at HT
        clear hx hdrop
        obtain ⟨y0, y1, y2, y3, y4⟩ := x
        dsimp only at hx0 hx1 hx2 hx3 hx4
        simp only [toldGo] at HT
        have hil : is.length < 1000 := by have := HA.out; omega
        obtain ⟨A1, k1, e1⟩ := Kd.R_slice HO.out
        subst e1
        have hi0 : wr.cell? ⟨w.heap.size, 0, none⟩ = some (.slice A1 is.length k1) := (blk_cell BI.out 0).trans rfl
        have hif := blk_frozen BI.out 0
        have hs0 : w.heap.size < wr.heap.size := blk_lt BI.out
        have hs1 : w.heap.size < wr.heap.size + 1 := by omega
        have hs2 : w.heap.size < wr.heap.size + 1 + 1 := by omega
        have hn0 : ¬ (w.heap.size = wr.heap.size) := by omega
        have hn0' : ¬ (wr.heap.size = w.heap.size) := by omega
        have hn1 : ¬ (w.heap.size = wr.heap.size + 1) := by omega
        have hn1' : ¬ (wr.heap.size + 1 = w.heap.size) := by omega
        have hn2 : ¬ (w.heap.size = wr.heap.size + 1 + 1) := by omega
        have hn2' : ¬ (wr.heap.size + 1 + 1 = w.heap.size) := by omega
        have hC1 := am (Kd.R_reads' HO.out).2.2
        by_cases h4 : y0 ≤ 4
        · rw [if_pos h4] at HT
          have c4 : decide (y0 ≤ 4) = true := decide_eq_true h4
          go_wp2_with (first | ((with_reducible refine gate_builtin (b := .append) (xs := #[.tmp 29, .tmp 30]) rfl ?_); at_builtin; refine Kd.R_append Kd.bool (w0 := w) w.heap.size rfl (.tmp 29) (.tmp 30) 149 4 (.bool false) 1 rfl Try.underlying149 info4 rfl (by decide) (by omega) (.slice A1 is.length k1) is false [.bool false] (fun k_ => k_ ≠ w.heap.size) (fun _ => False) rfl (by simp [Act.eval, Act.put]) rfl (fun _ h => h.elim) (fun k_ hk h => by simp at hk; omega) (Kd.R_below HO.out (by repeat (first | exact Below.refl _ _ | apply below_alloc | apply pw_below_drewN | apply below_drew1 | refine below_set ?_ (by simp)))) (by repeat (first | exact HB.out | apply below_alloc | apply pw_below_drewN | apply below_drew1 | refine below_set ?_ (by have := HB.out.size; omega))) (by have := HB.out.size; simp; omega) (by omega) ?_; intro v2 w2 ho2 hb2 hg2 hat2; have hbi2 : w2.heap[w.heap.size]? = some (.cells #[.slice A1 is.length k1] 149 (0, 0)) := told_keep HO.out (by repeat (first | exact Below.refl _ _ | apply below_alloc | apply pw_below_drewN | apply below_drew1 | refine below_set ?_ (by simp))) hg2 BI.out; have HV2 := am ho2; have HB2 := am hb2; have BI2 := am hbi2; clear ho2 hb2 hg2 hat2 hbi2; obtain ⟨A2, k2, e2⟩ := Kd.R_slice HV2.out; subst e2; rw [List.length_append, List.length_singleton] at HV2; have hz0 := (blk_cell BI2.out 0).trans rfl; have hzf := blk_frozen BI2.out 0))
          go_roundg (gk - 1)
          case measure => have := HA.out; omega
          case rel => exact ⟨j + 1, _, _, by go_num, ⟨by have := HA.out; omega, by omega, HT.out, by have := HA.out; simp; omega⟩, ⟨blk_put BI2.out 0 _ rfl⟩, ⟨Kd.R_far HV2.out (fun k hk => hk) _⟩, ⟨below_set HB2.out (Nat.le_refl _)⟩⟩
        · rw [if_neg h4] at HT
          have c4 : decide (y0 ≤ 4) = false := decide_eq_false h4
          by_cases hr : 0 ≤ y2 ∧ y2 < is.length ∧ 0 ≤ y3 ∧ y3 < is.length
          · rw [if_pos hr] at HT
            by_cases hc : y0 = 5
            · subst hc
              have HIN : Aside0 (∀ k : Nat, k < ([y2] : List Int).length → 0 ≤ rd [y2] k ∧ rd [y2] k < is.length) := ⟨told_in1 hr.1 hr.2.1⟩
              have c5 : ((5 : Int) == 5) = true := rfl
              rw [told_fit5] at HT
              clear hr
              cases ht0 : takesB false is [y2] with
              | true =>
                have HT0 := am ht0
                rw [ht0] at HT
                rw [if_pos rfl, told_give5] at HT
                clear ht0
                go_wp2
                go_region
                go_wp2_with (first | (go_at_call 97; (with_reducible refine (kinds_takes.told false true _ _ 1 [y2] w.heap.size A1 k1 is _ HT0.out rfl ?sa ?sb ?sc HIN.out).mono ?_); (case sa => exact told_C1 (by go_simp)); (case sb => exact Kd.C_below hC1.out (by repeat (first | exact Below.refl _ _ | apply below_alloc | apply pw_below_drewN | apply below_drew1 | refine below_set ?_ (by simp)))); (case sc => go_simp); rintro e w' ⟨rfl, ⟨nd0, rfl⟩⟩) | ((with_reducible refine gate_builtin (b := .append) (xs := #[.tmp 80, .tmp 82]) rfl ?_); at_builtin; refine Kd.R_append Kd.bool (w0 := w) w.heap.size rfl (.tmp 80) (.tmp 82) 149 4 (.bool false) 1 rfl Try.underlying149 info4 rfl (by decide) (by omega) (.slice A1 is.length k1) is false [.bool false] (fun k_ => k_ ≠ w.heap.size) (fun _ => False) rfl (by simp [Act.eval, Act.put]) rfl (fun _ h => h.elim) (fun k_ hk h => by simp at hk; omega) (Kd.R_below HO.out (by repeat (first | exact Below.refl _ _ | apply below_alloc | apply pw_below_drewN | apply below_drew1 | refine below_set ?_ (by simp)))) (by repeat (first | exact HB.out | apply below_alloc | apply pw_below_drewN | apply below_drew1 | refine below_set ?_ (by have := HB.out.size; omega))) (by have := HB.out.size; simp; omega) (by omega) ?_; intro v2 w2 ho2 hb2 hg2 hat2; have hbi2 : w2.heap[w.heap.size]? = some (.cells #[.slice A1 is.length k1] 149 (0, 0)) := told_keep HO.out (by repeat (first | exact Below.refl _ _ | apply below_alloc | apply pw_below_drewN | apply below_drew1 | refine below_set ?_ (by simp))) hg2 BI.out; have HV2 := am ho2; have HB2 := am hb2; have BI2 := am hbi2; clear ho2 hb2 hg2 hat2 hbi2; obtain ⟨A2, k2, e2⟩ := Kd.R_slice HV2.out; subst e2; rw [List.length_append, List.length_singleton] at HV2; have hz0 := (blk_cell BI2.out 0).trans rfl; have hzf := blk_frozen BI2.out 0))
                go_roundg (gk - 1)
                case measure => have := HA.out; omega
                case rel => exact ⟨j + 1, _, _, by go_num, ⟨by have := HA.out; omega, by omega, HT.out, by have := HA.out; simp; omega⟩, ⟨blk_put BI2.out 0 _ rfl⟩, ⟨Kd.R_far HV2.out (fun k hk => hk) _⟩, ⟨below_set HB2.out (Nat.le_refl _)⟩⟩
              | false =>
                have HT0 := am ht0
                rw [ht0, if_neg (by simp)] at HT
                have HF : Aside0 (r1 = [] ∧ r2 = (j : Int)) := ⟨by have h1 := HT.out; simp only [Option.some.injEq, Prod.mk.injEq] at h1; exact ⟨h1.1.symm, h1.2.symm⟩⟩
                clear HT
                obtain ⟨rfl, rfl⟩ := HF.out
                clear ht0
                go_wp2
                go_region
                go_wp2_with (first | (go_at_call 97; (with_reducible refine (kinds_takes.told false false _ _ 1 [y2] w.heap.size A1 k1 is _ HT0.out rfl ?sa ?sb ?sc HIN.out).mono ?_); (case sa => exact told_C1 (by go_simp)); (case sb => exact Kd.C_below hC1.out (by repeat (first | exact Below.refl _ _ | apply below_alloc | apply pw_below_drewN | apply below_drew1 | refine below_set ?_ (by simp)))); (case sc => go_simp); rintro e w' ⟨rfl, ⟨nd0, rfl⟩⟩))
                try rw [Exit.noGoto_ret]
                go_ret2
                exact ⟨_, rfl, Kd.R_nil _ _ _ _ _, by repeat (first | exact HB.out | apply below_alloc | apply pw_below_drewN | apply below_drew1 | refine below_set ?_ (by have := HB.out.size; omega))⟩
            have hn5 : ¬ y0 = 5 := hc
            clear hc
            by_cases hc : y0 = 6
            · subst hc
              have HIN : Aside0 (∀ k : Nat, k < ([y2] : List Int).length → 0 ≤ rd [y2] k ∧ rd [y2] k < is.length) := ⟨told_in1 hr.1 hr.2.1⟩
              have c5 : ((6 : Int) == 5) = false := rfl
              have c6 : ((6 : Int) == 6) = true := rfl
              rw [told_fit6] at HT
              clear hr
              cases ht1 : takesB true is [y2] with
              | true =>
                have HT1 := am ht1
                rw [ht1] at HT
                rw [if_pos rfl, told_give6] at HT
                clear ht1
                go_wp2
                go_region
                go_wp2_with (first | (go_at_call 97; (with_reducible refine (kinds_takes.told true true _ _ 1 [y2] w.heap.size A1 k1 is _ HT1.out rfl ?sa ?sb ?sc HIN.out).mono ?_); (case sa => exact told_C1 (by go_simp)); (case sb => exact Kd.C_below hC1.out (by repeat (first | exact Below.refl _ _ | apply below_alloc | apply pw_below_drewN | apply below_drew1 | refine below_set ?_ (by simp)))); (case sc => go_simp); rintro e w' ⟨rfl, ⟨nd1, rfl⟩⟩) | ((with_reducible refine gate_builtin (b := .append) (xs := #[.tmp 80, .tmp 82]) rfl ?_); at_builtin; refine Kd.R_append Kd.bool (w0 := w) w.heap.size rfl (.tmp 80) (.tmp 82) 149 4 (.bool false) 1 rfl Try.underlying149 info4 rfl (by decide) (by omega) (.slice A1 is.length k1) is true [.bool true] (fun k_ => k_ ≠ w.heap.size) (fun _ => False) rfl (by simp [Act.eval, Act.put]) rfl (fun _ h => h.elim) (fun k_ hk h => by simp at hk; omega) (Kd.R_below HO.out (by repeat (first | exact Below.refl _ _ | apply below_alloc | apply pw_below_drewN | apply below_drew1 | refine below_set ?_ (by simp)))) (by repeat (first | exact HB.out | apply below_alloc | apply pw_below_drewN | apply below_drew1 | refine below_set ?_ (by have := HB.out.size; omega))) (by have := HB.out.size; simp; omega) (by omega) ?_; intro v2 w2 ho2 hb2 hg2 hat2; have hbi2 : w2.heap[w.heap.size]? = some (.cells #[.slice A1 is.length k1] 149 (0, 0)) := told_keep HO.out (by repeat (first | exact Below.refl _ _ | apply below_alloc | apply pw_below_drewN | apply below_drew1 | refine below_set ?_ (by simp))) hg2 BI.out; have HV2 := am ho2; have HB2 := am hb2; have BI2 := am hbi2; clear ho2 hb2 hg2 hat2 hbi2; obtain ⟨A2, k2, e2⟩ := Kd.R_slice HV2.out; subst e2; rw [List.length_append, List.length_singleton] at HV2; have hz0 := (blk_cell BI2.out 0).trans rfl; have hzf := blk_frozen BI2.out 0))
                go_roundg (gk - 1)
                case measure => have := HA.out; omega
                case rel => exact ⟨j + 1, _, _, by go_num, ⟨by have := HA.out; omega, by omega, HT.out, by have := HA.out; simp; omega⟩, ⟨blk_put BI2.out 0 _ rfl⟩, ⟨Kd.R_far HV2.out (fun k hk => hk) _⟩, ⟨below_set HB2.out (Nat.le_refl _)⟩⟩
              | false =>
                have HT1 := am ht1
                rw [ht1, if_neg (by simp)] at HT
                have HF : Aside0 (r1 = [] ∧ r2 = (j : Int)) := ⟨by have h1 := HT.out; simp only [Option.some.injEq, Prod.mk.injEq] at h1; exact ⟨h1.1.symm, h1.2.symm⟩⟩
                clear HT
                obtain ⟨rfl, rfl⟩ := HF.out
                clear ht1
                go_wp2
                go_region
                go_wp2_with (first | (go_at_call 97; (with_reducible refine (kinds_takes.told true false _ _ 1 [y2] w.heap.size A1 k1 is _ HT1.out rfl ?sa ?sb ?sc HIN.out).mono ?_); (case sa => exact told_C1 (by go_simp)); (case sb => exact Kd.C_below hC1.out (by repeat (first | exact Below.refl _ _ | apply below_alloc | apply pw_below_drewN | apply below_drew1 | refine below_set ?_ (by simp)))); (case sc => go_simp); rintro e w' ⟨rfl, ⟨nd1, rfl⟩⟩))
                try rw [Exit.noGoto_ret]
                go_ret2
                exact ⟨_, rfl, Kd.R_nil _ _ _ _ _, by repeat (first | exact HB.out | apply below_alloc | apply pw_below_drewN | apply below_drew1 | refine below_set ?_ (by have := HB.out.size; omega))⟩
            have hn6 : ¬ y0 = 6 := hc
            clear hc
            by_cases hc : y0 ≤ 11
            · have HIN : Aside0 (∀ k : Nat, k < ([y2, y3] : List Int).length → 0 ≤ rd [y2, y3] k ∧ rd [y2, y3] k < is.length) := ⟨told_in2 hr.1 hr.2.1 hr.2.2.1 hr.2.2.2⟩
              have c5 : (y0 == 5) = false := beq_eq_false_iff_ne.mpr hn5
              have c6 : (y0 == 6) = false := beq_eq_false_iff_ne.mpr hn6
              have c11 : decide (y0 ≤ 11) = true := decide_eq_true hc
              rw [told_fit11 (by omega) hc] at HT
              clear hr
              cases ht0 : takesB false is [y2, y3] with
              | true =>
                have HT0 := am ht0
                rw [ht0] at HT
                rw [if_pos rfl, told_give11 (by omega) hc] at HT
                clear ht0
                go_wp2_with (first | (go_at_call 97; (with_reducible refine (kinds_takes.told false true _ _ 2 [y2, y3] w.heap.size A1 k1 is _ HT0.out rfl ?sa ?sb ?sc HIN.out).mono ?_); (case sa => exact told_C2 (by go_simp) (by go_simp)); (case sb => exact Kd.C_below hC1.out (by repeat (first | exact Below.refl _ _ | apply below_alloc | apply pw_below_drewN | apply below_drew1 | refine below_set ?_ (by simp)))); (case sc => go_simp); rintro e w' ⟨rfl, ⟨nd0, rfl⟩⟩) | ((with_reducible refine gate_builtin (b := .append) (xs := #[.tmp 80, .tmp 82]) rfl ?_); at_builtin; refine Kd.R_append Kd.bool (w0 := w) w.heap.size rfl (.tmp 80) (.tmp 82) 149 4 (.bool false) 1 rfl Try.underlying149 info4 rfl (by decide) (by omega) (.slice A1 is.length k1) is false [.bool false] (fun k_ => k_ ≠ w.heap.size) (fun _ => False) rfl (by simp [Act.eval, Act.put]) rfl (fun _ h => h.elim) (fun k_ hk h => by simp at hk; omega) (Kd.R_below HO.out (by repeat (first | exact Below.refl _ _ | apply below_alloc | apply pw_below_drewN | apply below_drew1 | refine below_set ?_ (by simp)))) (by repeat (first | exact HB.out | apply below_alloc | apply pw_below_drewN | apply below_drew1 | refine below_set ?_ (by have := HB.out.size; omega))) (by have := HB.out.size; simp; omega) (by omega) ?_; intro v2 w2 ho2 hb2 hg2 hat2; have hbi2 : w2.heap[w.heap.size]? = some (.cells #[.slice A1 is.length k1] 149 (0, 0)) := told_keep HO.out (by repeat (first | exact Below.refl _ _ | apply below_alloc | apply pw_below_drewN | apply below_drew1 | refine below_set ?_ (by simp))) hg2 BI.out; have HV2 := am ho2; have HB2 := am hb2; have BI2 := am hbi2; clear ho2 hb2 hg2 hat2 hbi2; obtain ⟨A2, k2, e2⟩ := Kd.R_slice HV2.out; subst e2; rw [List.length_append, List.length_singleton] at HV2; have hz0 := (blk_cell BI2.out 0).trans rfl; have hzf := blk_frozen BI2.out 0))
                go_roundg (gk - 1)
                case measure => have := HA.out; omega
                case rel => exact ⟨j + 1, _, _, by go_num, ⟨by have := HA.out; omega, by omega, HT.out, by have := HA.out; simp; omega⟩, ⟨blk_put BI2.out 0 _ rfl⟩, ⟨Kd.R_far HV2.out (fun k hk => hk) _⟩, ⟨below_set HB2.out (Nat.le_refl _)⟩⟩
              | false =>
                have HT0 := am ht0
                rw [ht0, if_neg (by simp)] at HT
                have HF : Aside0 (r1 = [] ∧ r2 = (j : Int)) := ⟨by have h1 := HT.out; simp only [Option.some.injEq, Prod.mk.injEq] at h1; exact ⟨h1.1.symm, h1.2.symm⟩⟩
                clear HT
                obtain ⟨rfl, rfl⟩ := HF.out
                clear ht0
                go_wp2_with (first | (go_at_call 97; (with_reducible refine (kinds_takes.told false false _ _ 2 [y2, y3] w.heap.size A1 k1 is _ HT0.out rfl ?sa ?sb ?sc HIN.out).mono ?_); (case sa => exact told_C2 (by go_simp) (by go_simp)); (case sb => exact Kd.C_below hC1.out (by repeat (first | exact Below.refl _ _ | apply below_alloc | apply pw_below_drewN | apply below_drew1 | refine below_set ?_ (by simp)))); (case sc => go_simp); rintro e w' ⟨rfl, ⟨nd0, rfl⟩⟩))
                try rw [Exit.noGoto_ret]
                go_ret2
                exact ⟨_, rfl, Kd.R_nil _ _ _ _ _, by repeat (first | exact HB.out | apply below_alloc | apply pw_below_drewN | apply below_drew1 | refine below_set ?_ (by have := HB.out.size; omega))⟩
            have hn11 : ¬ y0 ≤ 11 := hc
            clear hc
            by_cases hc : y0 ≤ 15
            · have HIN : Aside0 (∀ k : Nat, k < ([y2, y3] : List Int).length → 0 ≤ rd [y2, y3] k ∧ rd [y2, y3] k < is.length) := ⟨told_in2 hr.1 hr.2.1 hr.2.2.1 hr.2.2.2⟩
              have c5 : (y0 == 5) = false := beq_eq_false_iff_ne.mpr hn5
              have c6 : (y0 == 6) = false := beq_eq_false_iff_ne.mpr hn6
              have c11 : decide (y0 ≤ 11) = false := decide_eq_false (by omega)
              have c15 : decide (y0 ≤ 15) = true := decide_eq_true hc
              rw [told_fit15 (by omega) hc] at HT
              clear hr
              cases ht0 : takesB false is [y2, y3] with
              | true =>
                have HT0 := am ht0
                rw [ht0] at HT
                rw [if_pos rfl, told_give15 (by omega)] at HT
                clear ht0
                go_wp2_with (first | (go_at_call 97; (with_reducible refine (kinds_takes.told false true _ _ 2 [y2, y3] w.heap.size A1 k1 is _ HT0.out rfl ?sa ?sb ?sc HIN.out).mono ?_); (case sa => exact told_C2 (by go_simp) (by go_simp)); (case sb => exact Kd.C_below hC1.out (by repeat (first | exact Below.refl _ _ | apply below_alloc | apply pw_below_drewN | apply below_drew1 | refine below_set ?_ (by simp)))); (case sc => go_simp); rintro e w' ⟨rfl, ⟨nd0, rfl⟩⟩) | ((with_reducible refine gate_builtin (b := .append) (xs := #[.tmp 80, .tmp 82]) rfl ?_); at_builtin; refine Kd.R_append Kd.bool (w0 := w) w.heap.size rfl (.tmp 80) (.tmp 82) 149 4 (.bool false) 1 rfl Try.underlying149 info4 rfl (by decide) (by omega) (.slice A1 is.length k1) is true [.bool true] (fun k_ => k_ ≠ w.heap.size) (fun _ => False) rfl (by simp [Act.eval, Act.put]) rfl (fun _ h => h.elim) (fun k_ hk h => by simp at hk; omega) (Kd.R_below HO.out (by repeat (first | exact Below.refl _ _ | apply below_alloc | apply pw_below_drewN | apply below_drew1 | refine below_set ?_ (by simp)))) (by repeat (first | exact HB.out | apply below_alloc | apply pw_below_drewN | apply below_drew1 | refine below_set ?_ (by have := HB.out.size; omega))) (by have := HB.out.size; simp; omega) (by omega) ?_; intro v2 w2 ho2 hb2 hg2 hat2; have hbi2 : w2.heap[w.heap.size]? = some (.cells #[.slice A1 is.length k1] 149 (0, 0)) := told_keep HO.out (by repeat (first | exact Below.refl _ _ | apply below_alloc | apply pw_below_drewN | apply below_drew1 | refine below_set ?_ (by simp))) hg2 BI.out; have HV2 := am ho2; have HB2 := am hb2; have BI2 := am hbi2; clear ho2 hb2 hg2 hat2 hbi2; obtain ⟨A2, k2, e2⟩ := Kd.R_slice HV2.out; subst e2; rw [List.length_append, List.length_singleton] at HV2; have hz0 := (blk_cell BI2.out 0).trans rfl; have hzf := blk_frozen BI2.out 0))
                go_roundg (gk - 1)
                case measure => have := HA.out; omega
                case rel => exact ⟨j + 1, _, _, by go_num, ⟨by have := HA.out; omega, by omega, HT.out, by have := HA.out; simp; omega⟩, ⟨blk_put BI2.out 0 _ rfl⟩, ⟨Kd.R_far HV2.out (fun k hk => hk) _⟩, ⟨below_set HB2.out (Nat.le_refl _)⟩⟩
              | false =>
                have HT0 := am ht0
                rw [ht0, if_neg (by simp)] at HT
                have HF : Aside0 (r1 = [] ∧ r2 = (j : Int)) := ⟨by have h1 := HT.out; simp only [Option.some.injEq, Prod.mk.injEq] at h1; exact ⟨h1.1.symm, h1.2.symm⟩⟩
                clear HT
                obtain ⟨rfl, rfl⟩ := HF.out
                clear ht0
                go_wp2_with (first | (go_at_call 97; (with_reducible refine (kinds_takes.told false false _ _ 2 [y2, y3] w.heap.size A1 k1 is _ HT0.out rfl ?sa ?sb ?sc HIN.out).mono ?_); (case sa => exact told_C2 (by go_simp) (by go_simp)); (case sb => exact Kd.C_below hC1.out (by repeat (first | exact Below.refl _ _ | apply below_alloc | apply pw_below_drewN | apply below_drew1 | refine below_set ?_ (by simp)))); (case sc => go_simp); rintro e w' ⟨rfl, ⟨nd0, rfl⟩⟩))
                try rw [Exit.noGoto_ret]
                go_ret2
                exact ⟨_, rfl, Kd.R_nil _ _ _ _ _, by repeat (first | exact HB.out | apply below_alloc | apply pw_below_drewN | apply below_drew1 | refine below_set ?_ (by have := HB.out.size; omega))⟩
            have hn15 : ¬ y0 ≤ 15 := hc
            clear hc
            by_cases hc : y0 ≤ 17
            · have HIN : Aside0 (∀ k : Nat, k < ([y2, y3] : List Int).length → 0 ≤ rd [y2, y3] k ∧ rd [y2, y3] k < is.length) := ⟨told_in2 hr.1 hr.2.1 hr.2.2.1 hr.2.2.2⟩
              have c5 : (y0 == 5) = false := beq_eq_false_iff_ne.mpr hn5
              have c6 : (y0 == 6) = false := beq_eq_false_iff_ne.mpr hn6
              have c11 : decide (y0 ≤ 11) = false := decide_eq_false (by omega)
              have c15 : decide (y0 ≤ 15) = false := decide_eq_false (by omega)
              have c17 : decide (y0 ≤ 17) = true := decide_eq_true hc
              rw [told_fit17 (by omega) hc] at HT
              clear hr
              cases ht0 : takesB false is [y2, y3] with
              | true =>
                have HT0 := am ht0
                rw [ht0, Bool.true_or] at HT
                rw [if_pos rfl, told_give15 (by omega)] at HT
                clear ht0
                go_wp2_with (first | (go_at_call 97; (with_reducible refine (kinds_takes.told false true _ _ 2 [y2, y3] w.heap.size A1 k1 is _ HT0.out rfl ?sa ?sb ?sc HIN.out).mono ?_); (case sa => exact told_C2 (by go_simp) (by go_simp)); (case sb => exact Kd.C_below hC1.out (by repeat (first | exact Below.refl _ _ | apply below_alloc | apply pw_below_drewN | apply below_drew1 | refine below_set ?_ (by simp)))); (case sc => go_simp); rintro e w' ⟨rfl, ⟨nd0, rfl⟩⟩) | ((with_reducible refine gate_builtin (b := .append) (xs := #[.tmp 80, .tmp 82]) rfl ?_); at_builtin; refine Kd.R_append Kd.bool (w0 := w) w.heap.size rfl (.tmp 80) (.tmp 82) 149 4 (.bool false) 1 rfl Try.underlying149 info4 rfl (by decide) (by omega) (.slice A1 is.length k1) is true [.bool true] (fun k_ => k_ ≠ w.heap.size) (fun _ => False) rfl (by simp [Act.eval, Act.put]) rfl (fun _ h => h.elim) (fun k_ hk h => by simp at hk; omega) (Kd.R_below HO.out (by repeat (first | exact Below.refl _ _ | apply below_alloc | apply pw_below_drewN | apply below_drew1 | refine below_set ?_ (by simp)))) (by repeat (first | exact HB.out | apply below_alloc | apply pw_below_drewN | apply below_drew1 | refine below_set ?_ (by have := HB.out.size; omega))) (by have := HB.out.size; simp; omega) (by omega) ?_; intro v2 w2 ho2 hb2 hg2 hat2; have hbi2 : w2.heap[w.heap.size]? = some (.cells #[.slice A1 is.length k1] 149 (0, 0)) := told_keep HO.out (by repeat (first | exact Below.refl _ _ | apply below_alloc | apply pw_below_drewN | apply below_drew1 | refine below_set ?_ (by simp))) hg2 BI.out; have HV2 := am ho2; have HB2 := am hb2; have BI2 := am hbi2; clear ho2 hb2 hg2 hat2 hbi2; obtain ⟨A2, k2, e2⟩ := Kd.R_slice HV2.out; subst e2; rw [List.length_append, List.length_singleton] at HV2; have hz0 := (blk_cell BI2.out 0).trans rfl; have hzf := blk_frozen BI2.out 0))
                go_roundg (gk - 1)
                case measure => have := HA.out; omega
                case rel => exact ⟨j + 1, _, _, by go_num, ⟨by have := HA.out; omega, by omega, HT.out, by have := HA.out; simp; omega⟩, ⟨blk_put BI2.out 0 _ rfl⟩, ⟨Kd.R_far HV2.out (fun k hk => hk) _⟩, ⟨below_set HB2.out (Nat.le_refl _)⟩⟩
              | false =>
                have HT0 := am ht0
                rw [ht0, Bool.false_or] at HT
                clear ht0
                cases ht1 : takesB true is [y2, y3] with
                | true =>
                  have HT1 := am ht1
                  rw [ht1] at HT
                  rw [if_pos rfl, told_give15 (by omega)] at HT
                  clear ht1
                  go_wp2_with (first | (go_at_call 97; (with_reducible refine (kinds_takes.told false false _ _ 2 [y2, y3] w.heap.size A1 k1 is _ HT0.out rfl ?sa ?sb ?sc HIN.out).mono ?_); (case sa => exact told_C2 (by go_simp) (by go_simp)); (case sb => exact Kd.C_below hC1.out (by repeat (first | exact Below.refl _ _ | apply below_alloc | apply pw_below_drewN | apply below_drew1 | refine below_set ?_ (by simp)))); (case sc => go_simp); rintro e w' ⟨rfl, ⟨nd0, rfl⟩⟩) | (go_at_call 97; (with_reducible refine (kinds_takes.told true true _ _ 2 [y2, y3] w.heap.size A1 k1 is _ HT1.out rfl ?sa ?sb ?sc HIN.out).mono ?_); (case sa => exact told_C2 (by go_simp) (by go_simp)); (case sb => exact Kd.C_below hC1.out (by repeat (first | exact Below.refl _ _ | apply below_alloc | apply pw_below_drewN | apply below_drew1 | refine below_set ?_ (by simp)))); (case sc => go_simp); rintro e w' ⟨rfl, ⟨nd1, rfl⟩⟩) | ((with_reducible refine gate_builtin (b := .append) (xs := #[.tmp 80, .tmp 82]) rfl ?_); at_builtin; refine Kd.R_append Kd.bool (w0 := w) w.heap.size rfl (.tmp 80) (.tmp 82) 149 4 (.bool false) 1 rfl Try.underlying149 info4 rfl (by decide) (by omega) (.slice A1 is.length k1) is true [.bool true] (fun k_ => k_ ≠ w.heap.size) (fun _ => False) rfl (by simp [Act.eval, Act.put]) rfl (fun _ h => h.elim) (fun k_ hk h => by simp at hk; omega) (Kd.R_below HO.out (by repeat (first | exact Below.refl _ _ | apply below_alloc | apply pw_below_drewN | apply below_drew1 | refine below_set ?_ (by simp)))) (by repeat (first | exact HB.out | apply below_alloc | apply pw_below_drewN | apply below_drew1 | refine below_set ?_ (by have := HB.out.size; omega))) (by have := HB.out.size; simp; omega) (by omega) ?_; intro v2 w2 ho2 hb2 hg2 hat2; have hbi2 : w2.heap[w.heap.size]? = some (.cells #[.slice A1 is.length k1] 149 (0, 0)) := told_keep HO.out (by repeat (first | exact Below.refl _ _ | apply below_alloc | apply pw_below_drewN | apply below_drew1 | refine below_set ?_ (by simp))) hg2 BI.out; have HV2 := am ho2; have HB2 := am hb2; have BI2 := am hbi2; clear ho2 hb2 hg2 hat2 hbi2; obtain ⟨A2, k2, e2⟩ := Kd.R_slice HV2.out; subst e2; rw [List.length_append, List.length_singleton] at HV2; have hz0 := (blk_cell BI2.out 0).trans rfl; have hzf := blk_frozen BI2.out 0))
                  go_roundg (gk - 1)
                  case measure => have := HA.out; omega
                  case rel => exact ⟨j + 1, _, _, by go_num, ⟨by have := HA.out; omega, by omega, HT.out, by have := HA.out; simp; omega⟩, ⟨blk_put BI2.out 0 _ rfl⟩, ⟨Kd.R_far HV2.out (fun k hk => hk) _⟩, ⟨below_set HB2.out (Nat.le_refl _)⟩⟩
                | false =>
                  have HT1 := am ht1
                  rw [ht1, if_neg (by simp)] at HT
                  have HF : Aside0 (r1 = [] ∧ r2 = (j : Int)) := ⟨by have h1 := HT.out; simp only [Option.some.injEq, Prod.mk.injEq] at h1; exact ⟨h1.1.symm, h1.2.symm⟩⟩
                  clear HT
                  obtain ⟨rfl, rfl⟩ := HF.out
                  clear ht1
                  go_wp2_with (first | (go_at_call 97; (with_reducible refine (kinds_takes.told false false _ _ 2 [y2, y3] w.heap.size A1 k1 is _ HT0.out rfl ?sa ?sb ?sc HIN.out).mono ?_); (case sa => exact told_C2 (by go_simp) (by go_simp)); (case sb => exact Kd.C_below hC1.out (by repeat (first | exact Below.refl _ _ | apply below_alloc | apply pw_below_drewN | apply below_drew1 | refine below_set ?_ (by simp)))); (case sc => go_simp); rintro e w' ⟨rfl, ⟨nd0, rfl⟩⟩) | (go_at_call 97; (with_reducible refine (kinds_takes.told true false _ _ 2 [y2, y3] w.heap.size A1 k1 is _ HT1.out rfl ?sa ?sb ?sc HIN.out).mono ?_); (case sa => exact told_C2 (by go_simp) (by go_simp)); (case sb => exact Kd.C_below hC1.out (by repeat (first | exact Below.refl _ _ | apply below_alloc | apply pw_below_drewN | apply below_drew1 | refine below_set ?_ (by simp)))); (case sc => go_simp); rintro e w' ⟨rfl, ⟨nd1, rfl⟩⟩))
                  try rw [Exit.noGoto_ret]
                  go_ret2
                  exact ⟨_, rfl, Kd.R_nil _ _ _ _ _, by repeat (first | exact HB.out | apply below_alloc | apply pw_below_drewN | apply below_drew1 | refine below_set ?_ (by have := HB.out.size; omega))⟩
            have hn17 : ¬ y0 ≤ 17 := hc
            clear hc
            have HIN : Aside0 (∀ k : Nat, k < ([y2, y3] : List Int).length → 0 ≤ rd [y2, y3] k ∧ rd [y2, y3] k < is.length) := ⟨told_in2 hr.1 hr.2.1 hr.2.2.1 hr.2.2.2⟩
            have c5 : (y0 == 5) = false := beq_eq_false_iff_ne.mpr hn5
            have c6 : (y0 == 6) = false := beq_eq_false_iff_ne.mpr hn6
            have c11 : decide (y0 ≤ 11) = false := decide_eq_false (by omega)
            have c15 : decide (y0 ≤ 15) = false := decide_eq_false (by omega)
            have c17 : decide (y0 ≤ 17) = false := decide_eq_false hn17
            rw [told_fit18 (by omega)] at HT
            clear hr
            cases ht1 : takesB true is [y2, y3] with
            | true =>
              have HT1 := am ht1
              rw [ht1] at HT
              rw [if_pos rfl, told_give15 (by omega)] at HT
              clear ht1
              go_wp2_with (first | (go_at_call 97; (with_reducible refine (kinds_takes.told true true _ _ 2 [y2, y3] w.heap.size A1 k1 is _ HT1.out rfl ?sa ?sb ?sc HIN.out).mono ?_); (case sa => exact told_C2 (by go_simp) (by go_simp)); (case sb => exact Kd.C_below hC1.out (by repeat (first | exact Below.refl _ _ | apply below_alloc | apply pw_below_drewN | apply below_drew1 | refine below_set ?_ (by simp)))); (case sc => go_simp); rintro e w' ⟨rfl, ⟨nd1, rfl⟩⟩) | ((with_reducible refine gate_builtin (b := .append) (xs := #[.tmp 80, .tmp 82]) rfl ?_); at_builtin; refine Kd.R_append Kd.bool (w0 := w) w.heap.size rfl (.tmp 80) (.tmp 82) 149 4 (.bool false) 1 rfl Try.underlying149 info4 rfl (by decide) (by omega) (.slice A1 is.length k1) is true [.bool true] (fun k_ => k_ ≠ w.heap.size) (fun _ => False) rfl (by simp [Act.eval, Act.put]) rfl (fun _ h => h.elim) (fun k_ hk h => by simp at hk; omega) (Kd.R_below HO.out (by repeat (first | exact Below.refl _ _ | apply below_alloc | apply pw_below_drewN | apply below_drew1 | refine below_set ?_ (by simp)))) (by repeat (first | exact HB.out | apply below_alloc | apply pw_below_drewN | apply below_drew1 | refine below_set ?_ (by have := HB.out.size; omega))) (by have := HB.out.size; simp; omega) (by omega) ?_; intro v2 w2 ho2 hb2 hg2 hat2; have hbi2 : w2.heap[w.heap.size]? = some (.cells #[.slice A1 is.length k1] 149 (0, 0)) := told_keep HO.out (by repeat (first | exact Below.refl _ _ | apply below_alloc | apply pw_below_drewN | apply below_drew1 | refine below_set ?_ (by simp))) hg2 BI.out; have HV2 := am ho2; have HB2 := am hb2; have BI2 := am hbi2; clear ho2 hb2 hg2 hat2 hbi2; obtain ⟨A2, k2, e2⟩ := Kd.R_slice HV2.out; subst e2; rw [List.length_append, List.length_singleton] at HV2; have hz0 := (blk_cell BI2.out 0).trans rfl; have hzf := blk_frozen BI2.out 0))
              go_roundg (gk - 1)
              case measure => have := HA.out; omega
              case rel => exact ⟨j + 1, _, _, by go_num, ⟨by have := HA.out; omega, by omega, HT.out, by have := HA.out; simp; omega⟩, ⟨blk_put BI2.out 0 _ rfl⟩, ⟨Kd.R_far HV2.out (fun k hk => hk) _⟩, ⟨below_set HB2.out (Nat.le_refl _)⟩⟩
            | false =>
              have HT1 := am ht1
              rw [ht1, if_neg (by simp)] at HT
              have HF : Aside0 (r1 = [] ∧ r2 = (j : Int)) := ⟨by have h1 := HT.out; simp only [Option.some.injEq, Prod.mk.injEq] at h1; exact ⟨h1.1.symm, h1.2.symm⟩⟩
              clear HT
              obtain ⟨rfl, rfl⟩ := HF.out
              clear ht1
              go_wp2_with (first | (go_at_call 97; (with_reducible refine (kinds_takes.told true false _ _ 2 [y2, y3] w.heap.size A1 k1 is _ HT1.out rfl ?sa ?sb ?sc HIN.out).mono ?_); (case sa => exact told_C2 (by go_simp) (by go_simp)); (case sb => exact Kd.C_below hC1.out (by repeat (first | exact Below.refl _ _ | apply below_alloc | apply pw_below_drewN | apply below_drew1 | refine below_set ?_ (by simp)))); (case sc => go_simp); rintro e w' ⟨rfl, ⟨nd1, rfl⟩⟩))
              try rw [Exit.noGoto_ret]
              go_ret2
              exact ⟨_, rfl, Kd.R_nil _ _ _ _ _, by repeat (first | exact HB.out | apply below_alloc | apply pw_below_drewN | apply below_drew1 | refine below_set ?_ (by have := HB.out.size; omega))⟩
          · rw [if_neg hr] at HT
            exact absurd HT.out (by simp)
      · have c2 : decide (j < l0.length) = false := decide_eq_false hj
        have hjl : j = l0.length := by have := HA.out.2.1; omega
        have HF : Aside0 (r1 = is ∧ r2 = (l0.length : Int)) := by
          have h1 := HA.out.2.2.1
          rw [hjl, List.drop_length] at h1
          simp only [toldGo, Option.some.injEq, Prod.mk.injEq] at h1
          exact ⟨⟨h1.1.symm, h1.2.symm⟩⟩
        clear hjl hj
        obtain ⟨A1, k1, e1⟩ := Kd.R_slice HO.out
        subst e1
        have hi0 : wr.cell? ⟨w.heap.size, 0, none⟩ = some (.slice A1 is.length k1) := (blk_cell BI.out 0).trans rfl
        go_wp2
        try rw [Exit.noGoto_ret]
        go_ret2
        obtain ⟨rfl, rfl⟩ := HF.out
        exact ⟨_, rfl, Kd.R_mono HO.out (fun _ _ => trivial), HB.out⟩
  · rw [if_neg hlen] at h
    cases h

end Go.Proofs.Ytcdgohoinmbpfaa.M
