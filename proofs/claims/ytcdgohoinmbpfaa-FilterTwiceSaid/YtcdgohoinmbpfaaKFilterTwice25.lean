import Derived.Test.YtcdgohoinmbpfaaKFilterTwice24
import Derived.Test.YtcdgohoinmbpfaaKFilterTwice23
import Derived.WalkSpells
import Derived.Test.YtcdgohoinmbpfaaKFilterTwice6
import Derived.Test.YtcdgohoinmbpfaaKFilterTwice22
namespace Go.Proofs.Ytcdgohoinmbpfaa.M
open Go.RowKit Go.Proofs.YtcdgohoinmbpfaaW.PrintWords Go.Proofs.YtcdgohoinmbpfaaW.PrintLast Go.Proofs.YtcdgohoinmbpfaaW.PrintMore
set_option linter.unusedVariables false
set_option linter.unusedSimpArgs false

def leafVal (k t v : Int) (kind : Int) : Int := if kind = 2 then k else if kind = 3 then t else v
def evGo (a b c : Int) : List S61 → Nat → List Int → Option (List Int × Int)
  | [], _, v => some (v, 0)
  | x :: xs, i, v =>
    if x.f0 = 1 then evGo a b c xs (i + 1) (v.set i x.f1) else
    if 2 ≤ x.f0 ∧ x.f0 ≤ 4 then evGo a b c xs (i + 1) (v.set i (leafVal a b c x.f0)) else
    if x.f0 ≤ 4 then none else
    if 0 ≤ x.f2 ∧ x.f2 < v.length ∧ 0 ≤ x.f3 ∧ x.f3 < v.length then
      (ints_Do.f x.f0 (rd v x.f2) (rd v x.f3)).bind fun r => if r.2 = 0 then evGo a b c xs (i + 1) (v.set i r.1) else some ([], r.2)
    else none
def evals_All.f (l0 : List (S61)) (a1_0 : Int) (a1_1 : Int) (a1_2 : Int) : Option (List Int × Int) :=
  (evals_check.f l0).bind fun e => if e = 0 then (if 0 < l0.length ∧ l0.length ≤ 1000 then evGo a1_0 a1_1 a1_2 l0 0 (List.replicate l0.length 0) else none) else some ([], e)

set_option maxHeartbeats 8000000 in
set_option maxRecDepth 100000 in
theorem evals_All.calls (A0 : Option Addr) (c0 : Nat) (l0 : List (S61)) (a1_0 : Int) (a1_1 : Int) (a1_2 : Int) (r1 : List Int) (r2 : Int) (w : World) (hr0 : Kd.C k61 w A0 l0.length l0) (hc0 : l0.length ≤ c0) (h : evals_All.f l0 a1_0 a1_1 a1_2 = some (r1, r2)) :
    Calls Try.prog 35 #[.slice A0 l0.length c0, .agg #[.int .i64 a1_0, .int .i64 a1_1, .int .i64 a1_2]] w fun e w' => ∃ v0_ : Value, e = .returned (.tuple #[v0_, .int .i64 r2]) ∧ Kd.R (Kd.int .i64) 2 w' w.heap.size (fun _ => True) v0_ r1 ∧ Below w.heap.size w w' := by
  have hu1 := Try.underlying43
  have hu2 := Try.underlying61
  have HR0 := am hr0
  have HC0 := am hc0
  unfold evals_All.f at h
  obtain ⟨e0, hck, h⟩ := Option.bind_eq_some_iff.mp h
  have HCK := am hck
  clear hr0 hc0 hck
  by_cases he : e0 = 0
  · subst he
    rw [if_pos rfl] at h
    by_cases hl : 0 < l0.length ∧ l0.length ≤ 1000
    · rw [if_pos hl] at h
      have H := am h
      have hl1 := hl.1
      have hl2 := hl.2
      have b1 : ((0 : Int) != 0) = false := rfl
      clear h hl
      go_enter Try.func35, Try.ntmps35
      go_wp2_with (first | (go_at_call 52; (with_reducible refine (evals_check.calls A0 c0 l0 0 _ (by repeat (first | exact HR0.out | (with_reducible refine Kd.C_alloc ?_ _) | (with_reducible refine Kd.C_drewN ?_ _))) HC0.out HCK.out).mono ?_); rintro e w1 ⟨rfl, hb⟩; have hbx1 : w1.heap[w.heap.size]? = some (.cells #[.int .i64 a1_0, .int .i64 a1_1, .int .i64 a1_2] 43 (0, 0)) := blk_below (blk_new _ _) hb; have h10 : w1.cell? ⟨w.heap.size, 0, none⟩ = some (.int .i64 a1_0) := (blk_cell hbx1 0).trans rfl; have h11 : w1.cell? ⟨w.heap.size, 1, none⟩ = some (.int .i64 a1_1) := (blk_cell hbx1 1).trans rfl; have h12 : w1.cell? ⟨w.heap.size, 2, none⟩ = some (.int .i64 a1_2) := (blk_cell hbx1 2).trans rfl; have HB1 : Aside0 (Below w.heap.size w w1) := ⟨(below_alloc (Below.refl _ _) _).trans (hb.mono (by simp))⟩; clear hb hbx1) | ((with_reducible refine gate_dst (N := 27) rfl ?_); refine Kd.R_make (Kd.int .i64) (w0 := w) w.heap.size 2 rfl rfl 25 (.tmp 26) (.tmp 26) rfl (l0.length : Int) rfl rfl Try.underlying25 (.int .i64 0) 8 info2 rfl (by decide) (by decide) 0 (ok := fun k_ => w1.heap.size < k_) (okp := fun _ => False) ?zero (fun _ h => h.elim) (by simp) (by omega) (by omega) (below_alloc HB1.out _) (by have := HB1.out.size; simp; omega) ?_; (case zero => rfl); intro v3 w3 ho3 hb3 hg3 hn3; rw [Int.toNat_natCast] at ho3; obtain ⟨g, c3, rfl, hg1, hg2, cs3, hcs3⟩ := Kd.R_form ho3 (by simp; omega); have hgg : w1.heap.size < g := ho3.1 g rfl; simp only [List.length_replicate] at ho3 ⊢; have hbx3 : w3.heap[w1.heap.size]? = some (.cells #[.int .i64 0, .int .i64 0, .int .i64 a1_0, .int .i64 a1_1, .int .i64 a1_2] 109 (0, 0)) := blk_grown (blk_new _ _) hg3 (by simp); have HO3 := am ho3; have HB3 := am hb3; have BX3 := am hbx3; have HGG := am hgg; clear ho3 hb3 hg3 hn3 hbx3 hcs3 hg1 hg2 hgg))
      go_loopg [30] (l0.length + 1) (fun kq v30 W => ∃ (i : Nat) (v : List Int), v30 = .int .i64 i ∧ Aside0 (kq + i = l0.length + 1 ∧ i ≤ l0.length ∧ v.length = l0.length ∧ evGo a1_0 a1_1 a1_2 (l0.drop i) i v = some (r1, r2)) ∧ Aside0 (W.heap[w1.heap.size]? = some (.cells #[.int .i64 0, .int .i64 0, .int .i64 a1_0, .int .i64 a1_1, .int .i64 a1_2] 109 (0, 0))) ∧ Aside0 (Kd.R (Kd.int .i64) 2 W w.heap.size (fun k_ => w1.heap.size < k_) (.slice (some ⟨g, 0, none⟩) l0.length c3) v) ∧ Aside0 (Below w.heap.size w W))
      case atStart => exact ⟨0, List.replicate l0.length 0, rfl, ⟨by omega, by omega, by simp, H.out⟩, BX3, HO3, HB3⟩
      case round =>
        obtain ⟨wo, rfl⟩ : ∃ wo : World, wo = wr := ⟨_, rfl⟩
        obtain ⟨i, v, rfl, HA, BX, HO, HB⟩ := hrel
        by_cases hi : i < l0.length
        · have c2 : decide ((i : Int) < (l0.length : Int)) = true := decide_eq_true (by omega)
          have c2' : decide (i < l0.length) = true := decide_eq_true hi
          obtain ⟨ad, ead, hx0, hx1, hx2, hx3, hx4⟩ := at_T61 HR0.out i (by omega) (by omega)
          cases ead
          rw [Int.toNat_natCast] at hx0 hx1 hx2 hx3 hx4
          replace hx0 := (HB.out.cell (World.block_lt_of_cell? w _ hx0)).trans hx0
          replace hx1 := (HB.out.cell (World.block_lt_of_cell? w _ hx1)).trans hx1
          replace hx2 := (HB.out.cell (World.block_lt_of_cell? w _ hx2)).trans hx2
          replace hx3 := (HB.out.cell (World.block_lt_of_cell? w _ hx3)).trans hx3
          replace hx4 := (HB.out.cell (World.block_lt_of_cell? w _ hx4)).trans hx4
          obtain ⟨y, hy⟩ : ∃ y : S61, y = rd_T61 l0 i := ⟨_, rfl⟩
          rw [← hy] at hx0 hx1 hx2 hx3 hx4
          have hd : l0.drop i = y :: l0.drop (i + 1) := by
            rw [List.drop_eq_getElem_cons hi, hy]; simp [rd_T61, hi]
          have hn2 := HA.out.2.2.2
          rw [hd] at hn2
          obtain ⟨y0, y1, y2, y3, y4⟩ := y
          dsimp only at hx0 hx1 hx2 hx3 hx4
          have HIX : Aside0 (gk + i = l0.length + 1 ∧ i ≤ l0.length ∧ v.length = l0.length) := ⟨HA.out.1, HA.out.2.1, HA.out.2.2.1⟩
          rw [evGo] at hn2
          dsimp only at hn2
          have HOa : Aside0 (Kd.R (Kd.int .i64) 2 (wo.alloc (.cells #[.int .u8 y0, .int .i64 y1, .int .i64 y2, .int .i64 y3, .int .i64 y4] 61)) w.heap.size (fun k_ => w1.heap.size < k_) (.slice (some ⟨g, 0, none⟩) l0.length c3) v) := ⟨Kd.R_alloc HO.out _⟩
          obtain ⟨hvc, hvf⟩ := Kd.R_celln 0 HOa.out (i : Int) (by omega) (by omega)
          rw [Int.toNat_natCast] at hvc hvf
          clear hy hd HA
          by_cases h1 : y0 = 1
          · subst h1
            rw [if_pos rfl] at hn2
            have HN := am hn2
            clear hn2
            go_wp2
            go_roundg (gk - 1)
            case measure => have := HIX.out; omega
            case rel => exact ⟨i + 1, v.set i y1, by go_num, ⟨by have := HIX.out; omega, by omega, by have := HIX.out; simp; omega, HN.out⟩, ⟨(Below.heap_setCell _ _ _ _ (by have := HGG.out; show _ ≠ g; omega)).trans (blk_below BX.out (below_alloc (Below.refl _ _) _))⟩, ⟨by have := Kd.R_putn HOa.out (i : Int) y1; rwa [Int.toNat_natCast] at this⟩, ⟨below_set (below_alloc HB.out _) (by have := HGG.out; have := HB1.out.size; show _ ≤ g; omega)⟩⟩
          · rw [if_neg h1] at hn2
            by_cases h4 : y0 ≤ 4
            · by_cases h2 : 2 ≤ y0
              · rw [if_pos ⟨h2, h4⟩] at hn2
                have h3 : y0 = 2 ∨ y0 = 3 ∨ y0 = 4 := by omega
                clear h1 h2 h4
                rcases h3 with rfl | rfl | rfl
                · have HN : Aside0 (evGo a1_0 a1_1 a1_2 (l0.drop (i + 1)) (i + 1) (v.set i a1_0) = some (r1, r2)) := ⟨hn2⟩
                  have hfd : wo.cell? ⟨w1.heap.size, 2, none⟩ = some (.int .i64 a1_0) := (blk_cell BX.out 2).trans rfl
                  have hs1 : w1.heap.size < wo.heap.size := blk_lt BX.out
                  clear hn2
                  go_wp2
                  go_roundg (gk - 1)
                  case measure => have := HIX.out; omega
                  case rel => exact ⟨i + 1, v.set i a1_0, by go_num, ⟨by have := HIX.out; omega, by omega, by have := HIX.out; simp; omega, HN.out⟩, ⟨(Below.heap_setCell _ _ _ _ (by have := HGG.out; show _ ≠ g; omega)).trans (blk_below BX.out (below_alloc (Below.refl _ _) _))⟩, ⟨by have := Kd.R_putn HOa.out (i : Int) a1_0; rwa [Int.toNat_natCast] at this⟩, ⟨below_set (below_alloc HB.out _) (by have := HGG.out; have := HB1.out.size; show _ ≤ g; omega)⟩⟩
                · have HN : Aside0 (evGo a1_0 a1_1 a1_2 (l0.drop (i + 1)) (i + 1) (v.set i a1_1) = some (r1, r2)) := ⟨hn2⟩
                  have hfd : wo.cell? ⟨w1.heap.size, 3, none⟩ = some (.int .i64 a1_1) := (blk_cell BX.out 3).trans rfl
                  have hs1 : w1.heap.size < wo.heap.size := blk_lt BX.out
                  clear hn2
                  go_wp2
                  go_roundg (gk - 1)
                  case measure => have := HIX.out; omega
                  case rel => exact ⟨i + 1, v.set i a1_1, by go_num, ⟨by have := HIX.out; omega, by omega, by have := HIX.out; simp; omega, HN.out⟩, ⟨(Below.heap_setCell _ _ _ _ (by have := HGG.out; show _ ≠ g; omega)).trans (blk_below BX.out (below_alloc (Below.refl _ _) _))⟩, ⟨by have := Kd.R_putn HOa.out (i : Int) a1_1; rwa [Int.toNat_natCast] at this⟩, ⟨below_set (below_alloc HB.out _) (by have := HGG.out; have := HB1.out.size; show _ ≤ g; omega)⟩⟩
                · have HN : Aside0 (evGo a1_0 a1_1 a1_2 (l0.drop (i + 1)) (i + 1) (v.set i a1_2) = some (r1, r2)) := ⟨hn2⟩
                  have hfd : wo.cell? ⟨w1.heap.size, 4, none⟩ = some (.int .i64 a1_2) := (blk_cell BX.out 4).trans rfl
                  have hs1 : w1.heap.size < wo.heap.size := blk_lt BX.out
                  clear hn2
                  go_wp2
                  go_roundg (gk - 1)
                  case measure => have := HIX.out; omega
                  case rel => exact ⟨i + 1, v.set i a1_2, by go_num, ⟨by have := HIX.out; omega, by omega, by have := HIX.out; simp; omega, HN.out⟩, ⟨(Below.heap_setCell _ _ _ _ (by have := HGG.out; show _ ≠ g; omega)).trans (blk_below BX.out (below_alloc (Below.refl _ _) _))⟩, ⟨by have := Kd.R_putn HOa.out (i : Int) a1_2; rwa [Int.toNat_natCast] at this⟩, ⟨below_set (below_alloc HB.out _) (by have := HGG.out; have := HB1.out.size; show _ ≤ g; omega)⟩⟩
              · rw [if_neg (by omega), if_pos h4] at hn2; cases hn2
            · rw [if_neg (by omega), if_neg h4] at hn2
              by_cases hb : 0 ≤ y2 ∧ y2 < v.length ∧ 0 ≤ y3 ∧ y3 < v.length
              · rw [if_pos hb] at hn2
                obtain ⟨⟨n, e⟩, hdo, hn3⟩ := Option.bind_eq_some_iff.mp hn2
                have HDO := am hdo
                have hvl := HIX.out.2.2
                have b01 : 0 ≤ y2 := hb.1
                have b02 : y2 < (l0.length : Int) := by have := hb.2.1; omega
                have b03 : 0 ≤ y3 := hb.2.2.1
                have b04 : y3 < (l0.length : Int) := by have := hb.2.2.2; omega
                obtain ⟨hac, haf⟩ := Kd.R_celln 0 HOa.out y2 b01 b02
                obtain ⟨hbc, hbf⟩ := Kd.R_celln 0 HOa.out y3 b03 b04
                have q1 : (y0 == 1) = false := beq_eq_false_iff_ne.mpr h1
                have q2 : decide (y0 ≤ 4) = false := decide_eq_false h4
                have hrd : ∀ j, rdOf 0 v j = rd v j := fun j => rfl
                rw [hrd] at hac hbc
                clear hb hdo hn2 h1 h4 hvl hrd
                by_cases he : e = 0
                · subst he
                  rw [if_pos rfl] at hn3
                  have HN := am hn3
                  clear hn3
                  go_wp2_with (first | go_quiet (first | (go_at_call 53; (with_reducible refine (ints_Do.calls y0 (rd v y2) (rd v y3) n _ _ HDO.out).mono ?_); rintro e_ w' ⟨rfl, ⟨nd, rfl⟩⟩; try exact ⟨rfl, _, World.drewN_drewN _ _ _⟩)))
                  go_roundg (gk - 1)
                  case measure => have := HIX.out; omega
                  case rel => exact ⟨i + 1, v.set i n, by go_num, ⟨by have := HIX.out; omega, by omega, by have := HIX.out; simp; omega, HN.out⟩, ⟨(Below.heap_setCell _ _ _ _ (by have := HGG.out; show _ ≠ g; omega)).trans (blk_below BX.out (pw_below_drewN (below_alloc (w := wo) (W := wo) (Below.refl _ _) _) _))⟩, ⟨by have := Kd.R_putn (Kd.R_drewN HOa.out nq) (i : Int) n; rwa [Int.toNat_natCast] at this⟩, ⟨below_set (pw_below_drewN (below_alloc HB.out _) _) (by have := HGG.out; have := HB1.out.size; show _ ≤ g; omega)⟩⟩
                · rw [if_neg he] at hn3
                  obtain ⟨rfl, rfl⟩ := Prod.mk.inj (Option.some.inj hn3)
                  have b6 := bne_iff_ne.mpr he
                  clear hn3 he
                  go_wp2_with (first | go_quiet (first | (go_at_call 53; (with_reducible refine (ints_Do.calls y0 (rd v y2) (rd v y3) n _ _ HDO.out).mono ?_); rintro e_ w' ⟨rfl, ⟨nd, rfl⟩⟩; try exact ⟨rfl, _, World.drewN_drewN _ _ _⟩)))
                  go_ret2
                  exact ⟨_, rfl, Kd.R_nil _ _ _ _ _, pw_below_drewN (below_alloc HB.out _) _⟩
              · rw [if_neg hb] at hn2; cases hn2
        · have hil : i = l0.length := by have := HA.out; omega
          have c2 : decide ((i : Int) < (l0.length : Int)) = false := decide_eq_false (by omega)
          have c2' : decide (i < l0.length) = false := decide_eq_false hi
          have hn2 := HA.out.2.2.2
          rw [hil, List.drop_length, evGo] at hn2
          obtain ⟨rfl, rfl⟩ := Prod.mk.inj (Option.some.inj hn2)
          clear hil hi hn2 HA H
          go_wp2
          go_ret2
          exact ⟨_, rfl, Kd.R_mono HO.out (fun _ _ => trivial), HB.out⟩
    · rw [if_neg hl] at h; cases h
  · rw [if_neg he] at h
    obtain ⟨rfl, rfl⟩ := Prod.mk.inj (Option.some.inj h)
    have b1 : (e0 != 0) = true := bne_iff_ne.mpr he
    clear he h
    go_enter Try.func35, Try.ntmps35
    go_wp2_with (first | (go_at_call 52; (with_reducible refine (evals_check.calls A0 c0 l0 e0 _ (by repeat (first | exact HR0.out | (with_reducible refine Kd.C_alloc ?_ _) | (with_reducible refine Kd.C_drewN ?_ _))) HC0.out HCK.out).mono ?_); rintro e w1 ⟨rfl, hb⟩; have HB1 := am hb; clear hb))
    go_ret2
    exact ⟨_, rfl, Kd.R_nil _ _ _ _ _, (below_alloc (Below.refl _ _) _).trans (HB1.out.mono (by simp))⟩

end Go.Proofs.Ytcdgohoinmbpfaa.M
namespace Go.Proofs.Ytcdgohoinmbpfaa.M
open Go.RowKit Go.Proofs.YtcdgohoinmbpfaaW.PrintWords Go.Proofs.YtcdgohoinmbpfaaW.PrintLast Go.Proofs.YtcdgohoinmbpfaaW.PrintMore
attribute [local go_sem] max2_int min2_int max_two min_two
set_option linter.unusedVariables false
set_option linter.unusedSimpArgs false

def evals_Of.f (l0 : List (S61)) (a1_0 : Int) (a1_1 : Int) (a1_2 : Int) : Option (Int × Int) := (evals_All.f l0 a1_0 a1_1 a1_2).bind fun bt132 => (if bt132.2 = 0 then (if 0 ≤ (wrap64 ((bt132.1.length : Int) - 1)) then (if (wrap64 ((bt132.1.length : Int) - 1)) < (bt132.1.length : Int) then (some (rd bt132.1 (wrap64 ((bt132.1.length : Int) - 1)), 0)) else (none)) else (none)) else (some (0, bt132.2)))
set_option maxHeartbeats 8000000 in
set_option maxRecDepth 100000 in
theorem evals_Of.calls (A0 : Option Addr) (c0 : Nat) (l0 : List (S61)) (a1_0 : Int) (a1_1 : Int) (a1_2 : Int) (r1 : Int) (r2 : Int) (w : World) (hr0 : Kd.C k61 w A0 l0.length l0) (hc0 : l0.length ≤ c0) (h : evals_Of.f l0 a1_0 a1_1 a1_2 = some (r1, r2)) :
  Calls Try.prog 24 #[.slice A0 l0.length c0, .agg #[.int .i64 a1_0, .int .i64 a1_1, .int .i64 a1_2]] w fun e w' => e = .returned (.tuple #[.int .i64 r1, .int .i64 r2]) ∧ Below w.heap.size w w' := by
 have hu43 := Try.underlying43
 have HR0 := am hr0
 have HC0 := am hc0
 clear hr0 hc0
 have HB := am (Below.refl w.heap.size w)
 have H : ((evals_All.f l0 a1_0 a1_1 a1_2).bind fun bt132 => (if bt132.2 = 0 then (if 0 ≤ (wrap64 ((bt132.1.length : Int) - 1)) then (if (wrap64 ((bt132.1.length : Int) - 1)) < (bt132.1.length : Int) then (some (rd bt132.1 (wrap64 ((bt132.1.length : Int) - 1)), 0)) else (none)) else (none)) else (some (0, bt132.2)))) = some (r1, r2) := h
 clear h
 replace H := Option.bind_eq_some_iff.mp H
 obtain ⟨⟨t132, t135⟩, A30, H⟩ := H
 try dsimp only at H
 have A3 := am A30
 clear A30
 by_cases c4 : t135 = 0
 ·rw [if_pos c4] at H
  have c4b0 : (t135 == 0) = true := beq_iff_eq.mpr c4
  have c4b1 : (t135 != 0) = false := bne_eq_false_iff_eq.mpr c4
  clear c4
  obtain ⟨ji5, hji5⟩ : ∃ j_ : Int, (wrap64 ((t132.length : Int) - 1)) = j_ := ⟨_, rfl⟩
  replace H : (if 0 ≤ (ji5) then (if (ji5) < (t132.length : Int) then (some (rd t132 (ji5), 0)) else (none)) else (none)) = some (r1, r2) := by first | (rw [hji5] at H; exact H) | (simp only [hji5] at H ⊢; exact H)
  (try rw [hji5] at A3)
  have hji5w : (IntKind.i64.wrap ((t132.length : Int) - 1)) = ji5 := (i64_w _).trans hji5
  by_cases c6 : 0 ≤ (ji5)
  ·rw [if_pos c6] at H
   have c6b0 : decide (0 ≤ (ji5)) = true := decide_eq_true c6
   clear c6
   by_cases c7 : (ji5) < (t132.length : Int)
   ·rw [if_pos c7] at H
    have c7b0 : decide ((ji5) < (t132.length : Int)) = true := decide_eq_true c7
    clear c7
    simp only [Option.some.injEq, Prod.mk.injEq] at H
    obtain ⟨rfl, rfl⟩ := H
    go_enter Try.func24, Try.ntmps24
    go_wp2_with (first | ((with_reducible refine gate_dst (N := 3) rfl ?_); refine box_event ?hg (N := 3) ?hd (cs := #[.int .i64 a1_0, .int .i64 a1_1, .int .i64 a1_2]) (t := 43) ?hr ?_; (case hd => rfl); (case hg => rfl); (case hr => first | (go_simp; done) | (go_simp; rfl)); intro gb131 hg w8 hbox hb; have BK131 := am (hbox); have GW131 := am ((by rw [hg]; exact (below_size (by exact belL HB.out)) : w.heap.size ≤ gb131)); have GE131 := am ((by rw [hg]; exact (below_size (by exact belL HB.out)) : w.heap.size ≤ gb131)); replace HB := am (below_step (by exact belL HB.out) hb); clear hb hbox hg; obtain ⟨z9_0, z9_1, z9_2, y9_0, y9_1, y9_2⟩ := box3 BK131.out) | ((with_reducible refine gate_callee (f := 35) rfl ?_); refine goesL_ (some 11) rfl rfl Try.func35 (by kernel_rfl) rfl #[.slice A0 l0.length c0, .agg #[.int .i64 a1_0, .int .i64 a1_1, .int .i64 a1_2]] rfl (by (try simp only [List.map_toArray, List.map_cons, List.map_nil]) <;> rfl) ?_; (with_reducible refine (evals_All.calls _ _ l0 a1_0 a1_1 a1_2 t132 t135 _ ?side1 ?side2 A3.out).mono ?_); (case side1 => repeat (first | exact (Kd.C_below HR0.out HB.out) | (with_reducible refine Kd.C_alloc ?_ _) | (with_reducible refine Kd.C_drewN ?_ _) | (with_reducible refine Kd.C_drew ?_))); (case side2 => exact HC0.out); rintro e w10 ⟨v133, rfl, ho0, hb⟩; refine ⟨_, rfl, ?_⟩; have HO134 := am (Kd.R_lower ho0 (below_size (by exact belL HB.out))); replace HB := am (below_step (by exact belL HB.out) hb); (try clear hb); (try clear hb2); (try clear hk); (try clear hi); (try clear ho0); obtain ⟨Ao11, co11, eo11⟩ := Kd.R_slice HO134.out; subst eo11; have p136 : 0 ≤ ((ji5) : Int) := of_decide_eq_true (by first | (with_reducible assumption) | assumption); have q136 : (ji5) < (t132.length : Int) := of_decide_eq_true (by first | (with_reducible assumption) | assumption); obtain ⟨ad136, e136, hx136_0⟩ := Kd.at_int (Kd.R_reads' HO134.out).2.2 (ji5) p136 q136; cases e136; replace p136 := eq_true p136; replace q136 := eq_true q136))
    go_ret2
    exact ⟨by first | rfl | (simp [errW_none, errW_some] <;> rfl) | (simp only [← hji5]; first | rfl | (simp [errW_none, errW_some] <;> rfl)) | (simp [*, errW_none, errW_some] <;> rfl), by repeat (with_reducible first | exact HB.out | refine belS ?_)⟩
   ·rw [if_neg c7] at H
    exact absurd H (by simp)
  ·rw [if_neg c6] at H
   exact absurd H (by simp)
 ·rw [if_neg c4] at H
  have c4b0 : (t135 == 0) = false := beq_eq_false_iff_ne.mpr c4
  have c4b1 : (t135 != 0) = true := bne_iff_ne.mpr c4
  simp only [Option.some.injEq, Prod.mk.injEq] at H
  obtain ⟨rfl, rfl⟩ := H
  go_enter Try.func24, Try.ntmps24
  go_wp2_with (first | ((with_reducible refine gate_dst (N := 3) rfl ?_); refine box_event ?hg (N := 3) ?hd (cs := #[.int .i64 a1_0, .int .i64 a1_1, .int .i64 a1_2]) (t := 43) ?hr ?_; (case hd => rfl); (case hg => rfl); (case hr => first | (go_simp; done) | (go_simp; rfl)); intro gb131 hg w12 hbox hb; have BK131 := am (hbox); have GW131 := am ((by rw [hg]; exact (below_size (by exact belL HB.out)) : w.heap.size ≤ gb131)); have GE131 := am ((by rw [hg]; exact (below_size (by exact belL HB.out)) : w.heap.size ≤ gb131)); replace HB := am (below_step (by exact belL HB.out) hb); clear hb hbox hg; obtain ⟨z13_0, z13_1, z13_2, y13_0, y13_1, y13_2⟩ := box3 BK131.out) | ((with_reducible refine gate_callee (f := 35) rfl ?_); refine goesL_ (some 11) rfl rfl Try.func35 (by kernel_rfl) rfl #[.slice A0 l0.length c0, .agg #[.int .i64 a1_0, .int .i64 a1_1, .int .i64 a1_2]] rfl (by (try simp only [List.map_toArray, List.map_cons, List.map_nil]) <;> rfl) ?_; (with_reducible refine (evals_All.calls _ _ l0 a1_0 a1_1 a1_2 t132 t135 _ ?side1 ?side2 A3.out).mono ?_); (case side1 => repeat (first | exact (Kd.C_below HR0.out HB.out) | (with_reducible refine Kd.C_alloc ?_ _) | (with_reducible refine Kd.C_drewN ?_ _) | (with_reducible refine Kd.C_drew ?_))); (case side2 => exact HC0.out); rintro e w14 ⟨v133, rfl, ho0, hb⟩; refine ⟨_, rfl, ?_⟩; have HO134 := am (Kd.R_lower ho0 (below_size (by exact belL HB.out))); replace HB := am (below_step (by exact belL HB.out) hb); (try clear hb); (try clear hb2); (try clear hk); (try clear hi); (try clear ho0)))
  go_ret2
  exact ⟨by first | rfl | (simp [errW_none, errW_some] <;> rfl) | (simp [*, errW_none, errW_some] <;> rfl), by repeat (with_reducible first | exact HB.out | refine belS ?_)⟩

end Go.Proofs.Ytcdgohoinmbpfaa.M
namespace Go.Proofs.Ytcdgohoinmbpfaa.M
open Go.RowKit Go.Proofs.YtcdgohoinmbpfaaW.PrintWords Go.Proofs.YtcdgohoinmbpfaaW.PrintLast Go.Proofs.YtcdgohoinmbpfaaW.PrintMore
set_option linter.unusedVariables false
set_option linter.unusedSimpArgs false

open Ex in
theorem of_any (l : List Nd) : ∃ g i e, kinds_Of.f l = some (g, i, e) ∧ (e = 0 → ∃ t : Ex, t.Ok ∧ l = t.ser 0 ∧ t.size ≤ 60 ∧ t.depth ≤ 20 ∧ wrongAt (t.ser 0) = t.size ∧ g = kgive t.kd) := by
  obtain ⟨all, c, hck, _, _⟩ := check_eq l
  by_cases hc : c = 0
  · subst hc
    obtain ⟨t, ht, rfl, rfl, hz, hd⟩ := parse hck
    rw [of_tree ht hz hd]
    have hle := wrong_le t
    by_cases hw : wrongAt (t.ser 0) < t.size
    · rw [if_pos hw]; exact ⟨_, _, _, rfl, fun h => by cases h⟩
    · rw [if_neg hw]; exact ⟨_, _, _, rfl, fun _ => ⟨t, ht, rfl, hz, hd, by omega, rfl⟩⟩
  · refine ⟨false, 0, c, ?_, fun h => absurd h hc⟩
    unfold kinds_Of.f nodes_Check.f
    rw [hck, Option.bind_some, Option.bind_some, if_neg hc]
namespace Ex
def val (a b c : Int) : Ex → Int
  | leaf k n t => if k = 1 then n else leafVal a b c k
  | one k t x => opv k (x.val a b c) 0
  | two k t x y => opv k (x.val a b c) (y.val a b c)
def vals (a b c : Int) : Ex → List Int
  | leaf k n t => [val a b c (leaf k n t)]
  | one k t x => x.vals a b c ++ [val a b c (one k t x)]
  | two k t x y => x.vals a b c ++ (y.vals a b c ++ [val a b c (two k t x y)])
variable {a b c : Int}
theorem vals_len : ∀ (e : Ex), (e.vals a b c).length = e.size
  | leaf _ _ _ => rfl
  | one _ _ x => by simp [vals, size, vals_len x]
  | two _ _ x y => by simp [vals, size, vals_len x, vals_len y]; omega
theorem vals_last : ∀ (e : Ex), ∃ p, e.vals a b c = p ++ [e.val a b c]
  | leaf _ _ _ => ⟨[], rfl⟩
  | one _ _ x => ⟨_, rfl⟩
  | two _ _ x y => ⟨x.vals a b c ++ y.vals a b c, by simp [vals]⟩
theorem Sub.vals {e o s} (h : Sub e o s) : ∃ p q, e.vals a b c = p ++ (s.vals a b c ++ q) ∧ p.length = o := by
  induction h with
  | refl => exact ⟨[], [], by simp, rfl⟩
  | one _ ih => obtain ⟨p, q, h1, h2⟩ := ih; exact ⟨p, q ++ [_], by simp only [Ex.vals, h1, List.append_assoc]; rfl, h2⟩
  | left _ ih => obtain ⟨p, q, h1, h2⟩ := ih; exact ⟨p, q ++ (_ ++ [_]), by simp only [Ex.vals, h1, List.append_assoc]; rfl, h2⟩
  | @right k t x y o s _ ih => obtain ⟨p, q, h1, h2⟩ := ih; exact ⟨x.vals a b c ++ p, q ++ [_], by simp only [Ex.vals, h1, List.append_assoc]; rfl, by rw [List.length_append, vals_len, h2]⟩
theorem last_get {l p : List Int} {x : Int} {n : Nat} (h : l = p ++ [x]) (hn : l.length = n) (pre post : List Int) : (pre ++ (l ++ post))[pre.length + n - 1]? = some x := by
  have hl : p.length + 1 = n := by rw [← hn, h]; simp
  rw [List.getElem?_append_right (by omega), h, List.append_assoc, List.getElem?_append_right (by omega), show pre.length + n - 1 - pre.length - p.length = 0 by omega]
  rfl
theorem Sub.getV {e o s} (h : Sub e o s) : (e.vals a b c)[o + s.size - 1]? = some (s.val a b c) := by
  obtain ⟨p, q, h1, h2⟩ := h.vals (a := a) (b := b) (c := c)
  obtain ⟨p', h3⟩ := vals_last (a := a) (b := b) (c := c) s
  rw [h1, ← h2]
  exact last_get h3 (vals_len s) p q
theorem Sub.rdV {e o s} (h : Sub e o s) : rd (e.vals a b c) ((o + s.size - 1 : Nat) : Int) = s.val a b c := by
  unfold rd
  rw [Int.toNat_natCast, List.getD_eq_getElem?_getD, h.getV]; rfl
theorem set_zero (p : List Int) (n : Nat) (x : Int) : (p ++ List.replicate (n + 1) 0).set p.length x = (p ++ [x]) ++ List.replicate n 0 := by
  rw [List.set_append_right _ _ (Nat.le_refl _), Nat.sub_self, List.replicate_succ, List.set_cons_zero, List.append_assoc]; rfl
theorem rd_last (pre : List Int) (e : Ex) (post : List Int) : rd (pre ++ (e.vals a b c ++ post)) ((pre.length + e.size - 1 : Nat) : Int) = e.val a b c := by
  obtain ⟨p, h⟩ := vals_last (a := a) (b := b) (c := c) e
  unfold rd
  rw [Int.toNat_natCast, List.getD_eq_getElem?_getD, last_get h (vals_len e) pre post]; rfl
theorem ev_leaf {k n t : Int} (h : (leaf k n t).Ok) (i : Nat) (rest : List Nd) (v : List Int) : evGo a b c (root i (leaf k n t) :: rest) i v = evGo a b c rest (i + 1) (v.set i (val a b c (leaf k n t))) := by
  have h1 := h.1
  rw [show root i (leaf k n t) = (⟨k, n, 0, 0, t⟩ : Nd) from rfl, evGo]
  dsimp only
  unfold val
  by_cases hk : k = 1
  · rw [if_pos hk, if_pos hk]
  · rw [if_neg hk, if_neg hk, if_pos ⟨by omega, h1.2⟩]
theorem ev_op {k : Int} (hk : 5 ≤ k ∧ k ≤ 19) {m n t : Int} (i : Nat) (rest : List Nd) (v : List Int) (hm : 0 ≤ m ∧ m < v.length) (hn : 0 ≤ n ∧ n < v.length) : evGo a b c ((⟨k, 0, m, n, t⟩ : Nd) :: rest) i v = evGo a b c rest (i + 1) (v.set i (opv k (rd v m) (rd v n))) := by
  rw [evGo]
  dsimp only
  rw [if_neg (by omega), if_neg (by omega), if_neg (by omega), if_pos ⟨hm.1, hm.2, hn.1, hn.2⟩, do_eq hk, Option.bind_some, if_pos rfl]
theorem ev_ser : ∀ (e : Ex) (pre : List Int) (n : Nat) (rest : List Nd), e.Ok → evGo a b c (e.ser pre.length ++ rest) pre.length (pre ++ List.replicate (e.size + n) 0) = evGo a b c rest (pre.length + e.size) ((pre ++ e.vals a b c) ++ List.replicate n 0)
  | leaf k m t, pre, n, rest, h => by
    simp only [ser, List.cons_append, List.nil_append, size]
    rw [ev_leaf h, Nat.add_comm 1 n, set_zero]
    rfl
  | one k t x, pre, n, rest, h => by
    have hp := size_pos x
    have hx := ev_ser x pre (n + 1) (root pre.length (one k t x) :: rest) h.2.2
    have hk := h.1
    have hl : ((pre ++ x.vals a b c)).length = pre.length + x.size := by rw [List.length_append, vals_len]
    simp only [ser, size, List.append_assoc, List.cons_append, List.nil_append]
    rw [show x.size + 1 + n = x.size + (n + 1) by omega, hx]
    have hr := rd_last (a := a) (b := b) (c := c) pre x (List.replicate (n + 1) 0)
    rw [← List.append_assoc] at hr
    have hs := set_zero (pre ++ x.vals a b c) n (val a b c (one k t x))
    rw [hl] at hs
    simp only [root]
    rw [ev_op ⟨by omega, by omega⟩ _ _ _ ⟨by omega, by rw [List.length_append, List.length_append, vals_len]; omega⟩ ⟨by omega, by rw [List.length_append, List.length_append, vals_len]; omega⟩, hr, opv_one hk _ _ 0]
    simp only [vals, List.append_assoc] at hs ⊢
    rw [← Nat.add_assoc, ← hs]
    rfl
  | two k t x y, pre, n, rest, h => by
    have hp := size_pos x
    have hq := size_pos y
    have hl : ((pre ++ x.vals a b c)).length = pre.length + x.size := by rw [List.length_append, vals_len]
    have hl2 : ((pre ++ x.vals a b c) ++ y.vals a b c).length = pre.length + x.size + y.size := by rw [List.length_append, hl, vals_len]
    have hx := ev_ser x pre (y.size + (n + 1)) (y.ser (pre.length + x.size) ++ root pre.length (two k t x y) :: rest) h.2.2.1
    have hy := ev_ser y (pre ++ x.vals a b c) (n + 1) (root pre.length (two k t x y) :: rest) h.2.2.2
    rw [hl] at hy
    have hk := h.1
    simp only [ser, size, List.append_assoc, List.cons_append, List.nil_append] at hx hy ⊢
    rw [show x.size + y.size + 1 + n = x.size + (y.size + (n + 1)) by omega, hx, hy]
    have hr := rd_last (a := a) (b := b) (c := c) pre x (y.vals a b c ++ List.replicate (n + 1) 0)
    have hr2 := rd_last (a := a) (b := b) (c := c) (pre ++ x.vals a b c) y (List.replicate (n + 1) 0)
    rw [hl, List.append_assoc] at hr2
    have hs := set_zero ((pre ++ x.vals a b c) ++ y.vals a b c) n (val a b c (two k t x y))
    rw [hl2] at hs
    simp only [root]
    rw [ev_op ⟨by omega, by omega⟩ _ _ _ ⟨by omega, by simp only [List.length_append, vals_len]; omega⟩ ⟨by omega, by simp only [List.length_append, vals_len]; omega⟩, hr, hr2]
    simp only [vals, List.append_assoc] at hs ⊢
    rw [← Nat.add_assoc, ← Nat.add_assoc, ← hs]
    rfl
theorem all_tree {e : Ex} (he : e.Ok) (hz : e.size ≤ 60) (hd : e.depth ≤ 20) (hw : wrongAt (e.ser 0) = e.size) : evals_All.f (e.ser 0) a b c = some (e.vals a b c, 0) := by
  have hp := size_pos e
  unfold evals_All.f evals_check.f
  rw [of_tree he hz hd, hw, if_neg (Nat.lt_irrefl _), Option.bind_some, Option.bind_some]
  dsimp only
  rw [if_pos rfl, ser_len, if_pos (by omega)]
  have := ev_ser (a := a) (b := b) (c := c) e [] 0 [] he
  simpa [evGo] using this
theorem evOf_tree {e : Ex} (he : e.Ok) (hz : e.size ≤ 60) (hd : e.depth ≤ 20) (hw : wrongAt (e.ser 0) = e.size) : evals_Of.f (e.ser 0) a b c = some (e.val a b c, 0) := by
  have hp := size_pos e
  have hr := (Sub.refl e).rdV (a := a) (b := b) (c := c)
  rw [Nat.zero_add] at hr
  unfold evals_Of.f
  rw [all_tree he hz hd hw, Option.bind_some]
  dsimp only
  rw [if_pos rfl, vals_len, w64 (by omega) (by omega), if_pos (by omega), if_pos (by omega), show (e.size : Int) - 1 = ((e.size - 1 : Nat) : Int) by omega, hr]
theorem val_rng (ha : Rng a) (hb : Rng b) (hc : Rng c) : ∀ (e : Ex) (i : Nat), e.Ok → (∀ x ∈ e.ser i, Rng x.f1) → Rng (e.val a b c)
  | leaf k n t, i, h, hx => by
    have := hx (root i (leaf k n t)) (by simp [ser])
    simp only [val]
    unfold leafVal
    repeat' split
    · exact this
    · exact ha
    · exact hb
    · exact hc
  | one k t x, i, h, hx => opv_rng ⟨by have := h.1; omega, by have := h.1; omega⟩ (val_rng ha hb hc x i h.2.2 (fun y hy => hx y (by simp [ser, hy])))
  | two k t x y, i, h, hx => opv_rng ⟨by have := h.1; omega, by have := h.1; omega⟩ (val_rng ha hb hc x i h.2.2.1 (fun z hz => hx z (by simp [ser, hz])))
end Ex
theorem all_bad {l : List Nd} {g : Bool} {i x : Int} (h : kinds_Of.f l = some (g, i, x)) (hx : x ≠ 0) (a b c : Int) : evals_All.f l a b c = some ([], x) := by
  unfold evals_All.f evals_check.f
  rw [h, Option.bind_some, Option.bind_some, if_neg hx]
theorem evOf_bad {l : List Nd} {g : Bool} {i x : Int} (h : kinds_Of.f l = some (g, i, x)) (hx : x ≠ 0) (a b c : Int) : evals_Of.f l a b c = some (0, x) := by
  unfold evals_Of.f
  rw [all_bad h hx, Option.bind_some, if_neg hx]
end Go.Proofs.Ytcdgohoinmbpfaa.M
