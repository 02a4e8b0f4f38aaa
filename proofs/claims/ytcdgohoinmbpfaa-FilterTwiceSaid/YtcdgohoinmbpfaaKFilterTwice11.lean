import Derived.Test.YtcdgohoinmbpfaaKFilterTwice8
import Derived.Test.YtcdgohoinmbpfaaKFilterTwice10
import Derived.Lib.Hide
import Derived.Test.YtcdgohoinmbpfaaKFilterTwice6
namespace Go.Proofs.Ytcdgohoinmbpfaa.M
open Go.RowKit Go.Proofs.YtcdgohoinmbpfaaW.PrintWords Go.Proofs.YtcdgohoinmbpfaaW.PrintLast Go.Proofs.YtcdgohoinmbpfaaW.PrintMore
attribute [local go_sem] max2_int min2_int max_two min_two
attribute [local go_sem high] eqA61
set_option linter.unusedVariables false
set_option linter.unusedSimpArgs false

theorem nodes_Parts.eq (a : Int) : nodes_Parts.f 3 a = some (match np a with | some n => ((n : Int), 0) | none => (0, 2)) := by
  unfold nodes_Parts.f np
  simp only [nodes_Parts.j0, nodes_Parts.j1]
  have hc : a < 1 ∨ (1 ≤ a ∧ a ≤ 4) ∨ a = 5 ∨ a = 6 ∨ (7 ≤ a ∧ a ≤ 19) ∨ 19 < a := by omega
  rcases hc with h | ⟨h, h'⟩ | rfl | rfl | ⟨h, h'⟩ | h
  · simp [show ¬ 1 ≤ a by omega, show ¬ a = 5 by omega, show ¬ a = 6 by omega, show ¬ 7 ≤ a by omega]
  · simp [h, h']
  · simp
  · simp
  · simp [show 1 ≤ a by omega, show ¬ a ≤ 4 by omega, show ¬ a = 5 by omega, show ¬ a = 6 by omega, h, h']
  · simp [show 1 ≤ a by omega, show ¬ a ≤ 4 by omega, show ¬ a = 5 by omega, show ¬ a = 6 by omega, show 7 ≤ a by omega, show ¬ a ≤ 19 by omega]
theorem nodes_Parts.told (a : Int) (w : World) : Calls Try.prog 100 #[.int .u8 a] w fun e w' => e = .returned (.tuple #[.int .i64 (match np a with | some n => (n : Int) | none => 0), .int .i64 (match np a with | some _ => 0 | none => 2)]) ∧ Drawn0 w w' := by
  have h := nodes_Parts.eq a
  cases hn : np a with
  | none => rw [hn] at h; exact nodes_Parts.calls 3 a _ _ w h
  | some n => rw [hn] at h; exact nodes_Parts.calls 3 a _ _ w h

theorem np_le {a : Int} {n : Nat} (h : np a = some n) : n ≤ 2 := by
  unfold np at h
  repeat' split at h
  all_goals first | (injection h with h; omega) | cases h
theorem tops_move {wo W w5 : World} {b1 : Nat} {u4 u5 v1 v5 : Value} {all : List Tp} (ho : Kd.R k165 165 wo b1 (fun k_ => some k_ ≠ u5.ownBlock) u4 all) (hb : Below wo.heap.size wo W) (hg : W.grownBy w5 v1.ownBlock) (he : v1.ownBlock = u5.ownBlock)
    (ht : v5.ownBlock = v1.ownBlock ∨ ∃ b, v5.ownBlock = some b ∧ W.heap.size ≤ b) : Kd.R k165 165 w5 b1 (fun k_ => some k_ ≠ v5.ownBlock) u4 all := by
  have h1 := Kd.R_bound (Kd.R_below ho hb)
  refine Kd.R_mono (Kd.R_grown h1 hg (fun k hk => by rw [he]; exact hk.1)) (fun k hk h => ?_)
  rcases ht with h2 | ⟨b, h2, h3⟩
  · rw [h2, he] at h; exact hk.1 h
  · rw [h2] at h; injection h with h; have := hk.2.2.1; omega
theorem tops_move2 {W w4 : World} {b1 : Nat} {u4 v4 v5 : Value} {xs : List Tp} (ho : Kd.R k165 165 W b1 (fun k_ => some k_ ≠ u4.ownBlock) v5 xs) (hg : W.grownBy w4 u4.ownBlock)
    (ht : v4.ownBlock = u4.ownBlock ∨ ∃ b, v4.ownBlock = some b ∧ W.heap.size ≤ b) : Kd.R k165 165 w4 b1 (fun k_ => some k_ ≠ v4.ownBlock) v5 xs := by
  have h1 := Kd.R_bound ho
  refine Kd.R_mono (Kd.R_grown h1 hg (fun k hk => hk.1)) (fun k hk h => ?_)
  rcases ht with h2 | ⟨b, h2, h3⟩
  · rw [h2] at h; exact hk.1 h
  · rw [h2] at h; injection h with h; have := hk.2.2.1; omega
theorem blk_new_at {W : World} {g : Nat} (hg : g = W.heap.size) (o : Obj) : (W.alloc o).heap[g]? = some o := by subst hg; exact blk_new W o

set_option maxHeartbeats 4000000 in
set_option maxRecDepth 100000 in
theorem nodes_tops.calls (A0 : Option Addr) (c0 : Nat) (l0 : List Nd) (r1 : List Tp) (r2 : Bool) (w : World) (hr0 : Kd.C k61 w A0 l0.length l0) (hc0 : l0.length ≤ c0) (hlen : l0.length ≤ 60) (h : nodes_tops.f l0 = (r1, r2)) :
    Calls Try.prog 98 #[.slice A0 l0.length c0] w fun e w' => ∃ v0_ : Value, e = .returned (.tuple #[v0_, .bool r2]) ∧ Kd.R k165 165 w' w.heap.size (fun _ => True) v0_ r1 ∧ Below w.heap.size w w' := by
  have hu27 := Try.underlying61
  have hu99 := Try.underlying165
  have HR0 := am hr0
  have HB := am (Below.refl w.heap.size w)
  have H := am h
  clear hr0 hc0 h
  go_enter Try.func98, Try.ntmps98
  go_wp2
  go_loopg [4, 5, 17] (l0.length + 1) (fun kq v4 v5 v17 w' => ∃ (j : Nat) (all stk : List Tp), v17 = .int .i64 j ∧ Aside0 (kq + j = l0.length + 1 ∧ j ≤ l0.length ∧ topsGo (l0.drop j) j all stk = (r1, r2) ∧ stk.length ≤ j ∧ all.length ≤ j) ∧ Aside0 (Kd.R k165 165 w' w.heap.size (fun k_ => some k_ ≠ (v5 : Value).ownBlock) v4 all) ∧ Aside0 (Kd.R k165 165 w' w.heap.size (fun k_ => some k_ ≠ (v4 : Value).ownBlock) v5 stk) ∧ Aside0 (Below w.heap.size w w'))
  case atStart => exact ⟨0, [], [], rfl, ⟨by omega, by omega, H.out, Nat.le_refl _, Nat.le_refl _⟩, ⟨Kd.R_nil _ _ _ _ _⟩, ⟨Kd.R_nil _ _ _ _ _⟩, HB⟩
  case round =>
    clear H HB
    obtain ⟨wo, rfl⟩ : ∃ wo : World, wo = wr := ⟨_, rfl⟩
    obtain ⟨g0, rfl⟩ : ∃ g0 : Nat, g0 = gk := ⟨_, rfl⟩
    obtain ⟨j, all, stk, rfl, HA, HO4, HO5, HB⟩ := hrel
    by_cases hj : j < l0.length
    · have c2 : decide ((j : Int) < (l0.length : Int)) = true := decide_eq_true (by omega)
      have hj60 : j < 60 := by omega
      obtain ⟨ad, e0, hx0, hx1, hx2, hx3, hx4⟩ := at_T61 HR0.out j (by omega) (by omega)
      cases e0
      rw [Int.toNat_natCast] at hx0 hx1 hx2 hx3 hx4
      replace hx0 := (HB.out.cell (World.block_lt_of_cell? w _ hx0)).trans hx0
      replace hx1 := (HB.out.cell (World.block_lt_of_cell? w _ hx1)).trans hx1
      replace hx2 := (HB.out.cell (World.block_lt_of_cell? w _ hx2)).trans hx2
      replace hx3 := (HB.out.cell (World.block_lt_of_cell? w _ hx3)).trans hx3
      replace hx4 := (HB.out.cell (World.block_lt_of_cell? w _ hx4)).trans hx4
      have hdrop : l0.drop j = rd_T61 l0 j :: l0.drop (j + 1) := by
        rw [List.drop_eq_getElem_cons hj]; simp [rd_T61, hj]
      obtain ⟨x, hx⟩ : ∃ x : Nd, x = rd_T61 l0 j := ⟨_, rfl⟩
      rw [← hx] at hx0 hx1 hx2 hx3 hx4 hdrop
      have HX := am hdrop
      clear hx hdrop
      obtain ⟨y0, y1, y2, y3, y4⟩ := x
      dsimp only at hx0 hx1 hx2 hx3 hx4
      cases hn : np y0 with
      | none =>
        have hp := nodes_Parts.told y0
        rw [hn] at hp
        dsimp only at hp
        have HF : Aside0 (r1 = all ∧ r2 = false) := by
          have h1 := HA.out.2.2.1
          rw [HX.out] at h1
          simp only [topsGo, tstep, hn, Prod.mk.injEq] at h1
          exact am ⟨h1.1.symm, h1.2.symm⟩
        have HP := am hp
        clear hp hn
        go_wp2_with (go_at_call 100; refine (HP.out _).mono ?_; rintro e w' ⟨rfl, ⟨nd, rfl⟩⟩)
        go_ret2
        obtain ⟨rfl, rfl⟩ := HF.out
        exact ⟨_, rfl, Kd.R_drewN (Kd.R_alloc (Kd.R_mono HO4.out (fun _ _ => trivial)) _) _, pw_below_drewN (below_alloc HB.out _) _⟩
      | some n =>
        have hp := nodes_Parts.told y0
        rw [hn] at hp
        dsimp only at hp
        have hle : stk.length ≤ 9223372036854775807 := (Kd.R_reads HO5.out).choose_spec.choose_spec.2.2.2.1
        by_cases hns : n ≤ stk.length
        · -- the parts are there
          have c3 : decide ((stk.length : Int) < (n : Int)) = false := decide_eq_false (by omega)
          have c3' : decide (stk.length < n) = false := decide_eq_false (by omega)
          have hn2 : n ≤ 2 := np_le hn
          obtain ⟨xs, hxs⟩ : ∃ xs, xs = stk.take (stk.length - n) := ⟨_, rfl⟩
          obtain ⟨ys, hys⟩ : ∃ ys, ys = stk.drop (stk.length - n) := ⟨_, rfl⟩
          have hxy : stk = xs ++ ys := by rw [hxs, hys, List.take_append_drop]
          have hyl : ys.length = n := by rw [hys, List.length_drop]; omega
          have HO5' := HO5.out
          rw [hxy] at HO5'
          have HPO := am (fun W => nodes_pop.calls xs ys u5 w.heap.size _ wo HO5' W (n : Int) (by omega))
          have HP := am hp
          have HN := am hn
          have HXS := am hxs
          have HYS := am hys
          have HYL := am hyl
          obtain ⟨A5, k5, e5⟩ := Kd.R_slice HO5.out
          subst e5
          obtain ⟨m1, hm1⟩ : ∃ m, (if y4 < 0 then 0 else y4) = m := ⟨_, rfl⟩
          obtain ⟨m2, hm2⟩ : ∃ m, (if 400 < m1 then 400 else m1) = m := ⟨_, rfl⟩
          clear hp hn hxy hyl HO5' hxs hys
          go_wp2_with (go_at_call 100; refine (HP.out _).mono ?_; rintro e w' ⟨rfl, ⟨nd, rfl⟩⟩)
          refine (HPO.out _).mono ?_
          rintro e w' ⟨v1, A2, cc2, rfl, hob, hR, hC, ⟨nd2, rfl⟩⟩
          have HOB := am hob
          have HR := am hR
          have HC := am hC
          clear hob hR hC
          go_wp2
          have HM1 := am hm1
          have HM2 := am hm2
          clear hm1 hm2
          go_loopg [54] (n + 1) (fun kq v54 W => ∃ k : Nat, v54 = .int .i64 k ∧ Aside0 (kq + k = n + 1 ∧ k ≤ n) ∧ Aside0 (W.heap[wo.heap.size]? = some (.cells #[.int .u8 y0, .int .i64 y1, .int .i64 y2, .int .i64 y3, .int .i64 y4] 61 (0, 0))) ∧ Aside0 (W.heap[wo.heap.size + 1]? = some (.cells #[.int .u8 y0, .int .i64 0, .int .i64 (tA (ys.take k)), .int .i64 (tB (ys.take k)), .int .i64 m2] 61 (0, 0))) ∧ Aside0 (W.heap[wo.heap.size + 1 + 1]? = some (.cells #[.int .i64 j, .int .i64 (tS (ys.take k)), .int .i64 (tD (ys.take k))] 165 (0, 0))) ∧ Aside0 (Below wo.heap.size wo W))
          case atStart =>
            refine ⟨0, rfl, ⟨by omega, by omega⟩, ⟨?_⟩, ⟨?_⟩, ⟨?_⟩, ⟨?_⟩⟩
            · exact blk_alloc (blk_alloc (blk_drewN (blk_new wo _) _) _) _
            · exact blk_alloc (blk_new_at (by simp) _) _
            · exact blk_new_at (by simp) _
            · exact below_alloc (below_alloc (pw_below_drewN (below_alloc (Below.refl _ _) _) _) _) _
          case round =>
            obtain ⟨k, rfl, HK, B7, B11, B12, HBr⟩ := hrel
            have hsz : wo.heap.size + 1 + 1 < wr.heap.size := blk_lt B12.out
            have hs1 : wo.heap.size + 1 < wr.heap.size := by omega
            have hs0 : wo.heap.size < wr.heap.size := by omega
            have hn1 : ¬ (wr.heap.size = wo.heap.size + 1) := by omega
            have hn1' : ¬ (wo.heap.size + 1 = wr.heap.size) := by omega
            have hn2' : ¬ (wr.heap.size = wo.heap.size + 1 + 1) := by omega
            have hn2'' : ¬ (wo.heap.size + 1 + 1 = wr.heap.size) := by omega
            by_cases hk : k < n
            · have c4 : decide ((k : Int) < (ys.length : Int)) = true := decide_eq_true (by have := HYL.out; omega)
              have c4' : decide (k < ys.length) = true := decide_eq_true (by have := HYL.out; omega)
              obtain ⟨ad2, e2, hz0, hz1, hz2⟩ := at_T165 HC.out k (by omega) (by have := HYL.out; omega)
              cases e2
              rw [Int.toNat_natCast] at hz0 hz1 hz2
              replace hz0 := (HBr.out.cell (World.block_lt_of_cell? wo _ hz0)).trans hz0
              replace hz1 := (HBr.out.cell (World.block_lt_of_cell? wo _ hz1)).trans hz1
              replace hz2 := (HBr.out.cell (World.block_lt_of_cell? wo _ hz2)).trans hz2
              obtain ⟨a0, ha0⟩ : ∃ a, a = tA (ys.take k) := ⟨_, rfl⟩
              obtain ⟨b0, hb0⟩ : ∃ a, a = tB (ys.take k) := ⟨_, rfl⟩
              obtain ⟨s0, hs0'⟩ : ∃ a, a = tS (ys.take k) := ⟨_, rfl⟩
              obtain ⟨d0, hd0⟩ : ∃ a, a = tD (ys.take k) := ⟨_, rfl⟩
              rw [← ha0, ← hb0] at B11
              rw [← hs0', ← hd0] at B12
              have hb12 : wr.cell? ⟨wo.heap.size + 1 + 1, 1, none⟩ = some (.int .i64 s0) := (blk_cell B12.out 1).trans rfl
              have hb13 : wr.cell? ⟨wo.heap.size + 1 + 1, 2, none⟩ = some (.int .i64 d0) := (blk_cell B12.out 2).trans rfl
              have hf12 := blk_frozen B12.out 1
              have hf13 := blk_frozen B12.out 2
              have ha12 : wr.cell? ⟨wo.heap.size + 1, 2, none⟩ = some (.int .i64 a0) := (blk_cell B11.out 2).trans rfl
              have ha13 : wr.cell? ⟨wo.heap.size + 1, 3, none⟩ = some (.int .i64 b0) := (blk_cell B11.out 3).trans rfl
              have hg12 := blk_frozen B11.out 2
              have hg13 := blk_frozen B11.out 3
              obtain ⟨p, hp⟩ : ∃ p : Tp, p = rd_T165 ys k := ⟨_, rfl⟩
              rw [← hp] at hz0 hz1 hz2
              have hyk : ys.take (k + 1) = ys.take k ++ [p] := by
                rw [hp, List.take_succ_eq_append_getElem (by have := HYL.out; omega)]; simp [rd_T165, show k < ys.length by have := HYL.out; omega]
              have hlk : (ys.take k).length = k := by rw [List.length_take]; have := HYL.out; omega
              obtain ⟨mm, hmm⟩ : ∃ m, (if d0 < wrap64 (p.f2 + 1) then wrap64 (p.f2 + 1) else d0) = m := ⟨_, rfl⟩
              have HA1 : Aside0 (tA (ys.take (k + 1)) = if k = 0 then p.f0 else a0) := ⟨by rw [hyk, tA_snoc, hlk, ha0]⟩
              have HB1 : Aside0 (tB (ys.take (k + 1)) = if k = 0 then b0 else p.f0) := ⟨by
                rw [hyk, tB_snoc, hlk, hb0]
                by_cases h0 : k = 0
                · subst h0; simp [tB]
                · rw [if_neg h0, if_neg h0]⟩
              have HS1 : Aside0 (tS (ys.take (k + 1)) = wrap64 (s0 + p.f1)) := ⟨by rw [hyk, tS_snoc, hs0']⟩
              have HD1 : Aside0 (tD (ys.take (k + 1)) = mm) := ⟨by rw [hyk, tD_snoc, ← hmm, hd0]; rfl⟩
              clear hp hyk hlk ha0 hb0 hs0' hd0
              by_cases hk0 : k = 0
              · rw [if_pos hk0] at HA1 HB1
                subst hk0
                have e0 : ad2.add (0 * 3) = ad2 := by simp [Addr.add]
                rw [e0] at hz0 hz1 hz2
                have c4c : decide ((0 : Int) < (ys.length : Int)) = true := c4
                have c4d : 0 < ys.length := by have := HYL.out; omega
                clear e0
                go_wp2
                go_roundg (gk - 1)
                case measure => have := HK.out; omega
                case rel =>
                  refine ⟨1, rfl, ⟨by have := HK.out; omega, by omega⟩, ⟨?_⟩, ⟨?_⟩, ⟨?_⟩, ⟨?_⟩⟩
                  · exact blk_alloc (blk_far (blk_far (blk_far B7.out (by simp) _) (by simp; omega) _) (by simp; omega) _) _
                  · rw [HA1.out, HB1.out]
                    exact blk_alloc (blk_far (blk_far (blk_put B11.out 2 _ rfl) (by simp) _) (by simp) _) _
                  · rw [HS1.out, HD1.out]
                    exact blk_alloc (blk_put (blk_put (blk_far B12.out (by simp) _) 1 _ rfl) 2 _ rfl) _
                  · exact below_alloc (below_set (below_set (below_set HBr.out (by omega)) (by omega)) (by omega)) _
              · rw [if_neg hk0] at HA1 HB1
                have c5 : ((k : Int) == 0) = false := beq_eq_false_iff_ne.mpr (by omega)
                have HK0 := am hk0
                have c4e : k < ys.length := by have := HYL.out; omega
                clear hk0
                go_wp2
                go_roundg (gk - 1)
                case measure => have := HK.out; omega
                case rel =>
                  refine ⟨k + 1, by go_num, ⟨by have := HK.out; omega, by omega⟩, ⟨?_⟩, ⟨?_⟩, ⟨?_⟩, ⟨?_⟩⟩
                  · exact blk_alloc (blk_far (blk_far (blk_far B7.out (by simp) _) (by simp; omega) _) (by simp; omega) _) _
                  · rw [HA1.out, HB1.out]
                    exact blk_alloc (blk_far (blk_far (blk_put B11.out 3 _ rfl) (by simp) _) (by simp) _) _
                  · rw [HS1.out, HD1.out]
                    exact blk_alloc (blk_put (blk_put (blk_far B12.out (by simp) _) 1 _ rfl) 2 _ rfl) _
                  · exact below_alloc (below_set (below_set (below_set HBr.out (by omega)) (by omega)) (by omega)) _
            · have hkn : k = n := by have := HK.out; omega
              have hky : k = ys.length := by have := HYL.out; omega
              have c4 : decide ((k : Int) < (ys.length : Int)) = false := decide_eq_false (by omega)
              have c4' : decide (k < ys.length) = false := decide_eq_false (by omega)
              rw [hky, List.take_length] at B11 B12
              have hnk := am hkn
              clear hkn hky
              obtain ⟨a0, ha0⟩ : ∃ a, a = tA ys := ⟨_, rfl⟩
              obtain ⟨b0, hb0⟩ : ∃ a, a = tB ys := ⟨_, rfl⟩
              obtain ⟨s0, hs0'⟩ : ∃ a, a = tS ys := ⟨_, rfl⟩
              obtain ⟨d0, hd0⟩ : ∃ a, a = tD ys := ⟨_, rfl⟩
              rw [← ha0, ← hb0] at B11
              rw [← hs0', ← hd0] at B12
              have h70 : wr.cell? ⟨wo.heap.size, 0, none⟩ = some (.int .u8 y0) := (blk_cell B7.out 0).trans rfl
              have h71 : wr.cell? ⟨wo.heap.size, 1, none⟩ = some (.int .i64 y1) := (blk_cell B7.out 1).trans rfl
              have h72 : wr.cell? ⟨wo.heap.size, 2, none⟩ = some (.int .i64 y2) := (blk_cell B7.out 2).trans rfl
              have h73 : wr.cell? ⟨wo.heap.size, 3, none⟩ = some (.int .i64 y3) := (blk_cell B7.out 3).trans rfl
              have h74 : wr.cell? ⟨wo.heap.size, 4, none⟩ = some (.int .i64 y4) := (blk_cell B7.out 4).trans rfl
              have h10 : wr.cell? ⟨wo.heap.size + 1, 0, none⟩ = some (.int .u8 y0) := (blk_cell B11.out 0).trans rfl
              have h11 : wr.cell? ⟨wo.heap.size + 1, 1, none⟩ = some (.int .i64 0) := (blk_cell B11.out 1).trans rfl
              have h12 : wr.cell? ⟨wo.heap.size + 1, 2, none⟩ = some (.int .i64 a0) := (blk_cell B11.out 2).trans rfl
              have h13 : wr.cell? ⟨wo.heap.size + 1, 3, none⟩ = some (.int .i64 b0) := (blk_cell B11.out 3).trans rfl
              have h14 : wr.cell? ⟨wo.heap.size + 1, 4, none⟩ = some (.int .i64 m2) := (blk_cell B11.out 4).trans rfl
              have h1f := blk_frozen B11.out 1
              have h20 : wr.cell? ⟨wo.heap.size + 1 + 1, 0, none⟩ = some (.int .i64 j) := (blk_cell B12.out 0).trans rfl
              have h21 : wr.cell? ⟨wo.heap.size + 1 + 1, 1, none⟩ = some (.int .i64 s0) := (blk_cell B12.out 1).trans rfl
              have h22 : wr.cell? ⟨wo.heap.size + 1 + 1, 2, none⟩ = some (.int .i64 d0) := (blk_cell B12.out 2).trans rfl
              obtain ⟨m3, hm3⟩ : ∃ m, (if y1 < 0 then 0 else y1) = m := ⟨_, rfl⟩
              by_cases hy0 : y0 = 1
              · subst hy0
                obtain ⟨E1, hE1⟩ : ∃ b : Bool, (m3 == y1) = b := ⟨_, rfl⟩
                obtain ⟨E2, hE2⟩ : ∃ b : Bool, (a0 == y2) = b := ⟨_, rfl⟩
                obtain ⟨E3, hE3⟩ : ∃ b : Bool, (b0 == y3) = b := ⟨_, rfl⟩
                obtain ⟨E4, hE4⟩ : ∃ b : Bool, (m2 == y4) = b := ⟨_, rfl⟩
                have HOFF : Aside0 (offB ⟨1, y1, y2, y3, y4⟩ a0 b0 = (!E1 || (!E2 || (!E3 || !E4)))) := ⟨by
                  rw [← hE1, ← hE2, ← hE3, ← hE4, ← HM2.out, ← HM1.out, ← hm3]; rfl⟩
                have HT : Aside0 (topsGo (l0.drop j) j all stk = (r1, r2)) := ⟨HA.out.2.2.1⟩
                rw [HX.out] at HT
                simp only [topsGo, tstep, HN.out] at HT
                rw [if_neg (by omega), ← HYS.out, ← HXS.out, ← ha0, ← hb0, ← hs0', ← hd0, HOFF.out] at HT
                clear ha0 hb0 hs0' hd0
                cases hE : (!E1 || (!E2 || (!E3 || !E4))) with
                | true =>
                  rw [hE] at HT
                  have HF : Aside0 (r1 = all ∧ r2 = false) := by
                    have h1 := HT.out
                    simp only [if_true, Prod.mk.injEq] at h1
                    exact ⟨⟨h1.1.symm, h1.2.symm⟩⟩
                  clear HT
                  cases E1 with
                  | false =>
                    clear hE
                    go_wp2
                    go_ret2
                    obtain ⟨rfl, rfl⟩ := HF.out
                    exact ⟨_, rfl, Kd.R_mono (Kd.R_below HO4.out (below_set HBr.out (by omega))) (fun _ _ => trivial), below_then HB.out HB.out.size (below_set HBr.out (by omega))⟩
                  | true =>
                    cases E2 with
                    | false =>
                      clear hE
                      go_wp2
                      go_ret2
                      obtain ⟨rfl, rfl⟩ := HF.out
                      exact ⟨_, rfl, Kd.R_mono (Kd.R_below HO4.out (below_set HBr.out (by omega))) (fun _ _ => trivial), below_then HB.out HB.out.size (below_set HBr.out (by omega))⟩
                    | true =>
                      cases E3 with
                      | false =>
                        clear hE
                        go_wp2
                        go_ret2
                        obtain ⟨rfl, rfl⟩ := HF.out
                        exact ⟨_, rfl, Kd.R_mono (Kd.R_below HO4.out (below_set HBr.out (by omega))) (fun _ _ => trivial), below_then HB.out HB.out.size (below_set HBr.out (by omega))⟩
                      | true =>
                        cases E4 with
                        | false =>
                          clear hE
                          go_wp2
                          go_ret2
                          obtain ⟨rfl, rfl⟩ := HF.out
                          exact ⟨_, rfl, Kd.R_mono (Kd.R_below HO4.out (below_set HBr.out (by omega))) (fun _ _ => trivial), below_then HB.out HB.out.size (below_set HBr.out (by omega))⟩
                        | true => cases hE
                | false =>
                  obtain ⟨rfl, rfl, rfl, rfl⟩ : E1 = true ∧ E2 = true ∧ E3 = true ∧ E4 = true := by
                    revert hE; cases E1 <;> cases E2 <;> cases E3 <;> cases E4 <;> simp
                  rw [hE] at HT
                  have HF : Aside0 (topsGo (l0.drop (j + 1)) (j + 1) (all ++ [⟨j, s0, d0⟩]) (xs ++ [⟨j, s0, d0⟩]) = (r1, r2)) := by
                    have h1 := HT.out
                    exact ⟨by simpa using h1⟩
                  clear HT hE
                  have hxl : xs.length ≤ 60 := by have h1 := HXS.out; have h2 := congrArg List.length h1; rw [List.length_take] at h2; have h3 := HA.out.2.2.2.1; omega
                  have hal : all.length ≤ 60 := by have h1 := HA.out.2.2.2.2; omega
                  have HBW := am ((below_set HBr.out (by omega) : Below wo.heap.size wo (wr.setCell ⟨wo.heap.size + 1, 1, none⟩ (.int .i64 m3))))
                  have hb4 : Aside0 (∀ k_, u4.ownBlock = some k_ → k_ < wo.heap.size) := ⟨fun k_ hk => by obtain ⟨inner, ho⟩ := Kd.R_own HO4.out; exact own_lt ho k_ hk⟩
                  have hb1 : Aside0 (∀ k_, v1.ownBlock = some k_ → k_ < wo.heap.size) := ⟨fun k_ hk => by obtain ⟨inner, ho⟩ := Kd.R_own HR.out; exact own_lt ho k_ hk⟩
                  have hB12 : Aside0 ((wr.setCell ⟨wo.heap.size + 1, 1, none⟩ (.int .i64 m3)).heap[wo.heap.size + 1 + 1]? = some (.cells #[.int .i64 j, .int .i64 s0, .int .i64 d0] 165 (0, 0))) := ⟨blk_far B12.out (by simp) _⟩
                  go_wp2_with (first
                    | ((with_reducible refine gate_builtin (b := .append) (xs := #[.tmp 92, .tmp 94]) rfl ?_); at_builtin; refine Kd.R_append k165 (w0 := w) w.heap.size rfl (.tmp 92) (.tmp 94) 154 165 (.agg #[(.int .i64 0), (.int .i64 0), (.int .i64 0)]) 24 rfl Try.underlying154 info165 rfl (by decide) (by omega) v1 xs (⟨j, s0, d0⟩ : Tp) [.int .i64 j, .int .i64 s0, .int .i64 d0] (fun k_ => some k_ ≠ u4.ownBlock) (fun _ => False) rfl (by simp [Act.eval, Act.put]) (k165_mkM _ _ _ _) (fun _ h => h.elim) (fun k_ hk h => by have := hb4.out k_ h.symm; have := HBW.out.size; omega) (Kd.R_below HR.out HBW.out) (below_then HB.out HB.out.size HBW.out) (Nat.le_trans HB.out.size HBW.out.size) (by omega) ?_; intro v5 w5 ho5 hb5 hg5 hat5; have HV5 := am ho5; have HB5 := am hb5; have HG5 := am hg5; have HM4 := am (tops_move HO4.out HBW.out hg5 HOB.out hat5); clear ho5 hb5 hg5 hat5; have hq12 : Aside0 (w5.heap[wo.heap.size + 1 + 1]? = some (.cells #[.int .i64 j, .int .i64 s0, .int .i64 d0] 165 (0, 0))) := ⟨blk_grown hB12.out HG5.out (fun h => by have := hb1.out _ h.symm; omega)⟩; have hq0 : w5.cell? ⟨wo.heap.size + 1 + 1, 0, none⟩ = some (.int .i64 j) := (blk_cell hq12.out 0).trans rfl; have hq1 : w5.cell? ⟨wo.heap.size + 1 + 1, 1, none⟩ = some (.int .i64 s0) := (blk_cell hq12.out 1).trans rfl; have hq2 : w5.cell? ⟨wo.heap.size + 1 + 1, 2, none⟩ = some (.int .i64 d0) := (blk_cell hq12.out 2).trans rfl)
                    | ((with_reducible refine gate_builtin (b := .append) (xs := #[.tmp 96, .tmp 98]) rfl ?_); at_builtin; refine Kd.R_append k165 (w0 := w) w.heap.size rfl (.tmp 96) (.tmp 98) 154 165 (.agg #[(.int .i64 0), (.int .i64 0), (.int .i64 0)]) 24 rfl Try.underlying154 info165 rfl (by decide) (by omega) u4 all (⟨j, s0, d0⟩ : Tp) [.int .i64 j, .int .i64 s0, .int .i64 d0] (fun k_ => some k_ ≠ v5.ownBlock) (fun _ => False) rfl (by simp [Act.eval, Act.put]) (k165_mkM _ _ _ _) (fun _ h => h.elim) (fun k_ hk h => by obtain ⟨inner, ho⟩ := Kd.R_own HV5.out; have := own_lt ho k_ h.symm; omega) HM4.out HB5.out HB5.out.size (by omega) ?_; intro v4 w4 ho4 hb4' hg4 hat4; have HV4 := am ho4; have HB4 := am hb4'; have HG4 := am hg4; have HT4 := am hat4; clear ho4 hb4' hg4 hat4))
                  go_roundg (g0 - 1)
                  case measure => have := HA.out; omega
                  case rel => exact ⟨j + 1, _, _, by go_num, ⟨by have := HA.out; omega, by omega, HF.out, by simp; have := HXS.out; have h2 := congrArg List.length this; rw [List.length_take] at h2; have := HA.out.2.2.2.1; omega, by simp; exact HA.out.2.2.2.2⟩, HV4, ⟨tops_move2 HV5.out HG4.out HT4.out⟩, HB4⟩
              · have cy : (y0 == 1) = false := beq_eq_false_iff_ne.mpr hy0
                have HY0 := am hy0
                clear hy0
                obtain ⟨E1, hE1⟩ : ∃ b : Bool, ((0 : Int) == y1) = b := ⟨_, rfl⟩
                obtain ⟨E2, hE2⟩ : ∃ b : Bool, (a0 == y2) = b := ⟨_, rfl⟩
                obtain ⟨E3, hE3⟩ : ∃ b : Bool, (b0 == y3) = b := ⟨_, rfl⟩
                obtain ⟨E4, hE4⟩ : ∃ b : Bool, (m2 == y4) = b := ⟨_, rfl⟩
                have HOFF : Aside0 (offB ⟨y0, y1, y2, y3, y4⟩ a0 b0 = (!E1 || (!E2 || (!E3 || !E4)))) := ⟨by
                  rw [← hE1, ← hE2, ← hE3, ← hE4, ← HM2.out, ← HM1.out]; unfold offB; rw [if_neg HY0.out]; rfl⟩
                have HT : Aside0 (topsGo (l0.drop j) j all stk = (r1, r2)) := ⟨HA.out.2.2.1⟩
                rw [HX.out] at HT
                simp only [topsGo, tstep, HN.out] at HT
                rw [if_neg (by omega), ← HYS.out, ← HXS.out, ← ha0, ← hb0, ← hs0', ← hd0, HOFF.out] at HT
                clear ha0 hb0 hs0' hd0
                cases hE : (!E1 || (!E2 || (!E3 || !E4))) with
                | true =>
                  rw [hE] at HT
                  have HF : Aside0 (r1 = all ∧ r2 = false) := by
                    have h1 := HT.out
                    simp only [if_true, Prod.mk.injEq] at h1
                    exact ⟨⟨h1.1.symm, h1.2.symm⟩⟩
                  clear HT
                  cases E1 with
                  | false =>
                    clear hE
                    go_wp2
                    go_ret2
                    obtain ⟨rfl, rfl⟩ := HF.out
                    exact ⟨_, rfl, Kd.R_mono (Kd.R_below HO4.out (HBr.out)) (fun _ _ => trivial), below_then HB.out HB.out.size (HBr.out)⟩
                  | true =>
                    cases E2 with
                    | false =>
                      clear hE
                      go_wp2
                      go_ret2
                      obtain ⟨rfl, rfl⟩ := HF.out
                      exact ⟨_, rfl, Kd.R_mono (Kd.R_below HO4.out (HBr.out)) (fun _ _ => trivial), below_then HB.out HB.out.size (HBr.out)⟩
                    | true =>
                      cases E3 with
                      | false =>
                        clear hE
                        go_wp2
                        go_ret2
                        obtain ⟨rfl, rfl⟩ := HF.out
                        exact ⟨_, rfl, Kd.R_mono (Kd.R_below HO4.out (HBr.out)) (fun _ _ => trivial), below_then HB.out HB.out.size (HBr.out)⟩
                      | true =>
                        cases E4 with
                        | false =>
                          clear hE
                          go_wp2
                          go_ret2
                          obtain ⟨rfl, rfl⟩ := HF.out
                          exact ⟨_, rfl, Kd.R_mono (Kd.R_below HO4.out (HBr.out)) (fun _ _ => trivial), below_then HB.out HB.out.size (HBr.out)⟩
                        | true => cases hE
                | false =>
                  obtain ⟨rfl, rfl, rfl, rfl⟩ : E1 = true ∧ E2 = true ∧ E3 = true ∧ E4 = true := by
                    revert hE; cases E1 <;> cases E2 <;> cases E3 <;> cases E4 <;> simp
                  rw [hE] at HT
                  have HF : Aside0 (topsGo (l0.drop (j + 1)) (j + 1) (all ++ [⟨j, s0, d0⟩]) (xs ++ [⟨j, s0, d0⟩]) = (r1, r2)) := by
                    have h1 := HT.out
                    exact ⟨by simpa using h1⟩
                  clear HT hE
                  have hxl : xs.length ≤ 60 := by have h1 := HXS.out; have h2 := congrArg List.length h1; rw [List.length_take] at h2; have h3 := HA.out.2.2.2.1; omega
                  have hal : all.length ≤ 60 := by have h1 := HA.out.2.2.2.2; omega
                  have HBW := am (HBr.out)
                  have hb4 : Aside0 (∀ k_, u4.ownBlock = some k_ → k_ < wo.heap.size) := ⟨fun k_ hk => by obtain ⟨inner, ho⟩ := Kd.R_own HO4.out; exact own_lt ho k_ hk⟩
                  have hb1 : Aside0 (∀ k_, v1.ownBlock = some k_ → k_ < wo.heap.size) := ⟨fun k_ hk => by obtain ⟨inner, ho⟩ := Kd.R_own HR.out; exact own_lt ho k_ hk⟩
                  have hB12 : Aside0 (wr.heap[wo.heap.size + 1 + 1]? = some (.cells #[.int .i64 j, .int .i64 s0, .int .i64 d0] 165 (0, 0))) := ⟨B12.out⟩
                  go_wp2_with (first
                    | ((with_reducible refine gate_builtin (b := .append) (xs := #[.tmp 92, .tmp 94]) rfl ?_); at_builtin; refine Kd.R_append k165 (w0 := w) w.heap.size rfl (.tmp 92) (.tmp 94) 154 165 (.agg #[(.int .i64 0), (.int .i64 0), (.int .i64 0)]) 24 rfl Try.underlying154 info165 rfl (by decide) (by omega) v1 xs (⟨j, s0, d0⟩ : Tp) [.int .i64 j, .int .i64 s0, .int .i64 d0] (fun k_ => some k_ ≠ u4.ownBlock) (fun _ => False) rfl (by simp [Act.eval, Act.put]) (k165_mkM _ _ _ _) (fun _ h => h.elim) (fun k_ hk h => by have := hb4.out k_ h.symm; have := HBW.out.size; omega) (Kd.R_below HR.out HBW.out) (below_then HB.out HB.out.size HBW.out) (Nat.le_trans HB.out.size HBW.out.size) (by omega) ?_; intro v5 w5 ho5 hb5 hg5 hat5; have HV5 := am ho5; have HB5 := am hb5; have HG5 := am hg5; have HM4 := am (tops_move HO4.out HBW.out hg5 HOB.out hat5); clear ho5 hb5 hg5 hat5; have hq12 : Aside0 (w5.heap[wo.heap.size + 1 + 1]? = some (.cells #[.int .i64 j, .int .i64 s0, .int .i64 d0] 165 (0, 0))) := ⟨blk_grown hB12.out HG5.out (fun h => by have := hb1.out _ h.symm; omega)⟩; have hq0 : w5.cell? ⟨wo.heap.size + 1 + 1, 0, none⟩ = some (.int .i64 j) := (blk_cell hq12.out 0).trans rfl; have hq1 : w5.cell? ⟨wo.heap.size + 1 + 1, 1, none⟩ = some (.int .i64 s0) := (blk_cell hq12.out 1).trans rfl; have hq2 : w5.cell? ⟨wo.heap.size + 1 + 1, 2, none⟩ = some (.int .i64 d0) := (blk_cell hq12.out 2).trans rfl)
                    | ((with_reducible refine gate_builtin (b := .append) (xs := #[.tmp 96, .tmp 98]) rfl ?_); at_builtin; refine Kd.R_append k165 (w0 := w) w.heap.size rfl (.tmp 96) (.tmp 98) 154 165 (.agg #[(.int .i64 0), (.int .i64 0), (.int .i64 0)]) 24 rfl Try.underlying154 info165 rfl (by decide) (by omega) u4 all (⟨j, s0, d0⟩ : Tp) [.int .i64 j, .int .i64 s0, .int .i64 d0] (fun k_ => some k_ ≠ v5.ownBlock) (fun _ => False) rfl (by simp [Act.eval, Act.put]) (k165_mkM _ _ _ _) (fun _ h => h.elim) (fun k_ hk h => by obtain ⟨inner, ho⟩ := Kd.R_own HV5.out; have := own_lt ho k_ h.symm; omega) HM4.out HB5.out HB5.out.size (by omega) ?_; intro v4 w4 ho4 hb4' hg4 hat4; have HV4 := am ho4; have HB4 := am hb4'; have HG4 := am hg4; have HT4 := am hat4; clear ho4 hb4' hg4 hat4))
                  go_roundg (g0 - 1)
                  case measure => have := HA.out; omega
                  case rel => exact ⟨j + 1, _, _, by go_num, ⟨by have := HA.out; omega, by omega, HF.out, by simp; have := HXS.out; have h2 := congrArg List.length this; rw [List.length_take] at h2; have := HA.out.2.2.2.1; omega, by simp; exact HA.out.2.2.2.2⟩, HV4, ⟨tops_move2 HV5.out HG4.out HT4.out⟩, HB4⟩
        · have c3 : decide ((stk.length : Int) < (n : Int)) = true := decide_eq_true (by omega)
          have c3' : decide (stk.length < n) = true := decide_eq_true (by omega)
          have HF : Aside0 (r1 = all ∧ r2 = false) := by
            have h1 := HA.out.2.2.1
            rw [HX.out] at h1
            simp only [topsGo, tstep, hn] at h1
            rw [if_pos (by omega)] at h1
            simp only [Prod.mk.injEq] at h1
            exact am ⟨h1.1.symm, h1.2.symm⟩
          have HP := am hp
          obtain ⟨A5, k5, e5⟩ := Kd.R_slice HO5.out
          subst e5
          clear hp hn
          go_wp2_with (go_at_call 100; refine (HP.out _).mono ?_; rintro e w' ⟨rfl, ⟨nd, rfl⟩⟩)
          go_ret2
          obtain ⟨rfl, rfl⟩ := HF.out
          exact ⟨_, rfl, Kd.R_drewN (Kd.R_alloc (Kd.R_mono HO4.out (fun _ _ => trivial)) _) _, pw_below_drewN (below_alloc HB.out _) _⟩
    · have hjl : j = l0.length := by have := HA.out.2.1; omega
      have c2 : decide (j < l0.length) = false := decide_eq_false (by omega)
      have HF : Aside0 (r1 = all ∧ r2 = ((stk.length : Int) == 1)) := by
        have h1 := HA.out.2.2.1
        rw [hjl, List.drop_length] at h1
        simp only [topsGo, Prod.mk.injEq] at h1
        exact am ⟨h1.1.symm, h1.2.symm⟩
      clear hjl hj
      obtain ⟨A4, k4, e4⟩ := Kd.R_slice HO4.out
      obtain ⟨A5, k5, e5⟩ := Kd.R_slice HO5.out
      subst e4
      subst e5
      go_wp2
      go_ret2
      obtain ⟨rfl, rfl⟩ := HF.out
      exact ⟨_, rfl, Kd.R_mono HO4.out (fun _ _ => trivial), HB.out⟩

end Go.Proofs.Ytcdgohoinmbpfaa.M
namespace Go.Proofs.Ytcdgohoinmbpfaa.M
open Go.RowKit Go.Proofs.YtcdgohoinmbpfaaW.PrintWords Go.Proofs.YtcdgohoinmbpfaaW.PrintLast Go.Proofs.YtcdgohoinmbpfaaW.PrintMore
set_option linter.unusedVariables false
set_option linter.unusedSimpArgs false

set_option maxHeartbeats 1000000 in
set_option maxRecDepth 100000 in
theorem nodes_check.calls (A0 : Option Addr) (c0 : Nat) (l0 : List (S61)) (r1 : List (S165)) (r2 : Int) (w : World) (hr0 : Kd.C k61 w A0 l0.length l0) (hc0 : l0.length ≤ c0) (h : nodes_check.f l0 = some (r1, r2)) :
    Calls Try.prog 92 #[.slice A0 l0.length c0] w fun e w' => ∃ v0_ : Value, e = .returned (.tuple #[v0_, .int .i64 r2]) ∧ Kd.R k165 165 w' w.heap.size (fun _ => True) v0_ r1 ∧ Below w.heap.size w w' := by
  have HR0 := am hr0
  have HC0 := am hc0
  clear hr0 hc0
  unfold nodes_check.f at h
  by_cases hl : l0.length > 60
  · rw [if_pos hl] at h
    simp only [Option.some.injEq, Prod.mk.injEq] at h
    obtain ⟨rfl, rfl⟩ := h
    have c1 : decide ((60 : Int) < (l0.length : Int)) = true := decide_eq_true (by omega)
    have c2 : decide (60 < l0.length) = true := decide_eq_true (by omega)
    go_enter Try.func92, Try.ntmps92
    go_wp2
    go_ret2
    exact ⟨_, rfl, Kd.R_nil _ _ _ _ _, Below.refl _ _⟩
  · rw [if_neg hl] at h
    have c1 : decide ((60 : Int) < (l0.length : Int)) = false := decide_eq_false (by omega)
    have c2 : decide (60 < l0.length) = false := decide_eq_false (by omega)
    have hl60 : l0.length ≤ 60 := by omega
    clear hl
    rcases ht : nodes_tops.f l0 with ⟨all, right⟩
    rw [ht] at h
    have HT := am (fun W (hr : Kd.C k61 W A0 l0.length l0) => nodes_tops.calls A0 c0 l0 all right W hr HC0.out hl60 ht)
    clear ht
    cases right with
    | false =>
      simp only [Option.some.injEq, Prod.mk.injEq] at h
      obtain ⟨rfl, rfl⟩ := h
      go_enter Try.func92, Try.ntmps92
      go_wp2_with (go_at_call 98; refine (HT.out _ HR0.out).mono ?_; rintro e w1 ⟨v0, rfl, hR, hB⟩; have HR := am hR; have HB := am hB; clear hR hB)
      go_ret2
      exact ⟨_, rfl, Kd.R_nil _ _ _ _ _, HB.out⟩
    | true =>
      dsimp only at h
      cases hg : all.getLast? with
      | none => rw [hg] at h; cases h
      | some t =>
        rw [hg] at h
        dsimp only at h
        have hne : 0 < all.length := by cases all with | nil => cases hg | cons a l => simp
        have hlast : rd_T165 all ((all.length - 1 : Nat) : Int) = t := by
          unfold rd_T165
          rw [Int.toNat_natCast, List.getLast?_eq_getElem?] at *
          rw [List.getD_eq_getElem?_getD, hg]; rfl
        have HL := am hlast
        have HN := am hne
        clear hg hlast hne
        by_cases hd : t.f2 > 20
        · rw [if_pos hd] at h
          simp only [Option.some.injEq, Prod.mk.injEq] at h
          obtain ⟨rfl, rfl⟩ := h
          have c3 : decide (20 < t.f2) = true := decide_eq_true hd
          go_enter Try.func92, Try.ntmps92
          go_wp2_with (go_at_call 98; refine (HT.out _ HR0.out).mono ?_; rintro e w1 ⟨v0, rfl, hR, hB⟩; have HR := am hR; have HB := am hB; clear hR hB; obtain ⟨A1, k1, e1⟩ := Kd.R_slice HR.out; subst e1; obtain ⟨_, _, hC⟩ := Kd.R_reads' HR.out; obtain ⟨ad, ea, hz0, hz1, hz2⟩ := at_T165 hC ((all.length - 1 : Nat) : Int) (by omega) (by have := HN.out; omega); subst ea; rw [HL.out, Int.toNat_natCast] at hz0 hz1 hz2; have hm : all.length ≤ 9223372036854775807 := hC.2.1; clear hC; have hn1 : 1 ≤ all.length := HN.out; have hw1 : wrap64 ((all.length : Int) - 1) = ((all.length - 1 : Nat) : Int) := by unfold wrap64; omega)
          go_ret2
          exact ⟨_, rfl, Kd.R_nil _ _ _ _ _, HB.out⟩
        · rw [if_neg hd] at h
          simp only [Option.some.injEq, Prod.mk.injEq] at h
          obtain ⟨rfl, rfl⟩ := h
          have c3 : decide (20 < t.f2) = false := decide_eq_false hd
          go_enter Try.func92, Try.ntmps92
          go_wp2_with (go_at_call 98; refine (HT.out _ HR0.out).mono ?_; rintro e w1 ⟨v0, rfl, hR, hB⟩; have HR := am hR; have HB := am hB; clear hR hB; obtain ⟨A1, k1, e1⟩ := Kd.R_slice HR.out; subst e1; obtain ⟨_, _, hC⟩ := Kd.R_reads' HR.out; obtain ⟨ad, ea, hz0, hz1, hz2⟩ := at_T165 hC ((all.length - 1 : Nat) : Int) (by omega) (by have := HN.out; omega); subst ea; rw [HL.out, Int.toNat_natCast] at hz0 hz1 hz2; have hm : all.length ≤ 9223372036854775807 := hC.2.1; clear hC; have hn1 : 1 ≤ all.length := HN.out; have hw1 : wrap64 ((all.length : Int) - 1) = ((all.length - 1 : Nat) : Int) := by unfold wrap64; omega)
          go_ret2
          exact ⟨_, rfl, HR.out, HB.out⟩

end Go.Proofs.Ytcdgohoinmbpfaa.M
namespace Go.Proofs.Ytcdgohoinmbpfaa.M
open Go.RowKit Go.Proofs.YtcdgohoinmbpfaaW.PrintWords Go.Proofs.YtcdgohoinmbpfaaW.PrintLast Go.Proofs.YtcdgohoinmbpfaaW.PrintMore
attribute [local go_sem] max2_int min2_int max_two min_two
set_option linter.unusedVariables false
set_option linter.unusedSimpArgs false

def nodes_Check.f (l0 : List (S61)) : Option (Int) := (nodes_check.f l0).bind fun bt108 => (some bt108.2)
set_option maxHeartbeats 8000000 in
set_option maxRecDepth 100000 in
theorem nodes_Check.calls (A0 : Option Addr) (c0 : Nat) (l0 : List (S61)) (r : Int) (w : World) (hr0 : Kd.C k61 w A0 l0.length l0) (hc0 : l0.length ≤ c0) (h : nodes_Check.f l0 = some r) :
  Calls Try.prog 83 #[.slice A0 l0.length c0] w fun e w' => e = .returned (.int .i64 r) ∧ Below w.heap.size w w' := by
 have HR0 := am hr0
 have HC0 := am hc0
 clear hr0 hc0
 have HB := am (Below.refl w.heap.size w)
 have H : ((nodes_check.f l0).bind fun bt108 => (some bt108.2)) = some r := h
 clear h
 replace H := Option.bind_eq_some_iff.mp H
 obtain ⟨⟨t108, t109⟩, A20, H⟩ := H
 try dsimp only at H
 have A2 := am A20
 clear A20
 obtain rfl := Option.some.inj H
 go_enter Try.func83, Try.ntmps83
 go_wp2_with (first | ((with_reducible refine gate_callee (f := 92) rfl ?_); refine goesL_ (some 7) rfl rfl Try.func92 (by kernel_rfl) rfl #[.slice A0 l0.length c0] rfl (by (try simp only [List.map_toArray, List.map_cons, List.map_nil]) <;> rfl) ?_; (with_reducible refine (nodes_check.calls _ _ l0 t108 t109 _ ?side1 ?side2 A2.out).mono ?_); (case side1 => repeat (first | exact HR0.out | (with_reducible refine Kd.C_alloc ?_ _) | (with_reducible refine Kd.C_drewN ?_ _) | (with_reducible refine Kd.C_drew ?_))); (case side2 => exact HC0.out); rintro e w3 ⟨v110, rfl, ho0, hb⟩; refine ⟨_, rfl, ?_⟩; have HO111 := am (Kd.R_lower ho0 (below_size (by repeat (first | (with_reducible first | exact HB.out | apply below_alloc | apply pw_below_drewN | apply below_drew1) | exact HB.out)))); replace HB := am (below_step (by repeat (first | (with_reducible first | exact HB.out | apply below_alloc | apply pw_below_drewN | apply below_drew1) | exact HB.out)) hb); (try clear hb); (try clear hb2); (try clear hk); (try clear hi); (try clear ho0)))
 go_ret
 exact ⟨by first | rfl | (simp [errW_none, errW_some] <;> rfl) | (simp [*, errW_none, errW_some] <;> rfl), by repeat (first | (with_reducible first | exact HB.out | apply below_alloc | apply pw_below_drewN | apply below_drew1) | exact HB.out)⟩

end Go.Proofs.Ytcdgohoinmbpfaa.M
