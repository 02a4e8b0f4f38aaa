/- The contract of the reference's Made (4): the list of a node and of the nodes of its parts. -/
import Derived.Test.YtijdckamblaflaaMRef04Count
namespace Go.Proofs.Ytijdckamblaflaa.M
open Go.RowKit Go.Proofs.YtijdckamblaflaaW.PrintWords Go.Proofs.YtijdckamblaflaaW.PrintLast Go.Proofs.YtijdckamblaflaaW.PrintMore
set_option linter.unusedVariables false
set_option linter.unusedSimpArgs false

def cnt (k : Int) : Int := if k ≤ 4 then 0 else if k ≤ 6 then 1 else 2
theorem Count_told (k c : Int) (w : World) (h : cnt k = c) : Calls Try.prog 48 #[.int .u8 k] w fun e w' => e = .returned (.int .i64 c) ∧ Drawn0 w w' :=
  tailwaterref04_Count.calls k c w (by rw [← h]; unfold tailwaterref04_Count.f cnt; by_cases h1 : k ≤ 4 <;> by_cases h2 : k ≤ 6 <;> simp [h1, h2])
/-- A node whose parts have other indices. -/
def mvd (d : Int) (y : S27) : S27 := ⟨y.f0, y.f1, if 0 < cnt y.f0 then wrap64 (y.f2 + d) else y.f2, if 1 < cnt y.f0 then wrap64 (y.f3 + d) else y.f3, y.f4⟩
def madeGo : List (List S27) → Nat → List S27 → Int → Int → List S27 × Int × Int
  | [], _, out, a, b => (out, a, b)
  | p :: ps, i, out, a, b =>
    if i = 0 then madeGo ps 1 (out ++ p.map (mvd out.length)) (wrap64 (((out ++ p.map (mvd out.length)).length : Int) - 1)) b
    else madeGo ps (i + 1) (out ++ p.map (mvd out.length)) a (wrap64 (((out ++ p.map (mvd out.length)).length : Int) - 1))
def tailwaterref04_Made.f (a0 : Int) (a1 : Int) (a2 : Int) (l3 : List (List (S27))) : Option ((List (S27))) :=
  if l3.flatten.length ≤ 100000 ∧ l3.length ≤ 100000 then
    some ((madeGo l3 0 [] 0 0).1 ++ [⟨a0, a1, (madeGo l3 0 [] 0 0).2.1, (madeGo l3 0 [] 0 0).2.2, a2⟩])
  else none
theorem at_LN {w : World} {A : Option Addr} {n : Nat} {xs : List (List S27)} (h : Kd.C (Kd.slice 27 k27) w A n xs) (i : Nat) (h1 : i < n) : ∃ ad A0 c0, A = some ad ∧ w.cell? (ad.add i) = some (.slice A0 (xs.getD i []).length c0) ∧ (xs.getD i []).length ≤ c0 ∧ k27.C w A0 (xs.getD i []).length (xs.getD i []) := by
  obtain ⟨ad, c, e, _, hK, hc0⟩ := Kd.C_get h ([] : List S27) (i : Int) (by omega) (by omega)
  have hc : ∀ j u, c[j]? = some u → w.cell? (ad.add ((i : Int).toNat * 1 + j)) = some u := hc0
  obtain ⟨A0, c0, rfl, l0, g0⟩ := hK
  rw [Int.toNat_natCast] at *
  exact ⟨ad, A0, c0, e, by have hq := hc 0 _ rfl; rwa [Nat.mul_one, Nat.add_zero] at hq, l0, g0⟩
theorem made_keep {wr W w2 : World} {b B : Nat} {v : Value} {is : List S27} {cs : Array Value} {t : Nat} (ho : Kd.R k27 27 wr b (fun k_ => k_ ≠ B) v is) (hb : Below wr.heap.size wr W) (hg : W.grownBy w2 v.ownBlock) (hB : wr.heap[B]? = some (.cells cs t (0, 0))) : w2.heap[B]? = some (.cells cs t (0, 0)) :=
  blk_grown (blk_below hB hb) hg (fun h => ho.1 B h.symm rfl)
theorem made_part_le {l3 : List (List S27)} {i : Nat} {p : List S27} (h : l3[i]? = some p) : ((l3.take i).flatten).length + p.length ≤ l3.flatten.length := by
  have hi : i < l3.length := (List.getElem?_eq_some_iff.1 h).1
  have e : l3 = l3.take i ++ l3.drop i := (List.take_append_drop i l3).symm
  have hd : l3.drop i = p :: l3.drop (i + 1) := by
    rw [List.drop_eq_getElem_cons hi]
    obtain ⟨_, h2⟩ := List.getElem?_eq_some_iff.1 h
    rw [h2]
  have : l3.flatten.length = ((l3.take i).flatten).length + ((l3.drop i).flatten).length := by
    rw [← List.length_append, ← List.flatten_append, List.take_append_drop]
  rw [this, hd]
  simp

set_option maxHeartbeats 8000000 in
set_option maxRecDepth 100000 in
theorem tailwaterref04_Made.calls (a0 : Int) (a1 : Int) (a2 : Int) (A3 : Option Addr) (c3 : Nat) (l3 : List (List (S27))) (r : List (S27)) (w : World) (hr3 : Kd.C (Kd.slice 27 k27) w A3 l3.length l3) (hc3 : l3.length ≤ c3) (h : tailwaterref04_Made.f a0 a1 a2 l3 = some r) :
    Calls Try.prog 21 #[.int .u8 a0, .int .i64 a1, .int .i64 a2, .slice A3 l3.length c3] w fun e w' => ∃ v0_ : Value, e = .returned (v0_) ∧ Kd.R k27 27 w' w.heap.size (fun _ => True) v0_ r ∧ Below w.heap.size w w' := by
  have HR3 := Aside0.mk hr3
  unfold tailwaterref04_Made.f at h
  by_cases hlim : l3.flatten.length ≤ 100000 ∧ l3.length ≤ 100000
  · rw [if_pos hlim] at h
    have H := Aside0.mk (Option.some.inj h)
    have hl1 : l3.flatten.length ≤ 100000 := hlim.1
    have hl2 : l3.length ≤ 100000 := hlim.2
    have hu27 := Try.underlying27
    clear hr3 hc3 h hlim
    go_enter Try.func21, Try.ntmps21
    go_wp2
    go_loopg [9, 11] (l3.length + 1) (fun kq v9 v11 W => ∃ (i : Nat) (out : List S27) (a b : Int), v11 = .int .i64 i ∧ Aside0 (kq + i = l3.length + 1 ∧ i ≤ l3.length ∧ madeGo (l3.drop i) i out a b = madeGo l3 0 [] 0 0 ∧ out.length = ((l3.take i).flatten).length) ∧ Aside0 (W.heap[w.heap.size]? = some (.cells #[.int .u8 a0, .int .i64 a1, .int .i64 a, .int .i64 b, .int .i64 a2] 27 (0, 0))) ∧ Aside0 (Kd.R k27 27 W w.heap.size (fun k_ => k_ ≠ w.heap.size) v9 out) ∧ Aside0 (Below w.heap.size w W))
    case atStart => exact ⟨0, [], 0, 0, rfl, ⟨by omega, by omega, rfl, rfl⟩, ⟨blk_new _ _⟩, ⟨Kd.R_nil _ _ _ _ _⟩, ⟨below_alloc (Below.refl _ _) _⟩⟩
    case round =>
      obtain ⟨wo, rfl⟩ : ∃ wo : World, wo = wr := ⟨_, rfl⟩
      obtain ⟨g0, rfl⟩ : ∃ g0 : Nat, g0 = gk := ⟨_, rfl⟩
      obtain ⟨i, out, a, b, rfl, HA, BX, HO, HB⟩ := hrel
      obtain ⟨A9, k9, e9⟩ := Kd.R_slice HO.out
      subst e9
      by_cases hi : i < l3.length
      · have c2 : decide ((i : Int) < (l3.length : Int)) = true := decide_eq_true (by omega)
        have c2' : decide (i < l3.length) = true := decide_eq_true hi
        obtain ⟨ad, A4, c4, e0, hz, hc4, hC4⟩ := at_LN HR3.out i hi
        cases e0
        obtain ⟨p, hp⟩ : ∃ p, p = l3.getD i [] := ⟨_, rfl⟩
        rw [← hp] at hz hc4 hC4
        have hpi : l3[i]? = some p := by rw [hp]; simp [hi]
        have hpl := made_part_le hpi
        have hdrop : l3.drop i = p :: l3.drop (i + 1) := by
          rw [List.drop_eq_getElem_cons hi]
          obtain ⟨_, h2⟩ := List.getElem?_eq_some_iff.1 hpi
          rw [h2]
        have htk : ((l3.take (i + 1)).flatten).length = ((l3.take i).flatten).length + p.length := by
          rw [List.take_succ_eq_append_getElem hi, List.flatten_append, List.length_append]
          obtain ⟨_, h2⟩ := List.getElem?_eq_some_iff.1 hpi
          rw [h2]; simp
        have hol : out.length + p.length ≤ 100000 := by have := HA.out.2.2.2; omega
        have hlt := World.block_lt_of_cell? w _ hz
        have HC4 := Aside0.mk hC4
        have HDR := Aside0.mk hdrop
        have HTK := Aside0.mk htk
        have HZ := Aside0.mk hz
        have HLT := Aside0.mk hlt
        replace hz := (HB.out.cell hlt).trans hz
        clear hp hpi hC4 hdrop htk hpl hlt
        go_wp2
        go_loopg [9, 13] (p.length + 1) (fun kq v9 v13 W => ∃ (k : Nat), v13 = .int .i64 k ∧ Aside0 (kq + k = p.length + 1 ∧ k ≤ p.length) ∧ Aside0 (W.heap[w.heap.size]? = some (.cells #[.int .u8 a0, .int .i64 a1, .int .i64 a, .int .i64 b, .int .i64 a2] 27 (0, 0))) ∧ Aside0 (Kd.R k27 27 W w.heap.size (fun k_ => k_ ≠ w.heap.size) v9 (out ++ (p.take k).map (mvd out.length))) ∧ Aside0 (Below w.heap.size w W))
        case atStart => exact ⟨0, rfl, ⟨by omega, by omega⟩, BX, ⟨by simpa using HO.out⟩, HB⟩
        case round =>
          clear hz
          obtain ⟨k, rfl, HK, BXi, HOi, HBi⟩ := hrel
          obtain ⟨qs, hqs⟩ : ∃ qs, qs = out ++ (p.take k).map (mvd out.length) := ⟨_, rfl⟩
          rw [← hqs] at HOi
          have hql : qs.length = out.length + k := by rw [hqs, List.length_append, List.length_map, List.length_take]; have := HK.out; omega
          have hql2 : qs.length ≤ 100000 := by have := HK.out; omega
          have HQS := Aside0.mk hqs
          have HQL := Aside0.mk hql
          clear hqs hql
          obtain ⟨B9, j9, e9⟩ := Kd.R_slice HOi.out
          subst e9
          have hz := (HBi.out.cell HLT.out).trans HZ.out
          have hs0 : w.heap.size < wr.heap.size := blk_lt BXi.out
          by_cases hk : k < p.length
          · have c4a : decide ((k : Int) < (p.length : Int)) = true := decide_eq_true (by omega)
            have c4b : decide (k < p.length) = true := decide_eq_true hk
            obtain ⟨ad4, e4, hx0, hx1, hx2, hx3, hx4⟩ := at_T27 HC4.out k (by omega) (by omega)
            cases e4
            rw [Int.toNat_natCast] at hx0 hx1 hx2 hx3 hx4
            replace hx0 := (HBi.out.cell (World.block_lt_of_cell? w _ hx0)).trans hx0
            replace hx1 := (HBi.out.cell (World.block_lt_of_cell? w _ hx1)).trans hx1
            replace hx2 := (HBi.out.cell (World.block_lt_of_cell? w _ hx2)).trans hx2
            replace hx3 := (HBi.out.cell (World.block_lt_of_cell? w _ hx3)).trans hx3
            replace hx4 := (HBi.out.cell (World.block_lt_of_cell? w _ hx4)).trans hx4
            obtain ⟨y, hy⟩ : ∃ y : S27, y = rd_T27 p k := ⟨_, rfl⟩
            rw [← hy] at hx0 hx1 hx2 hx3 hx4
            have hpk : p.take (k + 1) = p.take k ++ [y] := by
              rw [hy, List.take_succ_eq_append_getElem hk]; simp [rd_T27, hk]
            obtain ⟨y0, y1, y2, y3, y4⟩ := y
            dsimp only at hx0 hx1 hx2 hx3 hx4
            have HQ : Aside0 (out ++ (p.take (k + 1)).map (mvd out.length) = qs ++ [mvd out.length ⟨y0, y1, y2, y3, y4⟩]) := ⟨by rw [hpk, List.map_append, ← List.append_assoc, ← HQS.out]; rfl⟩
            clear hy hpk
            by_cases h4 : y0 ≤ 4
            · have HC : Aside0 (cnt y0 = 0) := ⟨by unfold cnt; rw [if_pos h4]⟩
              have HQ1 : Aside0 (out ++ (p.take (k + 1)).map (mvd out.length) = qs ++ [(⟨y0, y1, y2, y3, y4⟩ : S27)]) := ⟨by rw [HQ.out]; unfold mvd; rw [HC.out]; rfl⟩
              clear HQ h4
              go_wp2_with (first | (go_at_call 48; (with_reducible refine (Count_told _ 0 _ HC.out).mono ?_); rintro e w' ⟨rfl, ⟨nd, rfl⟩⟩) | ((with_reducible refine gate_builtin (b := .append) (xs := #[.tmp 61, .tmp 63]) rfl ?_); at_builtin; refine Kd.R_append k27 (w0 := w) w.heap.size rfl (.tmp 61) (.tmp 63) 22 27 (.agg #[(.int .u8 0), (.int .i64 0), (.int .i64 0), (.int .i64 0), (.int .i64 0)]) 40 rfl Try.underlying22 info27 rfl (by decide) (by omega) (.slice B9 qs.length j9) qs (⟨y0, y1, y2, y3, y4⟩ : S27) _ (fun k_ => k_ ≠ w.heap.size) (fun _ => False) rfl (by simp [Act.eval, Act.put]) (k27_mkM _ _ _ _) (fun _ h => h.elim) (fun k_ hk h => by simp at hk; omega) (Kd.R_below HOi.out (by repeat (first | exact Below.refl _ _ | apply below_alloc | apply pw_below_drewN | apply below_drew1 | refine below_set ?_ (by simp)))) (by repeat (first | exact HBi.out | apply below_alloc | apply pw_below_drewN | apply below_drew1 | refine below_set ?_ (by have := HBi.out.size; omega))) (by have := HBi.out.size; simp; omega) (by omega) ?_; intro v2 w2 ho2 hb2 hg2 hat2; have hbx2 : w2.heap[w.heap.size]? = some (.cells #[.int .u8 a0, .int .i64 a1, .int .i64 a, .int .i64 b, .int .i64 a2] 27 (0, 0)) := made_keep HOi.out (by repeat (first | exact Below.refl _ _ | apply below_alloc | apply pw_below_drewN | apply below_drew1 | refine below_set ?_ (by simp))) hg2 BXi.out; have HV2 := Aside0.mk ho2; have HB2 := Aside0.mk hb2; have BX2 := Aside0.mk hbx2; clear ho2 hb2 hg2 hat2 hbx2))
              go_roundg (gk - 1)
              case measure => have := HK.out; omega
              case rel => exact ⟨k + 1, by go_num, ⟨by have := HK.out; omega, by omega⟩, BX2, ⟨by rw [HQ1.out]; exact HV2.out⟩, HB2⟩
            · by_cases h6 : y0 ≤ 6
              · have HC : Aside0 (cnt y0 = 1) := ⟨by unfold cnt; rw [if_neg h4, if_pos h6]⟩
                have HQ1 : Aside0 (out ++ (p.take (k + 1)).map (mvd out.length) = qs ++ [(⟨y0, y1, wrap64 (y2 + out.length), y3, y4⟩ : S27)]) := ⟨by rw [HQ.out]; unfold mvd; rw [HC.out]; rfl⟩
                clear HQ h4 h6
                go_wp2_with (first | (go_at_call 48; (with_reducible refine (Count_told _ 1 _ HC.out).mono ?_); rintro e w' ⟨rfl, ⟨nd, rfl⟩⟩) | ((with_reducible refine gate_builtin (b := .append) (xs := #[.tmp 61, .tmp 63]) rfl ?_); at_builtin; refine Kd.R_append k27 (w0 := w) w.heap.size rfl (.tmp 61) (.tmp 63) 22 27 (.agg #[(.int .u8 0), (.int .i64 0), (.int .i64 0), (.int .i64 0), (.int .i64 0)]) 40 rfl Try.underlying22 info27 rfl (by decide) (by omega) (.slice B9 qs.length j9) qs (⟨y0, y1, wrap64 (y2 + out.length), y3, y4⟩ : S27) _ (fun k_ => k_ ≠ w.heap.size) (fun _ => False) rfl (by simp [Act.eval, Act.put]) (k27_mkM _ _ _ _) (fun _ h => h.elim) (fun k_ hk h => by simp at hk; omega) (Kd.R_below HOi.out (by repeat (first | exact Below.refl _ _ | apply below_alloc | apply pw_below_drewN | apply below_drew1 | refine below_set ?_ (by simp)))) (by repeat (first | exact HBi.out | apply below_alloc | apply pw_below_drewN | apply below_drew1 | refine below_set ?_ (by have := HBi.out.size; omega))) (by have := HBi.out.size; simp; omega) (by omega) ?_; intro v2 w2 ho2 hb2 hg2 hat2; have hbx2 : w2.heap[w.heap.size]? = some (.cells #[.int .u8 a0, .int .i64 a1, .int .i64 a, .int .i64 b, .int .i64 a2] 27 (0, 0)) := made_keep HOi.out (by repeat (first | exact Below.refl _ _ | apply below_alloc | apply pw_below_drewN | apply below_drew1 | refine below_set ?_ (by simp))) hg2 BXi.out; have HV2 := Aside0.mk ho2; have HB2 := Aside0.mk hb2; have BX2 := Aside0.mk hbx2; clear ho2 hb2 hg2 hat2 hbx2))
                go_roundg (gk - 1)
                case measure => have := HK.out; omega
                case rel => exact ⟨k + 1, by go_num, ⟨by have := HK.out; omega, by omega⟩, BX2, ⟨by rw [HQ1.out]; exact HV2.out⟩, HB2⟩
              · have HC : Aside0 (cnt y0 = 2) := ⟨by unfold cnt; rw [if_neg h4, if_neg h6]⟩
                have HQ1 : Aside0 (out ++ (p.take (k + 1)).map (mvd out.length) = qs ++ [(⟨y0, y1, wrap64 (y2 + out.length), wrap64 (y3 + out.length), y4⟩ : S27)]) := ⟨by rw [HQ.out]; unfold mvd; rw [HC.out]; rfl⟩
                clear HQ h4 h6
                go_wp2_with (first | (go_at_call 48; (with_reducible refine (Count_told _ 2 _ HC.out).mono ?_); rintro e w' ⟨rfl, ⟨nd, rfl⟩⟩) | ((with_reducible refine gate_builtin (b := .append) (xs := #[.tmp 61, .tmp 63]) rfl ?_); at_builtin; refine Kd.R_append k27 (w0 := w) w.heap.size rfl (.tmp 61) (.tmp 63) 22 27 (.agg #[(.int .u8 0), (.int .i64 0), (.int .i64 0), (.int .i64 0), (.int .i64 0)]) 40 rfl Try.underlying22 info27 rfl (by decide) (by omega) (.slice B9 qs.length j9) qs (⟨y0, y1, wrap64 (y2 + out.length), wrap64 (y3 + out.length), y4⟩ : S27) _ (fun k_ => k_ ≠ w.heap.size) (fun _ => False) rfl (by simp [Act.eval, Act.put]) (k27_mkM _ _ _ _) (fun _ h => h.elim) (fun k_ hk h => by simp at hk; omega) (Kd.R_below HOi.out (by repeat (first | exact Below.refl _ _ | apply below_alloc | apply pw_below_drewN | apply below_drew1 | refine below_set ?_ (by simp)))) (by repeat (first | exact HBi.out | apply below_alloc | apply pw_below_drewN | apply below_drew1 | refine below_set ?_ (by have := HBi.out.size; omega))) (by have := HBi.out.size; simp; omega) (by omega) ?_; intro v2 w2 ho2 hb2 hg2 hat2; have hbx2 : w2.heap[w.heap.size]? = some (.cells #[.int .u8 a0, .int .i64 a1, .int .i64 a, .int .i64 b, .int .i64 a2] 27 (0, 0)) := made_keep HOi.out (by repeat (first | exact Below.refl _ _ | apply below_alloc | apply pw_below_drewN | apply below_drew1 | refine below_set ?_ (by simp))) hg2 BXi.out; have HV2 := Aside0.mk ho2; have HB2 := Aside0.mk hb2; have BX2 := Aside0.mk hbx2; clear ho2 hb2 hg2 hat2 hbx2))
                go_roundg (gk - 1)
                case measure => have := HK.out; omega
                case rel => exact ⟨k + 1, by go_num, ⟨by have := HK.out; omega, by omega⟩, BX2, ⟨by rw [HQ1.out]; exact HV2.out⟩, HB2⟩
          · have hkp : k = p.length := by have := HK.out; omega
            have c4a : decide ((k : Int) < (p.length : Int)) = false := decide_eq_false (by omega)
            have c4b : decide (k < p.length) = false := decide_eq_false hk
            have HQ : Aside0 (qs = out ++ p.map (mvd out.length)) := ⟨by rw [HQS.out, hkp, List.take_length]⟩
            have HN : Aside0 (madeGo (l3.drop i) i out a b = madeGo l3 0 [] 0 0) := ⟨HA.out.2.2.1⟩
            rw [HDR.out] at HN
            simp only [madeGo] at HN
            rw [← HQ.out] at HN
            have HL : Aside0 (qs.length = ((l3.take (i + 1)).flatten).length) := ⟨by rw [HTK.out, HQL.out, hkp, HA.out.2.2.2]⟩
            have h2 : wr.cell? ⟨w.heap.size, 2, none⟩ = some (.int .i64 a) := (blk_cell BXi.out 2).trans rfl
            have h3 : wr.cell? ⟨w.heap.size, 3, none⟩ = some (.int .i64 b) := (blk_cell BXi.out 3).trans rfl
            have hf2 := blk_frozen BXi.out 2
            have hf3 := blk_frozen BXi.out 3
            obtain ⟨m, hm⟩ : ∃ m, wrap64 ((qs.length : Int) - 1) = m := ⟨_, rfl⟩
            rw [hm] at HN
            have hw : IntKind.i64.wrap ((qs.length : Int) - 1) = m := (i64_w _).trans hm
            clear hkp hk
            by_cases hi0 : i = 0
            · subst hi0
              rw [if_pos rfl] at HN
              have e0 : ad.add 0 = ad := by simp [Addr.add]
              rw [e0] at hz
              clear e0
              go_wp2
              go_roundg (g0 - 1)
              case measure => have := HA.out; omega
              case rel => exact ⟨1, qs, m, b, rfl, ⟨by have := HA.out; omega, by omega, HN.out, HL.out⟩, ⟨blk_put BXi.out 2 _ rfl⟩, ⟨Kd.R_far HOi.out (fun k hk => hk) _⟩, ⟨below_set HBi.out (Nat.le_refl _)⟩⟩
            · rw [if_neg hi0] at HN
              have c5 : ((i : Int) == 0) = false := beq_eq_false_iff_ne.mpr (by omega)
              have HI0 := Aside0.mk hi0
              clear hi0
              go_wp2
              go_roundg (g0 - 1)
              case measure => have := HA.out; omega
              case rel => exact ⟨i + 1, qs, a, m, by go_num, ⟨by have := HA.out; omega, by omega, HN.out, HL.out⟩, ⟨blk_put BXi.out 3 _ rfl⟩, ⟨Kd.R_far HOi.out (fun k hk => hk) _⟩, ⟨below_set HBi.out (Nat.le_refl _)⟩⟩
      · have hil : i = l3.length := by have := HA.out; omega
        have c2 : decide ((i : Int) < (l3.length : Int)) = false := decide_eq_false (by omega)
        have c2' : decide (i < l3.length) = false := decide_eq_false hi
        have HN : Aside0 (madeGo (l3.drop i) i out a b = madeGo l3 0 [] 0 0) := ⟨HA.out.2.2.1⟩
        rw [hil, List.drop_length] at HN
        simp only [madeGo] at HN
        have HF : Aside0 (r = out ++ [(⟨a0, a1, a, b, a2⟩ : S27)]) := ⟨by rw [← H.out, ← HN.out]⟩
        have hol : out.length ≤ 100000 := by
          have h1 := HA.out.2.2.2
          rw [hil, List.take_length] at h1
          omega
        have h0 : wo.cell? ⟨w.heap.size, 0, none⟩ = some (.int .u8 a0) := (blk_cell BX.out 0).trans rfl
        have h1 : wo.cell? ⟨w.heap.size, 1, none⟩ = some (.int .i64 a1) := (blk_cell BX.out 1).trans rfl
        have h2 : wo.cell? ⟨w.heap.size, 2, none⟩ = some (.int .i64 a) := (blk_cell BX.out 2).trans rfl
        have h3 : wo.cell? ⟨w.heap.size, 3, none⟩ = some (.int .i64 b) := (blk_cell BX.out 3).trans rfl
        have h4 : wo.cell? ⟨w.heap.size, 4, none⟩ = some (.int .i64 a2) := (blk_cell BX.out 4).trans rfl
        have hs0 : w.heap.size < wo.heap.size := blk_lt BX.out
        clear hil hi
        go_wp2_with ((with_reducible refine gate_builtin (b := .append) (xs := #[.tmp 75, .tmp 77]) rfl ?_); at_builtin; refine Kd.R_append k27 (w0 := w) w.heap.size rfl (.tmp 75) (.tmp 77) 22 27 (.agg #[(.int .u8 0), (.int .i64 0), (.int .i64 0), (.int .i64 0), (.int .i64 0)]) 40 rfl Try.underlying22 info27 rfl (by decide) (by omega) (.slice A9 out.length k9) out (⟨a0, a1, a, b, a2⟩ : S27) _ (fun k_ => k_ ≠ w.heap.size) (fun _ => False) rfl (by simp [Act.eval, Act.put]) (k27_mkM _ _ _ _) (fun _ h => h.elim) (fun k_ hk h => by omega) HO.out HB.out HB.out.size (by omega) ?_; intro v2 w2 ho2 hb2 hg2 hat2; have HV2 := Aside0.mk ho2; have HB2 := Aside0.mk hb2; clear ho2 hb2 hg2 hat2)
        go_ret
        exact ⟨_, rfl, by rw [HF.out]; exact Kd.R_mono HV2.out (fun _ _ => trivial), HB2.out⟩
  · rw [if_neg hlim] at h
    cases h

end Go.Proofs.Ytijdckamblaflaa.M
