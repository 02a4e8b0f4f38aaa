/- The contract of nodes.Node: the row of a node and of its parts, checked. -/
import Derived.Test.YtijdckamblaflaaPPart
namespace Go.Proofs.Ytijdckamblaflaa.M
open Go.RowKit Go.Proofs.YtijdckamblaflaaW.PrintWords Go.Proofs.YtijdckamblaflaaW.PrintLast Go.Proofs.YtijdckamblaflaaW.PrintMore
set_option linter.unusedVariables false
set_option linter.unusedSimpArgs false

def nodeGo : List (List S27) → Nat → List S27 → Int → Int → Option (List S27 × Int × Int × Int)
  | [], _, out, a, b => some (out, a, b, 0)
  | p :: ps, i, out, a, b => (nodes_Check.f p).bind fun e =>
    if e = 0 then
      if i = 0 then nodeGo ps 1 (out ++ p.map (mvd out.length)) (wrap64 (((out ++ p.map (mvd out.length)).length : Int) - 1)) b
      else nodeGo ps (i + 1) (out ++ p.map (mvd out.length)) a (wrap64 (((out ++ p.map (mvd out.length)).length : Int) - 1))
    else some ([], 0, 0, e)
def nodes_Node.f (a0 : Int) (a1 : Int) (a2 : Int) (l3 : List (List (S27))) : Option ((List (S27)) × Int) :=
  if l3.flatten.length ≤ 500 ∧ l3.length ≤ 500 then
    (nodes_Parts.f 3 a0).bind fun ce =>
      if ce.2 = 0 then
        if ce.1 = (l3.length : Int) then
          if a1 = 0 ∧ 0 ≤ a2 ∧ a2 ≤ 400 then
            (nodeGo l3 0 [] 0 0).bind fun o =>
              if o.2.2.2 = 0 then (nodes_Check.f (o.1 ++ [⟨a0, a1, o.2.1, o.2.2.1, a2⟩])).bind fun e => if e = 0 then some (o.1 ++ [⟨a0, a1, o.2.1, o.2.2.1, a2⟩], 0) else some ([], e)
              else some ([], o.2.2.2)
          else none
        else some ([], 2)
      else some ([], 2)
  else none
theorem check_small {p : List S27} (h : nodes_Check.f p = some 0) : p.length ≤ 60 ∧ ∀ x ∈ p, 1 ≤ x.f0 ∧ x.f0 ≤ 19 := by
  unfold nodes_Check.f at h
  obtain ⟨⟨all, e⟩, h1, h2⟩ := Option.bind_eq_some_iff.mp h
  obtain rfl : e = 0 := Option.some.inj h2
  obtain ⟨t, ht, rfl, _, hz, _⟩ := Ex.parse h1
  exact ⟨by rw [Ex.ser_len]; exact hz, Ex.ser_kinds ht 0⟩

set_option maxHeartbeats 8000000 in
set_option maxRecDepth 100000 in
theorem nodes_Node.calls (a0 : Int) (a1 : Int) (a2 : Int) (A3 : Option Addr) (c3 : Nat) (l3 : List (List (S27))) (r1 : List (S27)) (r2 : Int) (w : World) (hr3 : Kd.C (Kd.slice 27 k27) w A3 l3.length l3) (hc3 : l3.length ≤ c3) (h : nodes_Node.f a0 a1 a2 l3 = some (r1, r2)) :
    Calls Try.prog 32 #[.int .u8 a0, .int .i64 a1, .int .i64 a2, .slice A3 l3.length c3] w fun e w' => ∃ v0_ : Value, e = .returned (.tuple #[v0_, .int .i64 r2]) ∧ Kd.R k27 27 w' w.heap.size (fun _ => True) v0_ r1 ∧ Below w.heap.size w w' := by
  have HR3 := Aside0.mk hr3
  unfold nodes_Node.f at h
  by_cases hlim : l3.flatten.length ≤ 500 ∧ l3.length ≤ 500
  · rw [if_pos hlim] at h
    obtain ⟨⟨ct, er⟩, HP0, h⟩ := Option.bind_eq_some_iff.mp h
    have HP := Aside0.mk HP0
    have hl1 : l3.flatten.length ≤ 500 := hlim.1
    have hl2 : l3.length ≤ 500 := hlim.2
    have hu27 := Try.underlying27
    clear hr3 hc3 hlim HP0
    dsimp only at h
    by_cases he : er = 0
    · subst he
      rw [if_pos rfl] at h
      by_cases hct : ct = (l3.length : Int)
      · subst hct
        rw [if_pos rfl] at h
        by_cases hv : a1 = 0 ∧ 0 ≤ a2 ∧ a2 ≤ 400
        · rw [if_pos hv] at h
          obtain ⟨⟨o, oa, ob, oe⟩, HN0, h⟩ := Option.bind_eq_some_iff.mp h
          have HN := Aside0.mk HN0
          have H := Aside0.mk h
          obtain ⟨rfl, hv1, hv2⟩ := hv
          have b3 : decide (a2 < 0) = false := decide_eq_false (by omega)
          have b4 : decide (400 < a2) = false := decide_eq_false (by omega)
          have b5 : (((l3.length : Int)) != (l3.length : Int)) = false := bne_self_eq_false _
          clear HN0 h
          go_enter Try.func32, Try.ntmps32
          go_wp2_with (first | (go_at_call 31; (with_reducible refine (nodes_Parts.calls 3 a0 _ 0 _ HP.out).mono ?_); rintro e w' ⟨rfl, ⟨nd, rfl⟩⟩; obtain ⟨w1, hw1⟩ : ∃ w1, w1 = World.drewN w nd := ⟨_, rfl⟩; rw [← hw1]; have HW1 : Aside0 (Below w.heap.size w w1) := ⟨by rw [hw1]; exact pw_below_drewN (Below.refl _ _) _⟩; have HSZ : Aside0 (w.heap.size = w1.heap.size) := ⟨by rw [hw1]; rfl⟩; have HRW : Aside0 (Kd.C (Kd.slice 27 k27) w1 A3 l3.length l3) := ⟨by rw [hw1]; exact Kd.C_drewN HR3.out _⟩; clear hw1))
          go_loopg [13, 57] (l3.length + 1) (fun kq v13 v57 W => ∃ (i : Nat) (out : List S27) (a b : Int), v57 = .int .i64 i ∧ Aside0 (kq + i = l3.length + 1 ∧ i ≤ l3.length ∧ nodeGo (l3.drop i) i out a b = some (o, oa, ob, oe) ∧ out.length = ((l3.take i).flatten).length) ∧ Aside0 (W.heap[w1.heap.size]? = some (.cells #[.int .u8 a0, .int .i64 0, .int .i64 a, .int .i64 b, .int .i64 a2] 27 (0, 0))) ∧ Aside0 (Kd.R k27 27 W w1.heap.size (fun k_ => k_ ≠ w1.heap.size) v13 out) ∧ Aside0 (Below w1.heap.size w1 W))
          case atStart => exact ⟨0, [], 0, 0, rfl, ⟨by omega, by omega, HN.out, rfl⟩, ⟨blk_new _ _⟩, ⟨Kd.R_nil _ _ _ _ _⟩, ⟨below_alloc (Below.refl _ _) _⟩⟩
          case round =>
            obtain ⟨wo, rfl⟩ : ∃ wo : World, wo = wr := ⟨_, rfl⟩
            obtain ⟨g0, rfl⟩ : ∃ g0 : Nat, g0 = gk := ⟨_, rfl⟩
            obtain ⟨i, out, a, b, rfl, HA, BX, HO, HB⟩ := hrel
            obtain ⟨A9, k9, e9⟩ := Kd.R_slice HO.out
            subst e9
            by_cases hi : i < l3.length
            · have c2 : decide ((i : Int) < (l3.length : Int)) = true := decide_eq_true (by omega)
              have c2' : decide (i < l3.length) = true := decide_eq_true hi
              obtain ⟨ad, A4, c4, e0, hz, hc4, hC4⟩ := at_LN HRW.out i hi
              cases e0
              obtain ⟨p, hp⟩ : ∃ p, p = l3.getD i [] := ⟨_, rfl⟩
              rw [← hp] at hz hc4 hC4
              have hpi : l3[i]? = some p := by rw [hp]; simp [hi]
              have hpl := made_part_le hpi
              have hdrop : l3.drop i = p :: l3.drop (i + 1) := by
                rw [List.drop_eq_getElem_cons hi]
                obtain ⟨_, h2⟩ := List.getElem?_eq_some_iff.1 hpi
                rw [h2]
              have htk : ((l3.take (i + 1)).flatten).length = ((l3.take i).flatten).length + p.length := by
                rw [List.take_succ_eq_append_getElem hi, List.flatten_append, List.length_append]
                obtain ⟨_, h2⟩ := List.getElem?_eq_some_iff.1 hpi
                rw [h2]; simp
              have hol : out.length + p.length ≤ 500 := by have := HA.out.2.2.2; omega
              have hlt := World.block_lt_of_cell? w1 _ hz
              replace hz := (HB.out.cell hlt).trans hz
              have HC4 : Aside0 (Kd.C k27 wo A4 p.length p) := ⟨Kd.C_below hC4 HB.out⟩
              have HNx : Aside0 (nodeGo (p :: l3.drop (i + 1)) i out a b = some (o, oa, ob, oe)) := ⟨by rw [← hdrop]; exact HA.out.2.2.1⟩
              have HTK := Aside0.mk htk
              have HCC := Aside0.mk hc4
              have HLN : Aside0 (out.length = ((l3.take i).flatten).length) := ⟨HA.out.2.2.2⟩
              have HIX : Aside0 (g0 + i = l3.length + 1) := ⟨HA.out.1⟩
              have hn2 := HNx.out
              rw [nodeGo] at hn2
              obtain ⟨ec, hck, hn3⟩ := Option.bind_eq_some_iff.mp hn2
              have HCK := Aside0.mk hck
              have hs0 : w1.heap.size < wo.heap.size := blk_lt BX.out
              have hck0 := hck
              clear hp hpi hC4 hdrop htk hpl hlt HA HNx hn2 hck hc4
              by_cases hec : ec = 0
              · subst hec
                rw [if_pos rfl] at hn3
                have hsm := check_small hck0
                obtain ⟨ys, hys⟩ : ∃ ys, ys = p.map (mvd out.length) := ⟨_, rfl⟩
                have hyl : ys.length = p.length := by rw [hys, List.length_map]
                have HMV : Aside0 (nodes_moved.f 600 p out.length = some ys) := ⟨by rw [hys]; exact moved_eq _ (by omega) hsm.2 (by omega)⟩
                rw [← hys] at hn3
                obtain ⟨os, hos⟩ : ∃ os, os = out ++ ys := ⟨_, rfl⟩
                have hosl : os.length = out.length + p.length := by rw [hos, List.length_append, hyl]
                have hosm : os.length ≤ 500 := by omega
                rw [← hos] at hn3
                have HL : Aside0 (os.length = ((l3.take (i + 1)).flatten).length) := ⟨by rw [HTK.out, hosl, HLN.out]⟩
                have HOS := Aside0.mk hos
                have HYL : Aside0 (out.length + ys.length ≤ 500) := ⟨by omega⟩
                have HOM := Aside0.mk hosm
                obtain ⟨m, hm⟩ : ∃ m, wrap64 ((os.length : Int) - 1) = m := ⟨_, rfl⟩
                rw [hm] at hn3
                have hw : IntKind.i64.wrap ((os.length : Int) - 1) = m := (i64_w _).trans hm
                have b6 : ((0 : Int) != 0) = false := rfl
                clear hck0 hsm hys hyl hos hosl hosm hm hol
                by_cases hi0 : i = 0
                · subst hi0
                  rw [if_pos rfl] at hn3
                  have HN3 := Aside0.mk hn3
                  have ea : ad.add 0 = ad := by simp [Addr.add]
                  rw [ea] at hz
                  clear ea hn3
                  go_wp2_with (first | (go_at_call 46; (with_reducible refine (nodes_Check.calls A4 c4 p 0 _ HC4.out HCC.out HCK.out).mono ?_); rintro e w2 ⟨rfl, hb⟩; have HO2 := Aside0.mk (Kd.R_below HO.out hb); have BX2 := Aside0.mk (blk_below BX.out hb); have HB2 := Aside0.mk (HB.out.trans (hb.mono HB.out.size)); have HC2 := Aside0.mk (Kd.C_below HC4.out hb); clear hb) | (go_at_call 53; (with_reducible refine (nodes_moved.calls 600 A4 c4 p out.length ys _ HC2.out HCC.out HMV.out).mono ?_); rintro e w3 ⟨v3, rfl, ho3, hb3⟩; obtain ⟨A5, c5, rfl⟩ := Kd.R_slice ho3; have HO3 := Aside0.mk (Kd.R_below HO2.out hb3); have BX3 := Aside0.mk (blk_below BX2.out hb3); have HB3 := Aside0.mk (HB2.out.trans (hb3.mono HB2.out.size)); have HR3' := Aside0.mk (Kd.R_reads' ho3).2.2; clear ho3 hb3) | ((with_reducible refine gate_builtin (b := .append) (xs := #[.tmp 67, .tmp 71]) rfl ?_); at_builtin; refine Kd.R_append_rows k27 (w0 := w1) w1.heap.size rfl (.tmp 67) (.tmp 71) 22 27 (.agg #[(.int .u8 0), (.int .i64 0), (.int .i64 0), (.int .i64 0), (.int .i64 0)]) 40 rfl Try.underlying22 info27 rfl (by decide) (by omega) (.slice A9 out.length k9) out ys _ _ _ (fun k_ => k_ ≠ w1.heap.size) (fun _ => False) rfl rfl HO3.out HR3'.out (fun _ _ h => h) (fun _ h => h.elim) (fun k_ hk h => by have := blk_lt BX3.out; omega) HB3.out HB3.out.size (by have := HYL.out; omega) ?_; intro v4 w4 ho4 hb4 hg4 hat4; rw [← HOS.out] at ho4; obtain ⟨B4, j4, rfl⟩ := Kd.R_slice ho4; have hbx4 : w4.heap[w1.heap.size]? = some (.cells #[.int .u8 a0, .int .i64 0, .int .i64 a, .int .i64 b, .int .i64 a2] 27 (0, 0)) := made_keep HO3.out (Below.refl _ _) hg4 BX3.out; have h2 : w4.cell? ⟨w1.heap.size, 2, none⟩ = some (.int .i64 a) := (blk_cell hbx4 2).trans rfl; have h3 : w4.cell? ⟨w1.heap.size, 3, none⟩ = some (.int .i64 b) := (blk_cell hbx4 3).trans rfl; have hf2 := blk_frozen hbx4 2; have hf3 := blk_frozen hbx4 3; have hs4 : w1.heap.size < w4.heap.size := blk_lt hbx4; have hlo : os.length ≤ 500 := HOM.out; have HV4 := Aside0.mk ho4; have HB4 := Aside0.mk hb4; have BX4 := Aside0.mk hbx4; clear ho4 hb4 hg4 hat4 hbx4))
                  go_roundg (g0 - 1)
                  case measure => have := HIX.out; omega
                  case rel => exact ⟨1, os, m, b, rfl, ⟨by have := HIX.out; omega, by omega, HN3.out, HL.out⟩, ⟨blk_put BX4.out 2 _ rfl⟩, ⟨Kd.R_far HV4.out (fun k hk => hk) _⟩, ⟨below_set HB4.out (Nat.le_refl _)⟩⟩
                · rw [if_neg hi0] at hn3
                  have HN3 := Aside0.mk hn3
                  have c5 : ((i : Int) == 0) = false := beq_eq_false_iff_ne.mpr (by omega)
                  clear hn3 hi0
                  go_wp2_with (first | (go_at_call 46; (with_reducible refine (nodes_Check.calls A4 c4 p 0 _ HC4.out HCC.out HCK.out).mono ?_); rintro e w2 ⟨rfl, hb⟩; have HO2 := Aside0.mk (Kd.R_below HO.out hb); have BX2 := Aside0.mk (blk_below BX.out hb); have HB2 := Aside0.mk (HB.out.trans (hb.mono HB.out.size)); have HC2 := Aside0.mk (Kd.C_below HC4.out hb); clear hb) | (go_at_call 53; (with_reducible refine (nodes_moved.calls 600 A4 c4 p out.length ys _ HC2.out HCC.out HMV.out).mono ?_); rintro e w3 ⟨v3, rfl, ho3, hb3⟩; obtain ⟨A5, c5, rfl⟩ := Kd.R_slice ho3; have HO3 := Aside0.mk (Kd.R_below HO2.out hb3); have BX3 := Aside0.mk (blk_below BX2.out hb3); have HB3 := Aside0.mk (HB2.out.trans (hb3.mono HB2.out.size)); have HR3' := Aside0.mk (Kd.R_reads' ho3).2.2; clear ho3 hb3) | ((with_reducible refine gate_builtin (b := .append) (xs := #[.tmp 67, .tmp 71]) rfl ?_); at_builtin; refine Kd.R_append_rows k27 (w0 := w1) w1.heap.size rfl (.tmp 67) (.tmp 71) 22 27 (.agg #[(.int .u8 0), (.int .i64 0), (.int .i64 0), (.int .i64 0), (.int .i64 0)]) 40 rfl Try.underlying22 info27 rfl (by decide) (by omega) (.slice A9 out.length k9) out ys _ _ _ (fun k_ => k_ ≠ w1.heap.size) (fun _ => False) rfl rfl HO3.out HR3'.out (fun _ _ h => h) (fun _ h => h.elim) (fun k_ hk h => by have := blk_lt BX3.out; omega) HB3.out HB3.out.size (by have := HYL.out; omega) ?_; intro v4 w4 ho4 hb4 hg4 hat4; rw [← HOS.out] at ho4; obtain ⟨B4, j4, rfl⟩ := Kd.R_slice ho4; have hbx4 : w4.heap[w1.heap.size]? = some (.cells #[.int .u8 a0, .int .i64 0, .int .i64 a, .int .i64 b, .int .i64 a2] 27 (0, 0)) := made_keep HO3.out (Below.refl _ _) hg4 BX3.out; have h2 : w4.cell? ⟨w1.heap.size, 2, none⟩ = some (.int .i64 a) := (blk_cell hbx4 2).trans rfl; have h3 : w4.cell? ⟨w1.heap.size, 3, none⟩ = some (.int .i64 b) := (blk_cell hbx4 3).trans rfl; have hf2 := blk_frozen hbx4 2; have hf3 := blk_frozen hbx4 3; have hs4 : w1.heap.size < w4.heap.size := blk_lt hbx4; have hlo : os.length ≤ 500 := HOM.out; have HV4 := Aside0.mk ho4; have HB4 := Aside0.mk hb4; have BX4 := Aside0.mk hbx4; clear ho4 hb4 hg4 hat4 hbx4))
                  go_roundg (g0 - 1)
                  case measure => have := HIX.out; omega
                  case rel => exact ⟨i + 1, os, a, m, by go_num, ⟨by have := HIX.out; omega, by omega, HN3.out, HL.out⟩, ⟨blk_put BX4.out 3 _ rfl⟩, ⟨Kd.R_far HV4.out (fun k hk => hk) _⟩, ⟨below_set HB4.out (Nat.le_refl _)⟩⟩
              · rw [if_neg hec] at hn3
                have b6 : (ec != 0) = true := bne_iff_ne.mpr hec
                obtain ⟨rfl, rfl, rfl, rfl⟩ : o = [] ∧ oa = 0 ∧ ob = 0 ∧ ec = oe := by
                  have := Option.some.inj hn3
                  simp only [Prod.mk.injEq] at this
                  exact ⟨this.1.symm, this.2.1.symm, this.2.2.1.symm, this.2.2.2⟩
                have HF := H.out
                rw [if_neg hec] at HF
                obtain ⟨rfl, rfl⟩ := Prod.mk.inj (Option.some.inj HF)
                clear hn3 HF hec H
                go_wp2_with (first | (go_at_call 46; (with_reducible refine (nodes_Check.calls A4 c4 p ec _ HC4.out HCC.out HCK.out).mono ?_); rintro e w' ⟨rfl, hb⟩; have HBc := Aside0.mk (HB.out.trans (hb.mono HB.out.size)); clear hb))
                go_ret2
                exact ⟨_, rfl, Kd.R_nil _ _ _ _ _, HW1.out.trans (by rw [HSZ.out]; exact HBc.out)⟩
            · have hil : i = l3.length := by have := HA.out; omega
              have c2 : decide ((i : Int) < (l3.length : Int)) = false := decide_eq_false (by omega)
              have c2' : decide (i < l3.length) = false := decide_eq_false hi
              have hn2 := HA.out.2.2.1
              rw [hil, List.drop_length, nodeGo] at hn2
              obtain ⟨rfl, rfl, rfl, rfl⟩ : out = o ∧ a = oa ∧ b = ob ∧ 0 = oe := by
                have := Option.some.inj hn2
                simp only [Prod.mk.injEq] at this
                exact this
              have hol : out.length ≤ 500 := by
                have h1 := HA.out.2.2.2
                rw [hil, List.take_length] at h1
                omega
              have h0 : wo.cell? ⟨w1.heap.size, 0, none⟩ = some (.int .u8 a0) := (blk_cell BX.out 0).trans rfl
              have h1 : wo.cell? ⟨w1.heap.size, 1, none⟩ = some (.int .i64 0) := (blk_cell BX.out 1).trans rfl
              have h2 : wo.cell? ⟨w1.heap.size, 2, none⟩ = some (.int .i64 a) := (blk_cell BX.out 2).trans rfl
              have h3 : wo.cell? ⟨w1.heap.size, 3, none⟩ = some (.int .i64 b) := (blk_cell BX.out 3).trans rfl
              have h4 : wo.cell? ⟨w1.heap.size, 4, none⟩ = some (.int .i64 a2) := (blk_cell BX.out 4).trans rfl
              have hs0 : w1.heap.size < wo.heap.size := blk_lt BX.out
              obtain ⟨os, hos⟩ : ∃ os, os = out ++ [(⟨a0, 0, a, b, a2⟩ : S27)] := ⟨_, rfl⟩
              have HF := H.out
              rw [if_pos rfl, ← hos] at HF
              obtain ⟨ec, hck, HF⟩ := Option.bind_eq_some_iff.mp HF
              have HOS := Aside0.mk hos
              have HCK := Aside0.mk hck
              clear hil hi hn2 hos hck H HN HA
              by_cases hec : ec = 0
              · subst hec
                rw [if_pos rfl] at HF
                obtain ⟨rfl, rfl⟩ := Prod.mk.inj (Option.some.inj HF)
                have b6 : ((0 : Int) != 0) = false := rfl
                clear HF
                go_wp2_with (first | ((with_reducible refine gate_builtin (b := .append) (xs := #[.tmp 84, .tmp 86]) rfl ?_); at_builtin; refine Kd.R_append k27 (w0 := w1) w1.heap.size rfl (.tmp 84) (.tmp 86) 22 27 (.agg #[(.int .u8 0), (.int .i64 0), (.int .i64 0), (.int .i64 0), (.int .i64 0)]) 40 rfl Try.underlying22 info27 rfl (by decide) (by omega) (.slice A9 out.length k9) out (⟨a0, 0, a, b, a2⟩ : S27) _ (fun k_ => k_ ≠ w1.heap.size) (fun _ => False) rfl (by simp [Act.eval, Act.put]) (k27_mkM _ _ _ _) (fun _ h => h.elim) (fun k_ hk h => by omega) HO.out HB.out HB.out.size (by omega) ?_; intro v2 w2 ho2 hb2 hg2 hat2; rw [← HOS.out] at ho2; obtain ⟨B2, j2, rfl⟩ := Kd.R_slice ho2; have hr2 := Kd.R_reads' ho2; have HV2 := Aside0.mk ho2; have HB2 := Aside0.mk hb2; have HR2 := Aside0.mk hr2.2.2; have HCP := Aside0.mk hr2.2.1; clear ho2 hb2 hg2 hat2 hr2) | (go_at_call 46; (with_reducible refine (nodes_Check.calls B2 j2 os 0 _ HR2.out HCP.out HCK.out).mono ?_); rintro e w3 ⟨rfl, hb3⟩; have HV3 := Aside0.mk (Kd.R_below HV2.out hb3); have HB3 := Aside0.mk (HB2.out.trans (hb3.mono HB2.out.size)); clear hb3))
                go_ret2
                exact ⟨_, rfl, by rw [HSZ.out]; exact Kd.R_mono HV3.out (fun _ _ => trivial), HW1.out.trans (by rw [HSZ.out]; exact HB3.out)⟩
              · rw [if_neg hec] at HF
                obtain ⟨rfl, rfl⟩ := Prod.mk.inj (Option.some.inj HF)
                have b6 : (ec != 0) = true := bne_iff_ne.mpr hec
                clear HF hec
                go_wp2_with (first | ((with_reducible refine gate_builtin (b := .append) (xs := #[.tmp 84, .tmp 86]) rfl ?_); at_builtin; refine Kd.R_append k27 (w0 := w1) w1.heap.size rfl (.tmp 84) (.tmp 86) 22 27 (.agg #[(.int .u8 0), (.int .i64 0), (.int .i64 0), (.int .i64 0), (.int .i64 0)]) 40 rfl Try.underlying22 info27 rfl (by decide) (by omega) (.slice A9 out.length k9) out (⟨a0, 0, a, b, a2⟩ : S27) _ (fun k_ => k_ ≠ w1.heap.size) (fun _ => False) rfl (by simp [Act.eval, Act.put]) (k27_mkM _ _ _ _) (fun _ h => h.elim) (fun k_ hk h => by omega) HO.out HB.out HB.out.size (by omega) ?_; intro v2 w2 ho2 hb2 hg2 hat2; rw [← HOS.out] at ho2; obtain ⟨B2, j2, rfl⟩ := Kd.R_slice ho2; have hr2 := Kd.R_reads' ho2; have HV2 := Aside0.mk ho2; have HB2 := Aside0.mk hb2; have HR2 := Aside0.mk hr2.2.2; have HCP := Aside0.mk hr2.2.1; clear ho2 hb2 hg2 hat2 hr2) | (go_at_call 46; (with_reducible refine (nodes_Check.calls B2 j2 os ec _ HR2.out HCP.out HCK.out).mono ?_); rintro e w3 ⟨rfl, hb3⟩; have HV3 := Aside0.mk (Kd.R_below HV2.out hb3); have HB3 := Aside0.mk (HB2.out.trans (hb3.mono HB2.out.size)); clear hb3))
                go_ret2
                exact ⟨_, rfl, Kd.R_nil _ _ _ _ _, HW1.out.trans (by rw [HSZ.out]; exact HB3.out)⟩
        · rw [if_neg hv] at h; cases h
      · rw [if_neg hct] at h
        obtain ⟨rfl, rfl⟩ := Prod.mk.inj (Option.some.inj h)
        have b5 : (ct != (l3.length : Int)) = true := bne_iff_ne.mpr hct
        clear hct h
        go_enter Try.func32, Try.ntmps32
        go_wp2_with (first | (go_at_call 31; (with_reducible refine (nodes_Parts.calls 3 a0 ct 0 _ HP.out).mono ?_); rintro e w' ⟨rfl, ⟨nd, rfl⟩⟩))
        go_ret2
        exact ⟨_, rfl, Kd.R_nil _ _ _ _ _, by repeat (first | exact Below.refl _ _ | apply below_alloc | apply pw_below_drewN | apply below_drew1)⟩
    · rw [if_neg he] at h
      obtain ⟨rfl, rfl⟩ := Prod.mk.inj (Option.some.inj h)
      have b5 : (er != 0) = true := bne_iff_ne.mpr he
      clear he h
      go_enter Try.func32, Try.ntmps32
      go_wp2_with (first | (go_at_call 31; (with_reducible refine (nodes_Parts.calls 3 a0 ct er _ HP.out).mono ?_); rintro e w' ⟨rfl, ⟨nd, rfl⟩⟩))
      go_ret2
      exact ⟨_, rfl, Kd.R_nil _ _ _ _ _, by repeat (first | exact Below.refl _ _ | apply below_alloc | apply pw_below_drewN | apply below_drew1)⟩
  · rw [if_neg hlim] at h
    cases h

end Go.Proofs.Ytijdckamblaflaa.M
