import Derived.Test.YtcdgohoinmbpfaaKFilterTwice6
import Derived.Test.YtcdgohoinmbpfaaKFilterTwice34
import Derived.Test.YtcdgohoinmbpfaaKFilterTwice35
import Derived.Test.YtcdgohoinmbpfaaKFilterTwice37
import Derived.Test.YtcdgohoinmbpfaaKFilterTwice38
import Derived.Test.YtcdgohoinmbpfaaKFilterTwice33
import Derived.Test.YtcdgohoinmbpfaaKFilterTwice16
import Derived.Test.YtcdgohoinmbpfaaKFilterTwice39
namespace Go.Proofs.Ytcdgohoinmbpfaa.M
open Go.RowKit Go.Proofs.YtcdgohoinmbpfaaW.PrintWords Go.Proofs.YtcdgohoinmbpfaaW.PrintLast Go.Proofs.YtcdgohoinmbpfaaW.PrintMore
attribute [local go_sem] max2_int min2_int max_two min_two
set_option linter.unusedVariables false
set_option linter.unusedSimpArgs false

def filter_Take.j0 : Nat → Bool → Int → List (S61) → List Int → Bool → List (S61) → Int → Int → Int → Bool → Int → Int → Int → Int → List (S55) → List Int → List (S105) → List (S99) → List (S48) → List (S43) → Int → Int → Int → Int → Int → Int → Int → Int → Int → Int → Option (Int × Int × Int × (List (S55)) × List Int × (List (S105)) × (List (S99)) × (List (S48)) × (List (S43)) × Int)
 | 0, _, _, _, _, _, _, _, _, _, _, _, _, _, _, _, _, _, _, _, _, _, _, _, _, _, _, _, _, _, _ => none
 | k + 1, x29, x250000, x250001, x250002, x250003, x250004, x250005, x250006, x250007, x250008, x250009, x251000, x251001, x251002, x251003, x251004, x251005, x251006, x251007, x251008, x252000, x252001, x252002, x252003, x252004, x252005, x252006, x252007, x252008, x252009 => if x29 = true then (some (0, 0, 0, ([] : List (S55)), ([] : List Int), ([] : List (S105)), ([] : List (S99)), ([] : List (S48)), ([] : List (S43)), 8)) else (if (x251003.length : Int) > 0 then (some (0, 0, 0, ([] : List (S55)), ([] : List Int), ([] : List (S105)), ([] : List (S99)), ([] : List (S48)), ([] : List (S43)), 18)) else (if 0 < (x251004.length : Int) then (if x252000 = 2 then (if x252004 ≤ (rd x251004 0) then ((task_Pend.f x251000 x251001 x251002 x251003 x251004 x251005 x251006 x251007 x251008 ([] : List (S55))).bind fun bt257 => (some (bt257.1, bt257.2.1, bt257.2.2.1, bt257.2.2.2.1, bt257.2.2.2.2.1, bt257.2.2.2.2.2.1, bt257.2.2.2.2.2.2.1, bt257.2.2.2.2.2.2.2.1, bt257.2.2.2.2.2.2.2.2.1, bt257.2.2.2.2.2.2.2.2.2))) else ((slices_Clone_int64_int64.f x251004).bind fun t279 => (if 0 < (t279.length : Int) then ((task_Pend.f x251000 x251001 x251002 x251003 (t279.set (0 : Int).toNat x252004) x251005 x251006 x251007 x251008 (([(⟨0, (⟨x252000, (⟨x252001, x252002, x252003⟩ : S43), x252004, (⟨x252005, (⟨x252006, x252007⟩ : S45), (⟨x252008, x252009⟩ : S46)⟩ : S48)⟩ : S50)⟩ : S55)] : List (S55)))).bind fun bt286 => (some (bt286.1, bt286.2.1, bt286.2.2.1, bt286.2.2.2.1, bt286.2.2.2.2.1, bt286.2.2.2.2.2.1, bt286.2.2.2.2.2.2.1, bt286.2.2.2.2.2.2.2.1, bt286.2.2.2.2.2.2.2.2.1, bt286.2.2.2.2.2.2.2.2.2))) else (none)))) else (if x252002 < (rd x251004 0) then (if x250009 = 2 then ((task_Pend.f x251000 x251001 x251002 x251003 x251004 x251005 x251006 x251007 x251008 (([(⟨1, (⟨4, (⟨x252001, x252002, x252003⟩ : S43), 0, (⟨0, (⟨0, 0⟩ : S45), (⟨0, 0⟩ : S46)⟩ : S48)⟩ : S50)⟩ : S55)] : List (S55)))).bind fun bt311 => (some (bt311.1, bt311.2.1, bt311.2.2.1, bt311.2.2.2.1, bt311.2.2.2.2.1, bt311.2.2.2.2.2.1, bt311.2.2.2.2.2.2.1, bt311.2.2.2.2.2.2.2.1, bt311.2.2.2.2.2.2.2.2.1, bt311.2.2.2.2.2.2.2.2.2))) else ((task_Pend.f x251000 x251001 x251002 x251003 x251004 x251005 x251006 x251007 x251008 ([] : List (S55))).bind fun bt333 => (some (bt333.1, bt333.2.1, bt333.2.2.1, bt333.2.2.2.1, bt333.2.2.2.2.1, bt333.2.2.2.2.2.1, bt333.2.2.2.2.2.2.1, bt333.2.2.2.2.2.2.2.1, bt333.2.2.2.2.2.2.2.2.1, bt333.2.2.2.2.2.2.2.2.2)))) else ((filter_Project.f x250000 x250001 x250002 x250003 x250004 x250005 x250006 x250007 x250008 x250009 x252001 x252002 x252003).bind fun bt355 => (if bt355.2.2.2.1 = true then ((task_Pend.f x251000 x251001 x251002 x251003 x251004 x251005 x251006 x251007 x251008 (([(⟨0, (⟨1, (⟨bt355.1, bt355.2.1, bt355.2.2.1⟩ : S43), 0, (⟨0, (⟨0, 0⟩ : S45), (⟨0, 0⟩ : S46)⟩ : S48)⟩ : S50)⟩ : S55)] : List (S55)))).bind fun bt364 => (some (bt364.1, bt364.2.1, bt364.2.2.1, bt364.2.2.2.1, bt364.2.2.2.2.1, bt364.2.2.2.2.2.1, bt364.2.2.2.2.2.2.1, bt364.2.2.2.2.2.2.2.1, bt364.2.2.2.2.2.2.2.2.1, bt364.2.2.2.2.2.2.2.2.2))) else ((task_Pend.f x251000 x251001 x251002 x251003 x251004 x251005 x251006 x251007 x251008 ([] : List (S55))).bind fun bt386 => (some (bt386.1, bt386.2.1, bt386.2.2.1, bt386.2.2.2.1, bt386.2.2.2.2.1, bt386.2.2.2.2.2.1, bt386.2.2.2.2.2.2.1, bt386.2.2.2.2.2.2.2.1, bt386.2.2.2.2.2.2.2.2.1, bt386.2.2.2.2.2.2.2.2.2))))))) else (none)))
def filter_Take.f (k : Nat) (a0_0 : Int) (l0_1 : List (S61)) (l0_2 : List Int) (a0_3 : Bool) (l0_4 : List (S61)) (a0_5 : Int) (a0_6 : Int) (a0_7 : Int) (a0_8 : Bool) (a0_9 : Int) (a1_0 : Int) (a1_1 : Int) (a1_2 : Int) (l1_3 : List (S55)) (l1_4 : List Int) (l1_5 : List (S105)) (l1_6 : List (S99)) (l1_7 : List (S48)) (l1_8 : List (S43)) (a2_0 : Int) (a2_1 : Int) (a2_2 : Int) (a2_3 : Int) (a2_4 : Int) (a2_5 : Int) (a2_6 : Int) (a2_7 : Int) (a2_8 : Int) (a2_9 : Int) : Option (Int × Int × Int × (List (S55)) × List Int × (List (S105)) × (List (S99)) × (List (S48)) × (List (S43)) × Int) := (filter_accepted.f a0_0 l0_1 l0_2 a0_3 l0_4 a0_5 a0_6 a0_7 a0_8 a0_9).bind fun t253 => (if t253 = true then ((task_Check.f a1_0 a1_1 a1_2 l1_3 l1_4 l1_5 l1_6 l1_7 l1_8).bind fun t254 => (if t254 = 0 then (if a1_0 = 2 then ((message_Check.f a2_0 a2_1 a2_2 a2_3 a2_4 a2_5 a2_6 a2_7 a2_8 a2_9).bind fun t255 => (if t255 = 0 then (if a2_0 = 1 then (filter_Take.j0 k false a0_0 l0_1 l0_2 a0_3 l0_4 a0_5 a0_6 a0_7 a0_8 a0_9 a1_0 a1_1 a1_2 l1_3 l1_4 l1_5 l1_6 l1_7 l1_8 a2_0 a2_1 a2_2 a2_3 a2_4 a2_5 a2_6 a2_7 a2_8 a2_9) else (filter_Take.j0 k (a2_0 != 2) a0_0 l0_1 l0_2 a0_3 l0_4 a0_5 a0_6 a0_7 a0_8 a0_9 a1_0 a1_1 a1_2 l1_3 l1_4 l1_5 l1_6 l1_7 l1_8 a2_0 a2_1 a2_2 a2_3 a2_4 a2_5 a2_6 a2_7 a2_8 a2_9)) else (filter_Take.j0 k true a0_0 l0_1 l0_2 a0_3 l0_4 a0_5 a0_6 a0_7 a0_8 a0_9 a1_0 a1_1 a1_2 l1_3 l1_4 l1_5 l1_6 l1_7 l1_8 a2_0 a2_1 a2_2 a2_3 a2_4 a2_5 a2_6 a2_7 a2_8 a2_9))) else (some (0, 0, 0, ([] : List (S55)), ([] : List Int), ([] : List (S105)), ([] : List (S99)), ([] : List (S48)), ([] : List (S43)), 2))) else (some (0, 0, 0, ([] : List (S55)), ([] : List Int), ([] : List (S105)), ([] : List (S99)), ([] : List (S48)), ([] : List (S43)), t254)))) else (some (0, 0, 0, ([] : List (S55)), ([] : List Int), ([] : List (S105)), ([] : List (S99)), ([] : List (S48)), ([] : List (S43)), 8)))
theorem filter_Take.mono_l : ∀ k, (∀ y0 y1 y2 y3 y4 y5 y6 y7 y8 y9 y10 y11 y12 y13 y14 y15 y16 y17 y18 y19 y20 y21 y22 y23 y24 y25 y26 y27 y28 y29, LeO (filter_Take.j0 k y0 y1 y2 y3 y4 y5 y6 y7 y8 y9 y10 y11 y12 y13 y14 y15 y16 y17 y18 y19 y20 y21 y22 y23 y24 y25 y26 y27 y28 y29) (filter_Take.j0 (k + 1) y0 y1 y2 y3 y4 y5 y6 y7 y8 y9 y10 y11 y12 y13 y14 y15 y16 y17 y18 y19 y20 y21 y22 y23 y24 y25 y26 y27 y28 y29))
 | 0 => fun _ _ _ _ _ _ _ _ _ _ _ _ _ _ _ _ _ _ _ _ _ _ _ _ _ _ _ _ _ _ r h => by simp [filter_Take.j0] at h
 | k + 1 => by
  have ih0 := filter_Take.mono_l k
  ·intro y0 y1 y2 y3 y4 y5 y6 y7 y8 y9 y10 y11 y12 y13 y14 y15 y16 y17 y18 y19 y20 y21 y22 y23 y24 y25 y26 y27 y28 y29
   unfold filter_Take.j0
   repeat' first
   | (with_reducible exact ih0 _ _ _ _ _ _ _ _ _ _ _ _ _ _ _ _ _ _ _ _ _ _ _ _ _ _ _ _ _ _)
   | (with_reducible exact LeO.refl _)
   | (with_reducible exact LeO.none _)
   | (with_reducible refine LeO.ite ?_ ?_)
   | (with_reducible refine LeO.bind ?_ (fun _ => ?_))
theorem filter_Take.mono : ∀ a0 a1 a2 a3 a4 a5 a6 a7 a8 a9 a10 a11 a12 a13 a14 a15 a16 a17 a18 a19 a20 a21 a22 a23 a24 a25 a26 a27 a28 k, LeO (filter_Take.f k a0 a1 a2 a3 a4 a5 a6 a7 a8 a9 a10 a11 a12 a13 a14 a15 a16 a17 a18 a19 a20 a21 a22 a23 a24 a25 a26 a27 a28) (filter_Take.f (k + 1) a0 a1 a2 a3 a4 a5 a6 a7 a8 a9 a10 a11 a12 a13 a14 a15 a16 a17 a18 a19 a20 a21 a22 a23 a24 a25 a26 a27 a28) := by
 intro a0 a1 a2 a3 a4 a5 a6 a7 a8 a9 a10 a11 a12 a13 a14 a15 a16 a17 a18 a19 a20 a21 a22 a23 a24 a25 a26 a27 a28 k
 have ih0 := filter_Take.mono_l k
 unfold filter_Take.f
 repeat' first
   | (with_reducible exact ih0 _ _ _ _ _ _ _ _ _ _ _ _ _ _ _ _ _ _ _ _ _ _ _ _ _ _ _ _ _ _)
   | (with_reducible exact LeO.refl _)
   | (with_reducible exact LeO.none _)
   | (with_reducible refine LeO.ite ?_ ?_)
   | (with_reducible refine LeO.bind ?_ (fun _ => ?_))
set_option maxHeartbeats 8000000 in
set_option maxRecDepth 100000 in
theorem filter_Take.calls (k : Nat) (a0_0 : Int) (A0_1 : Option Addr) (c0_1 : Nat) (l0_1 : List (S61)) (A0_2 : Option Addr) (c0_2 : Nat) (l0_2 : List Int) (a0_3 : Bool) (A0_4 : Option Addr) (c0_4 : Nat) (l0_4 : List (S61)) (a0_5 : Int) (a0_6 : Int) (a0_7 : Int) (a0_8 : Bool) (a0_9 : Int) (a1_0 : Int) (a1_1 : Int) (a1_2 : Int) (A1_3 : Option Addr) (c1_3 : Nat) (l1_3 : List (S55)) (A1_4 : Option Addr) (c1_4 : Nat) (l1_4 : List Int) (A1_5 : Option Addr) (c1_5 : Nat) (l1_5 : List (S105)) (A1_6 : Option Addr) (c1_6 : Nat) (l1_6 : List (S99)) (A1_7 : Option Addr) (c1_7 : Nat) (l1_7 : List (S48)) (A1_8 : Option Addr) (c1_8 : Nat) (l1_8 : List (S43)) (a2_0 : Int) (a2_1 : Int) (a2_2 : Int) (a2_3 : Int) (a2_4 : Int) (a2_5 : Int) (a2_6 : Int) (a2_7 : Int) (a2_8 : Int) (a2_9 : Int) (r1 : Int) (r2 : Int) (r3 : Int) (r4 : List (S55)) (r5 : List Int) (r6 : List (S105)) (r7 : List (S99)) (r8 : List (S48)) (r9 : List (S43)) (r10 : Int) (w : World) (hr0_1 : Kd.C k61 w A0_1 l0_1.length l0_1) (hc0_1 : l0_1.length ≤ c0_1) (hr0_2 : Kd.C (Kd.int .i64) w A0_2 l0_2.length l0_2) (hc0_2 : l0_2.length ≤ c0_2) (hr0_4 : Kd.C k61 w A0_4 l0_4.length l0_4) (hc0_4 : l0_4.length ≤ c0_4) (hr1_3 : Kd.C k55 w A1_3 l1_3.length l1_3) (hc1_3 : l1_3.length ≤ c1_3) (hr1_4 : Kd.C (Kd.int .i64) w A1_4 l1_4.length l1_4) (hc1_4 : l1_4.length ≤ c1_4) (hr1_5 : Kd.C k105 w A1_5 l1_5.length l1_5) (hc1_5 : l1_5.length ≤ c1_5) (hr1_6 : Kd.C k99 w A1_6 l1_6.length l1_6) (hc1_6 : l1_6.length ≤ c1_6) (hr1_7 : Kd.C k48 w A1_7 l1_7.length l1_7) (hc1_7 : l1_7.length ≤ c1_7) (hr1_8 : Kd.C k43 w A1_8 l1_8.length l1_8) (hc1_8 : l1_8.length ≤ c1_8) (h : filter_Take.f k a0_0 l0_1 l0_2 a0_3 l0_4 a0_5 a0_6 a0_7 a0_8 a0_9 a1_0 a1_1 a1_2 l1_3 l1_4 l1_5 l1_6 l1_7 l1_8 a2_0 a2_1 a2_2 a2_3 a2_4 a2_5 a2_6 a2_7 a2_8 a2_9 = some (r1, r2, r3, r4, r5, r6, r7, r8, r9, r10)) (hrt : r10 = 0) :
  Calls Try.prog 9 #[.agg #[.int .u8 a0_0, .slice A0_1 l0_1.length c0_1, .slice A0_2 l0_2.length c0_2, .bool a0_3, .slice A0_4 l0_4.length c0_4, .int .u8 a0_5, .int .i64 a0_6, .int .i64 a0_7, .bool a0_8, .int .u8 a0_9], .agg #[.int .u8 a1_0, .int .i64 a1_1, .int .i64 a1_2, .slice A1_3 l1_3.length c1_3, .slice A1_4 l1_4.length c1_4, .slice A1_5 l1_5.length c1_5, .slice A1_6 l1_6.length c1_6, .slice A1_7 l1_7.length c1_7, .slice A1_8 l1_8.length c1_8], .agg #[.int .u8 a2_0, .int .i64 a2_1, .int .i64 a2_2, .int .i64 a2_3, .int .i64 a2_4, .int .i64 a2_5, .int .i64 a2_6, .int .i64 a2_7, .int .i64 a2_8, .int .i64 a2_9]] w fun e w' => ∃ v3_ v4_ v5_ v6_ v7_ v8_ : Value, e = .returned (.tuple #[.agg #[.int .u8 r1, .int .i64 r2, .int .i64 r3, v3_, v4_, v5_, v6_, v7_, v8_], .int .i64 r10]) ∧ Kd.R k55 55 w' w.heap.size (fun _ => True) v3_ r4 ∧ Kd.R (Kd.int .i64) 2 w' w.heap.size (fun _ => True) v4_ r5 ∧ Kd.R k105 105 w' w.heap.size (fun _ => True) v5_ r6 ∧ Kd.R k99 99 w' w.heap.size (fun _ => True) v6_ r7 ∧ Kd.R k48 48 w' w.heap.size (fun _ => True) v7_ r8 ∧ Kd.R k43 43 w' w.heap.size (fun _ => True) v8_ r9 ∧ Below w.heap.size w w' := by
 have HRT := am hrt
 clear hrt
 have hu41 := Try.underlying41
 have hu31 := Try.underlying31
 have hu50 := Try.underlying50
 have hu55 := Try.underlying55
 have hu43 := Try.underlying43
 have HR0_1 := am hr0_1
 have HC0_1 := am hc0_1
 clear hr0_1 hc0_1
 have HR0_2 := am hr0_2
 have HC0_2 := am hc0_2
 clear hr0_2 hc0_2
 have HR0_4 := am hr0_4
 have HC0_4 := am hc0_4
 clear hr0_4 hc0_4
 have HR1_3 := am hr1_3
 have HC1_3 := am hc1_3
 clear hr1_3 hc1_3
 have HR1_4 := am hr1_4
 have HC1_4 := am hc1_4
 clear hr1_4 hc1_4
 have HR1_5 := am hr1_5
 have HC1_5 := am hc1_5
 clear hr1_5 hc1_5
 have HR1_6 := am hr1_6
 have HC1_6 := am hc1_6
 clear hr1_6 hc1_6
 have HR1_7 := am hr1_7
 have HC1_7 := am hc1_7
 clear hr1_7 hc1_7
 have HR1_8 := am hr1_8
 have HC1_8 := am hc1_8
 clear hr1_8 hc1_8
 have HB := am (Below.refl w.heap.size w)
 have H : ((filter_accepted.f a0_0 l0_1 l0_2 a0_3 l0_4 a0_5 a0_6 a0_7 a0_8 a0_9).bind fun t253 => (if t253 = true then ((task_Check.f a1_0 a1_1 a1_2 l1_3 l1_4 l1_5 l1_6 l1_7 l1_8).bind fun t254 => (if t254 = 0 then (if a1_0 = 2 then ((message_Check.f a2_0 a2_1 a2_2 a2_3 a2_4 a2_5 a2_6 a2_7 a2_8 a2_9).bind fun t255 => (if t255 = 0 then (if a2_0 = 1 then (filter_Take.j0 k false a0_0 l0_1 l0_2 a0_3 l0_4 a0_5 a0_6 a0_7 a0_8 a0_9 a1_0 a1_1 a1_2 l1_3 l1_4 l1_5 l1_6 l1_7 l1_8 a2_0 a2_1 a2_2 a2_3 a2_4 a2_5 a2_6 a2_7 a2_8 a2_9) else (filter_Take.j0 k (a2_0 != 2) a0_0 l0_1 l0_2 a0_3 l0_4 a0_5 a0_6 a0_7 a0_8 a0_9 a1_0 a1_1 a1_2 l1_3 l1_4 l1_5 l1_6 l1_7 l1_8 a2_0 a2_1 a2_2 a2_3 a2_4 a2_5 a2_6 a2_7 a2_8 a2_9)) else (filter_Take.j0 k true a0_0 l0_1 l0_2 a0_3 l0_4 a0_5 a0_6 a0_7 a0_8 a0_9 a1_0 a1_1 a1_2 l1_3 l1_4 l1_5 l1_6 l1_7 l1_8 a2_0 a2_1 a2_2 a2_3 a2_4 a2_5 a2_6 a2_7 a2_8 a2_9))) else (some (0, 0, 0, ([] : List (S55)), ([] : List Int), ([] : List (S105)), ([] : List (S99)), ([] : List (S48)), ([] : List (S43)), 2))) else (some (0, 0, 0, ([] : List (S55)), ([] : List Int), ([] : List (S105)), ([] : List (S99)), ([] : List (S48)), ([] : List (S43)), t254)))) else (some (0, 0, 0, ([] : List (S55)), ([] : List Int), ([] : List (S105)), ([] : List (S99)), ([] : List (S48)), ([] : List (S43)), 8)))) = some (r1, r2, r3, r4, r5, r6, r7, r8, r9, r10) := h
 clear h
 replace H := Option.bind_eq_some_iff.mp H
 obtain ⟨t253, A40, H⟩ := H
 try dsimp only at H
 have A4 := am A40
 clear A40
 by_cases c5 : t253 = true
 ·subst c5
  rw [if_pos rfl] at H
  replace H := Option.bind_eq_some_iff.mp H
  obtain ⟨t254, A60, H⟩ := H
  try dsimp only at H
  have A6 := am A60
  clear A60
  by_cases c7 : t254 = 0
  ·rw [if_pos c7] at H
   have c7b0 : (t254 == 0) = true := beq_iff_eq.mpr c7
   have c7b1 : (t254 != 0) = false := bne_eq_false_iff_eq.mpr c7
   clear c7
   by_cases c8 : a1_0 = 2
   ·rw [if_pos c8] at H
    have c8b0 : (a1_0 == 2) = true := beq_iff_eq.mpr c8
    have c8b1 : (a1_0 != 2) = false := bne_eq_false_iff_eq.mpr c8
    clear c8
    have HC9 := am H
    clear H
    go_enter Try.func9, Try.ntmps9
    go_upto_region 8 with (first | ((with_reducible refine gate_dst (N := 3) rfl ?_); refine box_event ?hg (N := 3) ?hd (cs := #[.int .u8 a0_0, .slice A0_1 l0_1.length c0_1, .slice A0_2 l0_2.length c0_2, .bool a0_3, .slice A0_4 l0_4.length c0_4, .int .u8 a0_5, .int .i64 a0_6, .int .i64 a0_7, .bool a0_8, .int .u8 a0_9]) (t := 41) ?hr ?_; (case hd => rfl); (case hg => rfl); (case hr => go_simp <;> rfl); intro gb249 hg w10 hbox hb; have BK249 := am (hbox); have GE249 := am ((by rw [hg]; exact (below_size (by exact belL HB.out)) : w.heap.size ≤ gb249)); replace HB := am (below_step (by exact belL HB.out) hb); clear hb hbox hg) | ((with_reducible refine gate_dst (N := 4) rfl ?_); refine box_event ?hg (N := 4) ?hd (cs := #[.int .u8 a1_0, .int .i64 a1_1, .int .i64 a1_2, .slice A1_3 l1_3.length c1_3, .slice A1_4 l1_4.length c1_4, .slice A1_5 l1_5.length c1_5, .slice A1_6 l1_6.length c1_6, .slice A1_7 l1_7.length c1_7, .slice A1_8 l1_8.length c1_8]) (t := 31) ?hr ?_; (case hd => rfl); (case hg => rfl); (case hr => go_simp <;> rfl); intro gb250 hg w11 hbox hb; have BK250 := am (hbox); have GE250 := am ((by rw [hg]; exact (below_size (by repeat (with_reducible first | exact HB.out | refine belS ?_ | refine below_set ?_ GE249.out))) : w.heap.size ≤ gb250)); have NB249_250 := am (blkN BK249.out hg); have NB250_249 := am (blkN BK249.out hg).symm; replace BK249 := am (blkB BK249.out hb); replace HB := am (below_step (by repeat (with_reducible first | exact HB.out | refine belS ?_ | refine below_set ?_ GE249.out)) hb); clear hb hbox hg) | ((with_reducible refine gate_dst (N := 5) rfl ?_); refine box_event ?hg (N := 5) ?hd (cs := #[.int .u8 a2_0, .int .i64 a2_1, .int .i64 a2_2, .int .i64 a2_3, .int .i64 a2_4, .int .i64 a2_5, .int .i64 a2_6, .int .i64 a2_7, .int .i64 a2_8, .int .i64 a2_9]) (t := 50) ?hr ?_; (case hd => rfl); (case hg => rfl); (case hr => go_simp <;> rfl); intro gb251 hg w12 hbox hb; have BK251 := am (hbox); have GE251 := am ((by rw [hg]; exact (below_size (by repeat (with_reducible first | exact HB.out | refine belS ?_ | refine below_set ?_ GE249.out | refine below_set ?_ GE250.out))) : w.heap.size ≤ gb251)); have NB249_251 := am (blkN BK249.out hg); have NB251_249 := am (blkN BK249.out hg).symm; have NB250_251 := am (blkN BK250.out hg); have NB251_250 := am (blkN BK250.out hg).symm; replace BK249 := am (blkB BK249.out hb); replace BK250 := am (blkB BK250.out hb); replace HB := am (below_step (by repeat (with_reducible first | exact HB.out | refine belS ?_ | refine below_set ?_ GE249.out | refine below_set ?_ GE250.out)) hb); clear hb hbox hg) | ((with_reducible refine gate_dst (N := 6) rfl ?_); refine box_event ?hg (N := 6) ?hd (cs := #[.int .u8 0, .int .i64 0, .int .i64 0, .slice none 0 0, .slice none 0 0, .slice none 0 0, .slice none 0 0, .slice none 0 0, .slice none 0 0]) (t := 31) ?hr ?_; (case hd => rfl); (case hg => rfl); (case hr => go_simp <;> rfl); intro gb252 hg w13 hbox hb; have BK252 := am (hbox); have GE252 := am ((by rw [hg]; exact (below_size (by repeat (with_reducible first | exact HB.out | refine belS ?_ | refine below_set ?_ GE249.out | refine below_set ?_ GE250.out | refine below_set ?_ GE251.out))) : w.heap.size ≤ gb252)); have NB249_252 := am (blkN BK249.out hg); have NB252_249 := am (blkN BK249.out hg).symm; have NB250_252 := am (blkN BK250.out hg); have NB252_250 := am (blkN BK250.out hg).symm; have NB251_252 := am (blkN BK251.out hg); have NB252_251 := am (blkN BK251.out hg).symm; replace BK249 := am (blkB BK249.out hb); replace BK250 := am (blkB BK250.out hb); replace BK251 := am (blkB BK251.out hb); replace HB := am (below_step (by repeat (with_reducible first | exact HB.out | refine belS ?_ | refine below_set ?_ GE249.out | refine below_set ?_ GE250.out | refine below_set ?_ GE251.out)) hb); clear hb hbox hg; have hnb14 := NB249_250.out; have hnc14 := NB250_249.out; have hnb15 := NB249_251.out; have hnc15 := NB251_249.out; have hnb16 := NB249_252.out; have hnc16 := NB252_249.out; obtain ⟨z17_0, z17_1, z17_2, z17_3, z17_4, z17_5, z17_6, z17_7, z17_8, z17_9, y17_0, y17_1, y17_2, y17_3, y17_4, y17_5, y17_6, y17_7, y17_8, y17_9⟩ := box10 BK249.out) | ((with_reducible refine gate_callee (f := 26) rfl ?_); refine goesL_ (some 14) rfl rfl Try.func26 (by kernel_rfl) rfl #[.agg #[.int .u8 a0_0, .slice A0_1 l0_1.length c0_1, .slice A0_2 l0_2.length c0_2, .bool a0_3, .slice A0_4 l0_4.length c0_4, .int .u8 a0_5, .int .i64 a0_6, .int .i64 a0_7, .bool a0_8, .int .u8 a0_9]] rfl (by (try simp only [List.map_toArray, List.map_cons, List.map_nil]) <;> rfl) ?_; (with_reducible refine (filter_accepted.calls a0_0 _ _ l0_1 _ _ l0_2 a0_3 _ _ l0_4 a0_5 a0_6 a0_7 a0_8 a0_9 true _ ?side1 ?side2 ?side3 ?side4 ?side5 ?side6 A4.out).mono ?_); (case side1 => exact CB HR0_1.out HB.out); (case side2 => exact HC0_1.out); (case side3 => exact CB HR0_2.out HB.out); (case side4 => exact HC0_2.out); (case side5 => exact CB HR0_4.out HB.out); (case side6 => exact HC0_4.out); rintro e w18 ⟨rfl, hb⟩; refine ⟨_, rfl, ?_⟩; replace BK249 := am (blkB BK249.out hb); replace BK250 := am (blkB BK250.out hb); replace BK251 := am (blkB BK251.out hb); replace BK252 := am (blkB BK252.out hb); replace HB := am (below_step (by repeat (with_reducible first | exact HB.out | refine belS ?_ | refine below_set ?_ GE249.out | refine below_set ?_ GE250.out | refine below_set ?_ GE251.out | refine below_set ?_ GE252.out)) hb); (try clear hb); (try clear hk); have hnb19 := NB250_251.out; have hnc19 := NB251_250.out; have hnb20 := NB250_252.out; have hnc20 := NB252_250.out; obtain ⟨z21_0, z21_1, z21_2, z21_3, z21_4, z21_5, z21_6, z21_7, z21_8, y21_0, y21_1, y21_2, y21_3, y21_4, y21_5, y21_6, y21_7, y21_8⟩ := box9 BK250.out) | ((with_reducible refine gate_callee (f := 27) rfl ?_); refine goesL_ (some 18) rfl rfl Try.func27 (by kernel_rfl) rfl #[.agg #[.int .u8 a1_0, .int .i64 a1_1, .int .i64 a1_2, .slice A1_3 l1_3.length c1_3, .slice A1_4 l1_4.length c1_4, .slice A1_5 l1_5.length c1_5, .slice A1_6 l1_6.length c1_6, .slice A1_7 l1_7.length c1_7, .slice A1_8 l1_8.length c1_8]] rfl (by (try simp only [List.map_toArray, List.map_cons, List.map_nil]) <;> rfl) ?_; (with_reducible refine (task_Check.calls a1_0 a1_1 a1_2 _ _ l1_3 _ _ l1_4 _ _ l1_5 _ _ l1_6 _ _ l1_7 _ _ l1_8 t254 _ ?side1 ?side2 ?side3 ?side4 ?side5 ?side6 ?side7 ?side8 ?side9 ?side10 ?side11 ?side12 A6.out (by first | rfl | exact HRT.out | assumption | exact eq_of_beq (by assumption))).mono ?_); (case side1 => exact CB HR1_3.out HB.out); (case side2 => exact HC1_3.out); (case side3 => exact CB HR1_4.out HB.out); (case side4 => exact HC1_4.out); (case side5 => exact CB HR1_5.out HB.out); (case side6 => exact HC1_5.out); (case side7 => exact CB HR1_6.out HB.out); (case side8 => exact HC1_6.out); (case side9 => exact CB HR1_7.out HB.out); (case side10 => exact HC1_7.out); (case side11 => exact CB HR1_8.out HB.out); (case side12 => exact HC1_8.out); rintro e w22 ⟨rfl, hb⟩; refine ⟨_, rfl, ?_⟩; replace BK249 := am (blkB BK249.out hb); replace BK250 := am (blkB BK250.out hb); replace BK251 := am (blkB BK251.out hb); replace BK252 := am (blkB BK252.out hb); replace HB := am (below_step (by repeat (with_reducible first | exact HB.out | refine belS ?_ | refine below_set ?_ GE249.out | refine below_set ?_ GE250.out | refine below_set ?_ GE251.out | refine below_set ?_ GE252.out)) hb); (try clear hb); (try clear hk); obtain ⟨z23_0, z23_1, z23_2, z23_3, z23_4, z23_5, z23_6, z23_7, z23_8, y23_0, y23_1, y23_2, y23_3, y23_4, y23_5, y23_6, y23_7, y23_8⟩ := box9 BK250.out))
    (try simp only [Act.put, List.setIfInBounds_toArray, List.set_cons_zero, List.set_cons_succ])
    go_cut [29] (fun v29 wc => ∃ (kq : Nat) (x29_8 : Bool), v29 = .bool x29_8 ∧ Aside0 (filter_Take.j0 kq x29_8 a0_0 l0_1 l0_2 a0_3 l0_4 a0_5 a0_6 a0_7 a0_8 a0_9 a1_0 a1_1 a1_2 l1_3 l1_4 l1_5 l1_6 l1_7 l1_8 a2_0 a2_1 a2_2 a2_3 a2_4 a2_5 a2_6 a2_7 a2_8 a2_9 = some (r1, r2, r3, r4, r5, r6, r7, r8, r9, r10)) ∧ Aside0 (kq ≤ k) ∧ Aside0 (wc.heap[gb249]? = some (.cells #[.int .u8 a0_0, (.slice A0_1 l0_1.length c0_1), (.slice A0_2 l0_2.length c0_2), .bool a0_3, (.slice A0_4 l0_4.length c0_4), .int .u8 a0_5, .int .i64 a0_6, .int .i64 a0_7, .bool a0_8, .int .u8 a0_9] 41 (0, 0))) ∧ Aside0 (wc.heap[gb250]? = some (.cells #[.int .u8 a1_0, .int .i64 a1_1, .int .i64 a1_2, (.slice A1_3 l1_3.length c1_3), (.slice A1_4 l1_4.length c1_4), (.slice A1_5 l1_5.length c1_5), (.slice A1_6 l1_6.length c1_6), (.slice A1_7 l1_7.length c1_7), (.slice A1_8 l1_8.length c1_8)] 31 (0, 0))) ∧ Aside0 (wc.heap[gb251]? = some (.cells #[.int .u8 a2_0, .int .i64 a2_1, .int .i64 a2_2, .int .i64 a2_3, .int .i64 a2_4, .int .i64 a2_5, .int .i64 a2_6, .int .i64 a2_7, .int .i64 a2_8, .int .i64 a2_9] 50 (0, 0))) ∧ Aside0 (wc.heap[gb252]? = some (.cells #[.int .u8 0, .int .i64 0, .int .i64 0, (.slice none 0 0), (.slice none 0 0), (.slice none 0 0), (.slice none 0 0), (.slice none 0 0), (.slice none 0 0)] 31 (0, 0))) ∧ Aside0 (Below w.heap.size w wc))
    case first =>
     have H := HC9.out
     clear HC9
     replace H := Option.bind_eq_some_iff.mp H
     obtain ⟨t255, A240, H⟩ := H
     try dsimp only at H
     have A24 := am A240
     clear A240
     by_cases c25 : t255 = 0
     ·rw [if_pos c25] at H
      have c25b0 : (t255 == 0) = true := beq_iff_eq.mpr c25
      have c25b1 : (t255 != 0) = false := bne_eq_false_iff_eq.mpr c25
      clear c25
      (first | rw [c25b0] | (simp only [i64_w, i32_w]; rw [c25b0]) | skip)
      by_cases c26 : a2_0 = 1
      ·rw [if_pos c26] at H
       have c26b0 : (a2_0 == 1) = true := beq_iff_eq.mpr c26
       have c26b1 : (a2_0 != 1) = false := bne_eq_false_iff_eq.mpr c26
       clear c26
       have H' := am H
       clear H
       have hnb27 := NB251_249.out
       have hnc27 := NB249_251.out
       have hnb28 := NB251_250.out
       have hnc28 := NB250_251.out
       have hnb29 := NB251_252.out
       have hnc29 := NB252_251.out
       obtain ⟨z30_0, z30_1, z30_2, z30_3, z30_4, z30_5, z30_6, z30_7, z30_8, z30_9, y30_0, y30_1, y30_2, y30_3, y30_4, y30_5, y30_6, y30_7, y30_8, y30_9⟩ := box10 BK251.out
       go_wp2_with (first | ((with_reducible refine gate_callee (f := 28) rfl ?_); refine goesL_ (some 31) rfl rfl Try.func28 (by kernel_rfl) rfl #[.agg #[.int .u8 a2_0, .int .i64 a2_1, .int .i64 a2_2, .int .i64 a2_3, .int .i64 a2_4, .int .i64 a2_5, .int .i64 a2_6, .int .i64 a2_7, .int .i64 a2_8, .int .i64 a2_9]] rfl (by (try simp only [List.map_toArray, List.map_cons, List.map_nil]) <;> rfl) ?_; (with_reducible refine (message_Check.calls a2_0 a2_1 a2_2 a2_3 a2_4 a2_5 a2_6 a2_7 a2_8 a2_9 t255 _ A24.out).mono ?_); rintro e w31 ⟨rfl, hb⟩; refine ⟨_, rfl, ?_⟩; replace BK249 := am (blkB BK249.out hb); replace BK250 := am (blkB BK250.out hb); replace BK251 := am (blkB BK251.out hb); replace BK252 := am (blkB BK252.out hb); replace HB := am (below_step (by repeat (with_reducible first | exact HB.out | refine belS ?_ | refine below_set ?_ GE249.out | refine below_set ?_ GE250.out | refine below_set ?_ GE251.out | refine below_set ?_ GE252.out)) hb); (try clear hb); (try clear hk); obtain ⟨z32_0, z32_1, z32_2, z32_3, z32_4, z32_5, z32_6, z32_7, z32_8, z32_9, y32_0, y32_1, y32_2, y32_3, y32_4, y32_5, y32_6, y32_7, y32_8, y32_9⟩ := box10 BK251.out))
       go_meet
       case rel => exact ⟨_, (false), (by first | rfl | (simp; done) | (simp [*]; done)), H', ⟨by first | omega | exact Nat.le_refl _⟩, ⟨by (repeat refine blkS ?_); exact BK249.out⟩, ⟨by (repeat refine blkS ?_); exact BK250.out⟩, ⟨by (repeat refine blkS ?_); exact BK251.out⟩, ⟨by (repeat refine blkS ?_); exact BK252.out⟩, ⟨by repeat (with_reducible first | exact HB.out | refine belS ?_ | refine below_set ?_ GE249.out | refine below_set ?_ GE250.out | refine below_set ?_ GE251.out | refine below_set ?_ GE252.out)⟩⟩
      ·rw [if_neg c26] at H
       have c26b0 : (a2_0 == 1) = false := beq_eq_false_iff_ne.mpr c26
       have c26b1 : (a2_0 != 1) = true := bne_iff_ne.mpr c26
       have H' := am H
       clear H
       have hnb33 := NB251_249.out
       have hnc33 := NB249_251.out
       have hnb34 := NB251_250.out
       have hnc34 := NB250_251.out
       have hnb35 := NB251_252.out
       have hnc35 := NB252_251.out
       obtain ⟨z36_0, z36_1, z36_2, z36_3, z36_4, z36_5, z36_6, z36_7, z36_8, z36_9, y36_0, y36_1, y36_2, y36_3, y36_4, y36_5, y36_6, y36_7, y36_8, y36_9⟩ := box10 BK251.out
       go_wp2_with (first | ((with_reducible refine gate_callee (f := 28) rfl ?_); refine goesL_ (some 31) rfl rfl Try.func28 (by kernel_rfl) rfl #[.agg #[.int .u8 a2_0, .int .i64 a2_1, .int .i64 a2_2, .int .i64 a2_3, .int .i64 a2_4, .int .i64 a2_5, .int .i64 a2_6, .int .i64 a2_7, .int .i64 a2_8, .int .i64 a2_9]] rfl (by (try simp only [List.map_toArray, List.map_cons, List.map_nil]) <;> rfl) ?_; (with_reducible refine (message_Check.calls a2_0 a2_1 a2_2 a2_3 a2_4 a2_5 a2_6 a2_7 a2_8 a2_9 t255 _ A24.out).mono ?_); rintro e w37 ⟨rfl, hb⟩; refine ⟨_, rfl, ?_⟩; replace BK249 := am (blkB BK249.out hb); replace BK250 := am (blkB BK250.out hb); replace BK251 := am (blkB BK251.out hb); replace BK252 := am (blkB BK252.out hb); replace HB := am (below_step (by repeat (with_reducible first | exact HB.out | refine belS ?_ | refine below_set ?_ GE249.out | refine below_set ?_ GE250.out | refine below_set ?_ GE251.out | refine below_set ?_ GE252.out)) hb); (try clear hb); (try clear hk); obtain ⟨z38_0, z38_1, z38_2, z38_3, z38_4, z38_5, z38_6, z38_7, z38_8, z38_9, y38_0, y38_1, y38_2, y38_3, y38_4, y38_5, y38_6, y38_7, y38_8, y38_9⟩ := box10 BK251.out))
       go_meet
       case rel => exact ⟨_, ((a2_0 != 2)), (by first | rfl | (simp; done) | (simp [*]; done)), H', ⟨by first | omega | exact Nat.le_refl _⟩, ⟨by (repeat refine blkS ?_); exact BK249.out⟩, ⟨by (repeat refine blkS ?_); exact BK250.out⟩, ⟨by (repeat refine blkS ?_); exact BK251.out⟩, ⟨by (repeat refine blkS ?_); exact BK252.out⟩, ⟨by repeat (with_reducible first | exact HB.out | refine belS ?_ | refine below_set ?_ GE249.out | refine below_set ?_ GE250.out | refine below_set ?_ GE251.out | refine below_set ?_ GE252.out)⟩⟩
     ·rw [if_neg c25] at H
      have c25b0 : (t255 == 0) = false := beq_eq_false_iff_ne.mpr c25
      have c25b1 : (t255 != 0) = true := bne_iff_ne.mpr c25
      (first | rw [c25b0] | (simp only [i64_w, i32_w]; rw [c25b0]) | skip)
      have H' := am H
      clear H
      have hnb39 := NB251_249.out
      have hnc39 := NB249_251.out
      have hnb40 := NB251_250.out
      have hnc40 := NB250_251.out
      have hnb41 := NB251_252.out
      have hnc41 := NB252_251.out
      obtain ⟨z42_0, z42_1, z42_2, z42_3, z42_4, z42_5, z42_6, z42_7, z42_8, z42_9, y42_0, y42_1, y42_2, y42_3, y42_4, y42_5, y42_6, y42_7, y42_8, y42_9⟩ := box10 BK251.out
      go_wp2_with (first | ((with_reducible refine gate_callee (f := 28) rfl ?_); refine goesL_ (some 31) rfl rfl Try.func28 (by kernel_rfl) rfl #[.agg #[.int .u8 a2_0, .int .i64 a2_1, .int .i64 a2_2, .int .i64 a2_3, .int .i64 a2_4, .int .i64 a2_5, .int .i64 a2_6, .int .i64 a2_7, .int .i64 a2_8, .int .i64 a2_9]] rfl (by (try simp only [List.map_toArray, List.map_cons, List.map_nil]) <;> rfl) ?_; (with_reducible refine (message_Check.calls a2_0 a2_1 a2_2 a2_3 a2_4 a2_5 a2_6 a2_7 a2_8 a2_9 t255 _ A24.out).mono ?_); rintro e w43 ⟨rfl, hb⟩; refine ⟨_, rfl, ?_⟩; replace BK249 := am (blkB BK249.out hb); replace BK250 := am (blkB BK250.out hb); replace BK251 := am (blkB BK251.out hb); replace BK252 := am (blkB BK252.out hb); replace HB := am (below_step (by repeat (with_reducible first | exact HB.out | refine belS ?_ | refine below_set ?_ GE249.out | refine below_set ?_ GE250.out | refine below_set ?_ GE251.out | refine below_set ?_ GE252.out)) hb); (try clear hb); (try clear hk)))
      go_meet
      case rel => exact ⟨_, (true), (by first | rfl | (simp; done) | (simp [*]; done)), H', ⟨by first | omega | exact Nat.le_refl _⟩, ⟨by (repeat refine blkS ?_); exact BK249.out⟩, ⟨by (repeat refine blkS ?_); exact BK250.out⟩, ⟨by (repeat refine blkS ?_); exact BK251.out⟩, ⟨by (repeat refine blkS ?_); exact BK252.out⟩, ⟨by repeat (with_reducible first | exact HB.out | refine belS ?_ | refine below_set ?_ GE249.out | refine below_set ?_ GE250.out | refine below_set ?_ GE251.out | refine below_set ?_ GE252.out)⟩⟩
    case rest =>
     clear HC9
     try clear c1
     try clear c2
     try clear p2
     try clear c3
     try clear c4
     try clear c5
     try clear c7
     try clear c7b0
     try clear c7b1
     try clear c8
     try clear c8b0
     try clear c8b1
     try clear c9
     try clear c14
     try clear c15
     try clear c16
     try clear c19
     try clear c20
     try clear c25
     try clear c25b0
     try clear c25b1
     try clear c26
     try clear c26b0
     try clear c26b1
     try clear c27
     try clear c28
     try clear c29
     try clear c33
     try clear c34
     try clear c35
     try clear c39
     try clear c40
     try clear c41
     try clear z17_0 z17_1 z17_2 z17_3 z17_4 z17_5 z17_6 z17_7 z17_8 z17_9 y17_0 y17_1 y17_2 y17_3 y17_4 y17_5 y17_6 y17_7 y17_8 y17_9
     try clear z21_0 z21_1 z21_2 z21_3 z21_4 z21_5 z21_6 z21_7 z21_8 y21_0 y21_1 y21_2 y21_3 y21_4 y21_5 y21_6 y21_7 y21_8
     try clear z23_0 z23_1 z23_2 z23_3 z23_4 z23_5 z23_6 z23_7 z23_8 y23_0 y23_1 y23_2 y23_3 y23_4 y23_5 y23_6 y23_7 y23_8
     try clear z30_0 z30_1 z30_2 z30_3 z30_4 z30_5 z30_6 z30_7 z30_8 z30_9 y30_0 y30_1 y30_2 y30_3 y30_4 y30_5 y30_6 y30_7 y30_8 y30_9
     try clear z32_0 z32_1 z32_2 z32_3 z32_4 z32_5 z32_6 z32_7 z32_8 z32_9 y32_0 y32_1 y32_2 y32_3 y32_4 y32_5 y32_6 y32_7 y32_8 y32_9
     try clear z36_0 z36_1 z36_2 z36_3 z36_4 z36_5 z36_6 z36_7 z36_8 z36_9 y36_0 y36_1 y36_2 y36_3 y36_4 y36_5 y36_6 y36_7 y36_8 y36_9
     try clear z38_0 z38_1 z38_2 z38_3 z38_4 z38_5 z38_6 z38_7 z38_8 z38_9 y38_0 y38_1 y38_2 y38_3 y38_4 y38_5 y38_6 y38_7 y38_8 y38_9
     try clear z42_0 z42_1 z42_2 z42_3 z42_4 z42_5 z42_6 z42_7 z42_8 z42_9 y42_0 y42_1 y42_2 y42_3 y42_4 y42_5 y42_6 y42_7 y42_8 y42_9
     obtain ⟨kq, x29_8, rfl, HA, HJ8, BK249, BK250, BK251, BK252, HB⟩ := hcut
     cases kq with
     | zero => exact absurd HA.out (by simp [filter_Take.j0])
     | succ kj8 =>
      have H := HA.out
      clear HA
      simp only [filter_Take.j0] at H
      by_cases c44 : x29_8 = true
      ·subst c44
       rw [if_pos rfl] at H
       simp only [Option.some.injEq, Prod.mk.injEq] at H
       obtain ⟨-, -, -, -, -, -, -, -, -, H⟩ := H
       have hrt := HRT.out
       rw [← H] at hrt
       first | exact absurd hrt (by decide) | exact absurd hrt (by assumption)
      ·replace c44 := Bool.eq_false_iff.mpr c44
       subst c44
       rw [if_neg (show ¬ (false = true) by decide)] at H
       by_cases c45 : (l1_3.length : Int) > 0
       ·rw [if_pos c45] at H
        have c45b0 : decide (0 < (l1_3.length : Int)) = true := decide_eq_true c45
        have c45b1 : decide (0 < l1_3.length) = true := decide_eq_true (by omega)
        clear c45
        simp only [Option.some.injEq, Prod.mk.injEq] at H
        obtain ⟨-, -, -, -, -, -, -, -, -, H⟩ := H
        have hrt := HRT.out
        rw [← H] at hrt
        first | exact absurd hrt (by decide) | exact absurd hrt (by assumption)
       ·rw [if_neg c45] at H
        have c45b0 : decide (0 < (l1_3.length : Int)) = false := decide_eq_false c45
        have c45b1 : decide (0 < l1_3.length) = false := decide_eq_false (by omega)
        clear c45
        by_cases c46 : 0 < (l1_4.length : Int)
        ·rw [if_pos c46] at H
         have c46b0 : decide (0 < (l1_4.length : Int)) = true := decide_eq_true c46
         have c46b1 : decide (0 < l1_4.length) = true := decide_eq_true (by omega)
         clear c46
         by_cases c47 : a2_0 = 2
         ·rw [if_pos c47] at H
          have c47b0 : (a2_0 == 2) = true := beq_iff_eq.mpr c47
          have c47b1 : (a2_0 != 2) = false := bne_eq_false_iff_eq.mpr c47
          clear c47
          by_cases c48 : a2_4 ≤ (rd l1_4 0)
          ·rw [if_pos c48] at H
           have c48b0 : decide (a2_4 ≤ (rd l1_4 0)) = true := decide_eq_true c48
           clear c48
           replace H := Option.bind_eq_some_iff.mp H
           obtain ⟨⟨t257, t258, t259, t260, t263, t266, t269, t272, t275, t278⟩, A490, H⟩ := H
           try dsimp only at H
           have A49 := am A490
           clear A490
           simp only [Option.some.injEq, Prod.mk.injEq] at H
           obtain ⟨rfl, rfl, rfl, rfl, rfl, rfl, rfl, rfl, rfl, rfl⟩ := H
           have hnb50 := NB250_251.out
           have hnc50 := NB251_250.out
           have hnb51 := NB250_252.out
           have hnc51 := NB252_250.out
           obtain ⟨z52_0, z52_1, z52_2, z52_3, z52_4, z52_5, z52_6, z52_7, z52_8, y52_0, y52_1, y52_2, y52_3, y52_4, y52_5, y52_6, y52_7, y52_8⟩ := box9 BK250.out
           have p256 : 0 ≤ (0 : Int) := (by omega)
           have q256 : 0 < (l1_4.length : Int) := of_decide_eq_true (by first | (with_reducible assumption) | assumption)
           obtain ⟨ad256, e256, hx256_0⟩ := Kd.at_int HR1_4.out 0 p256 q256
           cases e256
           have qi256 : (0 < l1_4.length) = True := eq_true (by omega)
           (try rw [show ((0 : Int)).toNat = 0 from rfl] at hx256_0)
           (try rw [Addr.add_zero'] at hx256_0)
           replace hx256_0 := (HB.out.cell (World.block_lt_of_cell? w _ hx256_0)).trans hx256_0
           replace p256 := eq_true p256
           replace q256 := eq_true q256
           have hnb53 := NB251_252.out
           have hnc53 := NB252_251.out
           obtain ⟨z54_0, z54_1, z54_2, z54_3, z54_4, z54_5, z54_6, z54_7, z54_8, z54_9, y54_0, y54_1, y54_2, y54_3, y54_4, y54_5, y54_6, y54_7, y54_8, y54_9⟩ := box10 BK251.out
           go_wp2_with (first | ((with_reducible refine gate_callee (f := 29) rfl ?_); refine goesL_ (some 62) rfl rfl Try.func29 (by kernel_rfl) rfl #[.agg #[.int .u8 a1_0, .int .i64 a1_1, .int .i64 a1_2, .slice A1_3 l1_3.length c1_3, .slice (some ad256) l1_4.length c1_4, .slice A1_5 l1_5.length c1_5, .slice A1_6 l1_6.length c1_6, .slice A1_7 l1_7.length c1_7, .slice A1_8 l1_8.length c1_8], .slice none 0 0] rfl (by (try simp only [List.map_toArray, List.map_cons, List.map_nil]) <;> rfl) ?_; (refine (task_Pend.calls a1_0 a1_1 a1_2 _ _ l1_3 _ _ l1_4 _ _ l1_5 _ _ l1_6 _ _ l1_7 _ _ l1_8 _ _ ([] : List (S55)) t257 t258 t259 t260 t263 t266 t269 t272 t275 t278 _ ?side1 ?side2 ?side3 ?side4 ?side5 ?side6 ?side7 ?side8 ?side9 ?side10 ?side11 ?side12 ?side13 ?side14 A49.out (by first | rfl | exact HRT.out | assumption | exact eq_of_beq (by assumption))).mono ?_); (case side1 => exact CB HR1_3.out HB.out); (case side2 => exact HC1_3.out); (case side3 => exact CB HR1_4.out HB.out); (case side4 => exact HC1_4.out); (case side5 => exact CB HR1_5.out HB.out); (case side6 => exact HC1_5.out); (case side7 => exact CB HR1_6.out HB.out); (case side8 => exact HC1_6.out); (case side9 => exact CB HR1_7.out HB.out); (case side10 => exact HC1_7.out); (case side11 => exact CB HR1_8.out HB.out); (case side12 => exact HC1_8.out); (case side13 => exact Kd.C_nil _ _); (case side14 => exact Nat.le_refl _); rintro e w55 ⟨v261, v264, v267, v270, v273, v276, rfl, ho0, ho1, ho2, ho3, ho4, ho5, hb⟩; refine ⟨_, rfl, ?_⟩; have HO262 := am (Kd.R_lower ho0 (below_size (by repeat (with_reducible first | exact HB.out | refine belS ?_ | refine below_set ?_ GE252.out)))); have HO265 := am (Kd.R_lower ho1 (below_size (by repeat (with_reducible first | exact HB.out | refine belS ?_ | refine below_set ?_ GE252.out)))); have HO268 := am (Kd.R_lower ho2 (below_size (by repeat (with_reducible first | exact HB.out | refine belS ?_ | refine below_set ?_ GE252.out)))); have HO271 := am (Kd.R_lower ho3 (below_size (by repeat (with_reducible first | exact HB.out | refine belS ?_ | refine below_set ?_ GE252.out)))); have HO274 := am (Kd.R_lower ho4 (below_size (by repeat (with_reducible first | exact HB.out | refine belS ?_ | refine below_set ?_ GE252.out)))); have HO277 := am (Kd.R_lower ho5 (below_size (by repeat (with_reducible first | exact HB.out | refine belS ?_ | refine below_set ?_ GE252.out)))); replace BK252 := am (blkB BK252.out hb); replace HB := am (below_step (by repeat (with_reducible first | exact HB.out | refine belS ?_ | refine below_set ?_ GE252.out)) hb); (try clear hb); (try clear hk); (try clear ho0); (try clear ho1); (try clear ho2); (try clear ho3); (try clear ho4); (try clear ho5); obtain ⟨z56_0, z56_1, z56_2, z56_3, z56_4, z56_5, z56_6, z56_7, z56_8, y56_0, y56_1, y56_2, y56_3, y56_4, y56_5, y56_6, y56_7, y56_8⟩ := box9 BK252.out; obtain ⟨Ao57, co57, eo57⟩ := Kd.R_slice HO262.out; subst eo57; obtain ⟨Ao58, co58, eo58⟩ := Kd.R_slice HO265.out; subst eo58; obtain ⟨Ao59, co59, eo59⟩ := Kd.R_slice HO268.out; subst eo59; obtain ⟨Ao60, co60, eo60⟩ := Kd.R_slice HO271.out; subst eo60; obtain ⟨Ao61, co61, eo61⟩ := Kd.R_slice HO274.out; subst eo61; obtain ⟨Ao62, co62, eo62⟩ := Kd.R_slice HO277.out; subst eo62))
           refine bodyPost_ret (results_ct rfl _ _ gb252 31 #[.int .u8 t257, .int .i64 t258, .int .i64 t259, .slice Ao57 t260.length co57, .slice Ao58 t263.length co58, .slice Ao59 t266.length co59, .slice Ao60 t269.length co60, .slice Ao61 t272.length co61, .slice Ao62 t275.length co62] (0, 0) _ rfl (by (repeat refine blkS ?_); apply put9; (repeat refine blkS ?_); exact BK252.out) Try.underlying31 rfl (by kernel_rfl)) rfl ?_
           exact ⟨_, _, _, _, _, _, by first | rfl | (simp [errW_none, errW_some] <;> rfl) | (simp [*, errW_none, errW_some] <;> rfl), by (repeat refine RS ?_); exact Kd.R_mono (Rfar9 (Kd.R_types HO262.out BK252.out (by decide)) (fun _ hk => hk.2)) (fun _ hk => trivial), by (repeat refine RS ?_); exact Kd.R_mono (Rfar9 (Kd.R_types HO265.out BK252.out (by decide)) (fun _ hk => hk.2)) (fun _ hk => trivial), by (repeat refine RS ?_); exact Kd.R_mono (Rfar9 (Kd.R_types HO268.out BK252.out (by decide)) (fun _ hk => hk.2)) (fun _ hk => trivial), by (repeat refine RS ?_); exact Kd.R_mono (Rfar9 (Kd.R_types HO271.out BK252.out (by decide)) (fun _ hk => hk.2)) (fun _ hk => trivial), by (repeat refine RS ?_); exact Kd.R_mono (Rfar9 (Kd.R_types HO274.out BK252.out (by decide)) (fun _ hk => hk.2)) (fun _ hk => trivial), by (repeat refine RS ?_); exact Kd.R_mono (Rfar9 (Kd.R_types HO277.out BK252.out (by decide)) (fun _ hk => hk.2)) (fun _ hk => trivial), by repeat (with_reducible first | exact HB.out | refine belS ?_ | refine below_set ?_ GE252.out)⟩
          ·rw [if_neg c48] at H
           have c48b0 : decide (a2_4 ≤ (rd l1_4 0)) = false := decide_eq_false c48
           clear c48
           replace H := Option.bind_eq_some_iff.mp H
           obtain ⟨t279, A630, H⟩ := H
           try dsimp only at H
           have A63 := am A630
           clear A630
           by_cases c64 : 0 < (t279.length : Int)
           ·rw [if_pos c64] at H
            have c64b0 : decide (0 < (t279.length : Int)) = true := decide_eq_true c64
            have c64b1 : decide (0 < t279.length) = true := decide_eq_true (by omega)
            clear c64
            obtain ⟨y282, hy282⟩ : ∃ y_ : List Int, y_ = (t279.set (0 : Int).toNat a2_4) := ⟨_, rfl⟩
            replace H : ((task_Pend.f a1_0 a1_1 a1_2 l1_3 y282 l1_5 l1_6 l1_7 l1_8 (([(⟨0, (⟨a2_0, (⟨a2_1, a2_2, a2_3⟩ : S43), a2_4, (⟨a2_5, (⟨a2_6, a2_7⟩ : S45), (⟨a2_8, a2_9⟩ : S46)⟩ : S48)⟩ : S50)⟩ : S55)] : List (S55)))).bind fun bt286 => (some (bt286.1, bt286.2.1, bt286.2.2.1, bt286.2.2.2.1, bt286.2.2.2.2.1, bt286.2.2.2.2.2.1, bt286.2.2.2.2.2.2.1, bt286.2.2.2.2.2.2.2.1, bt286.2.2.2.2.2.2.2.2.1, bt286.2.2.2.2.2.2.2.2.2))) = some (r1, r2, r3, r4, r5, r6, r7, r8, r9, r10) := by first | (rw [hy282]; with_reducible exact H) | (have H2_ := (Option.bind_some _ _).symm.trans H; rw [hy282]; with_reducible exact H2_) | (have H2_ := (Option.bind_some _ _).symm.trans H; with_reducible exact H2_) | with_reducible exact H | (rw [hy282]; exact H) | exact H
            have Ny282 := am hy282
            clear hy282
            obtain ⟨y283, hy283⟩ : ∃ y_ : List (S55), y_ = (([(⟨0, (⟨a2_0, (⟨a2_1, a2_2, a2_3⟩ : S43), a2_4, (⟨a2_5, (⟨a2_6, a2_7⟩ : S45), (⟨a2_8, a2_9⟩ : S46)⟩ : S48)⟩ : S50)⟩ : S55)] : List (S55))) := ⟨_, rfl⟩
            replace H : ((task_Pend.f a1_0 a1_1 a1_2 l1_3 y282 l1_5 l1_6 l1_7 l1_8 y283).bind fun bt286 => (some (bt286.1, bt286.2.1, bt286.2.2.1, bt286.2.2.2.1, bt286.2.2.2.2.1, bt286.2.2.2.2.2.1, bt286.2.2.2.2.2.2.1, bt286.2.2.2.2.2.2.2.1, bt286.2.2.2.2.2.2.2.2.1, bt286.2.2.2.2.2.2.2.2.2))) = some (r1, r2, r3, r4, r5, r6, r7, r8, r9, r10) := by first | (rw [hy283]; with_reducible exact H) | (have H2_ := (Option.bind_some _ _).symm.trans H; rw [hy283]; with_reducible exact H2_) | (have H2_ := (Option.bind_some _ _).symm.trans H; with_reducible exact H2_) | with_reducible exact H | (rw [hy283]; exact H) | exact H
            have Ny283 := am hy283
            clear hy283
            replace H := Option.bind_eq_some_iff.mp H
            obtain ⟨⟨t286, t287, t288, t289, t292, t295, t298, t301, t304, t307⟩, A660, H⟩ := H
            try dsimp only at H
            have A66 := am A660
            clear A660
            simp only [Option.some.injEq, Prod.mk.injEq] at H
            obtain ⟨rfl, rfl, rfl, rfl, rfl, rfl, rfl, rfl, rfl, rfl⟩ := H
            have hnb67 := NB250_251.out
            have hnc67 := NB251_250.out
            have hnb68 := NB250_252.out
            have hnc68 := NB252_250.out
            obtain ⟨z69_0, z69_1, z69_2, z69_3, z69_4, z69_5, z69_6, z69_7, z69_8, y69_0, y69_1, y69_2, y69_3, y69_4, y69_5, y69_6, y69_7, y69_8⟩ := box9 BK250.out
            have p256 : 0 ≤ (0 : Int) := (by omega)
            have q256 : 0 < (l1_4.length : Int) := of_decide_eq_true (by first | (with_reducible assumption) | assumption)
            obtain ⟨ad256, e256, hx256_0⟩ := Kd.at_int HR1_4.out 0 p256 q256
            cases e256
            have qi256 : (0 < l1_4.length) = True := eq_true (by omega)
            (try rw [show ((0 : Int)).toNat = 0 from rfl] at hx256_0)
            (try rw [Addr.add_zero'] at hx256_0)
            replace hx256_0 := (HB.out.cell (World.block_lt_of_cell? w _ hx256_0)).trans hx256_0
            replace p256 := eq_true p256
            replace q256 := eq_true q256
            have hnb70 := NB251_252.out
            have hnc70 := NB252_251.out
            obtain ⟨z71_0, z71_1, z71_2, z71_3, z71_4, z71_5, z71_6, z71_7, z71_8, z71_9, y71_0, y71_1, y71_2, y71_3, y71_4, y71_5, y71_6, y71_7, y71_8, y71_9⟩ := box10 BK251.out
            go_wp2_with (first | ((with_reducible refine gate_callee (f := 30) rfl ?_); refine goesL_ (some 67) rfl rfl Try.func30 (by kernel_rfl) rfl #[.slice (some ad256) l1_4.length c1_4] rfl (by (try simp only [List.map_toArray, List.map_cons, List.map_nil]) <;> rfl) ?_; (with_reducible refine (slices_Clone_int64_int64.calls _ _ l1_4 t279 _ ?side1 ?side2 A63.out).mono ?_); (case side1 => exact CB HR1_4.out HB.out); (case side2 => exact HC1_4.out); rintro e w72 ⟨v280, rfl, ho0, hb⟩; refine ⟨_, rfl, ?_⟩; have HO281 := am (Kd.R_lower ho0 (below_size (by repeat (with_reducible first | exact HB.out | refine belS ?_ | refine below_set ?_ GE250.out | refine below_set ?_ GE251.out | refine below_set ?_ GE252.out)))); replace BK250 := am (blkB BK250.out hb); replace BK251 := am (blkB BK251.out hb); replace BK252 := am (blkB BK252.out hb); replace HB := am (below_step (by repeat (with_reducible first | exact HB.out | refine belS ?_ | refine below_set ?_ GE250.out | refine below_set ?_ GE251.out | refine below_set ?_ GE252.out)) hb); (try clear hb); (try clear hk); (try clear ho0); obtain ⟨Ao73, co73, eo73⟩ := Kd.R_slice HO281.out; subst eo73; obtain ⟨z74_0, z74_1, z74_2, z74_3, z74_4, z74_5, z74_6, z74_7, z74_8, y74_0, y74_1, y74_2, y74_3, y74_4, y74_5, y74_6, y74_7, y74_8⟩ := box9 BK250.out) | ((with_reducible refine gate_store (t := 25) (p := 68) rfl ?_); refine store_event (t := 25) (p := 68) (v := ?vo_w75) (w1 := (w72.setCell ⟨gb250, 4, none⟩ (.slice Ao73 t279.length co73))) ?hg ?ho ?hn ?hr ?_; (case ho => rfl); (case hg => rfl); (case hn => rfl); (case hr => go_simp <;> rfl); intro w75 hw; have n0_ : Aside0 (Kd.R (Kd.int .i64) 2 w75 w.heap.size (fun _ => True) (.slice Ao73 t279.length co73) t279) := ⟨(by rw [hw]; exact (by (repeat refine RS ?_); exact Kd.R_mono (Kd.R_far (p := ⟨gb250, 4, none⟩) (Kd.R_types HO281.out BK250.out (by decide)) (fun _ hk => hk.2) (.slice Ao73 t279.length co73)) (fun _ hk => trivial)))⟩; have n1_ : Aside0 (w75.heap[gb250]? = some (.cells #[.int .u8 a1_0, .int .i64 a1_1, .int .i64 a1_2, .slice A1_3 l1_3.length c1_3, .slice Ao73 t279.length co73, .slice A1_5 l1_5.length c1_5, .slice A1_6 l1_6.length c1_6, .slice A1_7 l1_7.length c1_7, .slice A1_8 l1_8.length c1_8] 31 (0, 0))) := ⟨(by rw [hw]; exact (by (repeat refine blkS ?_); refine blk_put (cs := #[.int .u8 a1_0, .int .i64 a1_1, .int .i64 a1_2, .slice A1_3 l1_3.length c1_3, .slice (some ad256) l1_4.length c1_4, .slice A1_5 l1_5.length c1_5, .slice A1_6 l1_6.length c1_6, .slice A1_7 l1_7.length c1_7, .slice A1_8 l1_8.length c1_8]) ?_ 4 _ rfl; (repeat refine blkS ?_); exact BK250.out))⟩; have n2_ : Aside0 (w75.heap[gb251]? = some (.cells #[.int .u8 a2_0, .int .i64 a2_1, .int .i64 a2_2, .int .i64 a2_3, .int .i64 a2_4, .int .i64 a2_5, .int .i64 a2_6, .int .i64 a2_7, .int .i64 a2_8, .int .i64 a2_9] 50 (0, 0))) := ⟨(by rw [hw]; exact (by (repeat refine blkS ?_); refine blk_far ?_ NB251_250.out _; (repeat refine blkS ?_); exact BK251.out))⟩; have n3_ : Aside0 (w75.heap[gb252]? = some (.cells #[.int .u8 0, .int .i64 0, .int .i64 0, .slice none 0 0, .slice none 0 0, .slice none 0 0, .slice none 0 0, .slice none 0 0, .slice none 0 0] 31 (0, 0))) := ⟨(by rw [hw]; exact (by (repeat refine blkS ?_); refine blk_far ?_ NB252_250.out _; (repeat refine blkS ?_); exact BK252.out))⟩; have n4_ : Aside0 (Below w.heap.size w w75) := ⟨(by rw [hw]; exact (by repeat (with_reducible first | exact HB.out | refine belS ?_ | refine below_set ?_ GE250.out | refine below_set ?_ GE251.out | refine below_set ?_ GE252.out)))⟩; clear hw; clear HO281; clear BK250; clear BK251; clear BK252; clear HB; have HO281 := n0_; have BK250 := n1_; have BK251 := n2_; have BK252 := n3_; have HB := n4_; clear n0_ n1_ n2_ n3_ n4_; obtain ⟨z76_0, z76_1, z76_2, z76_3, z76_4, z76_5, z76_6, z76_7, z76_8, y76_0, y76_1, y76_2, y76_3, y76_4, y76_5, y76_6, y76_7, y76_8⟩ := box9 BK250.out; obtain ⟨z77_0, z77_1, z77_2, z77_3, z77_4, z77_5, z77_6, z77_7, z77_8, z77_9, y77_0, y77_1, y77_2, y77_3, y77_4, y77_5, y77_6, y77_7, y77_8, y77_9⟩ := box10 BK251.out; have p65 : 0 ≤ (0 : Int) := (by omega); have q65 : (0 : Int) < ((t279.length : Int) : Int) := of_decide_eq_true (by first | (with_reducible assumption) | assumption); have qi65 : (0 < t279.length) = True := eq_true (by omega); obtain ⟨go65, co65, eo65, gb65, gl65, cl65, HG65⟩ := Kd.R_form HO281.out (by omega); (first | cases eo65 | (injection eo65 with ea_ en_ ec_; (first | subst ea_ | (injection ea_ with ea_; subst ea_)); subst ec_; clear en_)); have GB65 := am gb65; have GG65 := am HG65; clear gb65 gl65 HG65; obtain ⟨hx65_0, hf65_0⟩ := Kd.R_celln 0 HO281.out (0 : Int) p65 q65; (try rw [show ((0 : Int)).toNat = 0 from rfl] at hx65_0); (try simp only [Nat.reduceMul, Nat.zero_mul, Nat.zero_add, Nat.reduceAdd] at hx65_0); (try rw [show ((0 : Int)).toNat = 0 from rfl] at hf65_0); (try simp only [Nat.reduceMul, Nat.zero_mul, Nat.zero_add, Nat.reduceAdd] at hf65_0); replace p65 := eq_true p65; replace q65 := eq_true q65; obtain ⟨hy78_, hz78_⟩ := Kd.R_celln 0 HO281.out (0 : Int) (by omega) (of_decide_eq_true (by first | (with_reducible assumption) | assumption)); (try simp only [Int.reduceToNat, Int.toNat_zero, Int.toNat_ofNat, Nat.reduceMul, Nat.zero_mul, Nat.zero_add] at hy78_ hz78_); (try rw [show ((0 : Int)).toNat = 0 from rfl] at hy78_); (try rw [show ((0 : Int)).toNat = 0 from rfl] at hz78_); have HP78 := Kd.R_putg HO281.out (0 : Int) a2_4) | ((with_reducible refine gate_store (t := 2) (p := 73) rfl ?_); refine store_event (t := 2) (p := 73) (v := ?vo_w79) (w1 := (w75.setCell ⟨go65, (0 : Int).toNat, none⟩ (.int .i64 a2_4))) ?hg ?ho ?hn ?hr ?_; (case ho => rfl); (case hg => rfl); (case hn => rfl); (case hr => go_simp <;> rfl); intro w79 hw; have hg : w75.grownBy w79 (some go65) := (by rw [hw]; exact HP78.2); have hp_ : Kd.R (Kd.int .i64) 2 w79 w.heap.size (fun _ => True) (.slice (some ⟨go65, 0, none⟩) t279.length co73) y282 := (by rw [hw, Ny282.out]; exact HP78.1); clear HP78; have n0_ := am (blk_grown (g := gb250) (o := .cells #[.int .u8 a1_0, .int .i64 a1_1, .int .i64 a1_2, .slice A1_3 l1_3.length c1_3, .slice (some ⟨go65, 0, none⟩) t279.length co73, .slice A1_5 l1_5.length c1_5, .slice A1_6 l1_6.length c1_6, .slice A1_7 l1_7.length c1_7, .slice A1_8 l1_8.length c1_8] 31 (0, 0)) (by exact blkL BK250.out) hg (Kd.R_ne HO281.out BK250.out (by decide))); have n1_ := am (blk_grown (g := gb251) (o := .cells #[.int .u8 a2_0, .int .i64 a2_1, .int .i64 a2_2, .int .i64 a2_3, .int .i64 a2_4, .int .i64 a2_5, .int .i64 a2_6, .int .i64 a2_7, .int .i64 a2_8, .int .i64 a2_9] 50 (0, 0)) (by exact blkL BK251.out) hg (Kd.R_ne HO281.out BK251.out (by decide))); have n2_ := am (blk_grown (g := gb252) (o := .cells #[.int .u8 0, .int .i64 0, .int .i64 0, .slice none 0 0, .slice none 0 0, .slice none 0 0, .slice none 0 0, .slice none 0 0, .slice none 0 0] 31 (0, 0)) (by exact blkL BK252.out) hg (Kd.R_ne HO281.out BK252.out (by decide))); have n3_ := am (hp_); have n4_ := am ((by rw [hw]; exact below_set (HB.out) GB65.out : Below w.heap.size w w79)); clear BK250; clear BK251; clear BK252; clear HO281; clear HB; have BK250 := n0_; have BK251 := n1_; have BK252 := n2_; have HO281 := n3_; have HB := n4_; clear n0_ n1_ n2_ n3_ n4_; clear hg hw hp_; obtain ⟨z80_0, z80_1, z80_2, z80_3, z80_4, z80_5, z80_6, z80_7, z80_8, y80_0, y80_1, y80_2, y80_3, y80_4, y80_5, y80_6, y80_7, y80_8⟩ := box9 BK250.out; obtain ⟨z81_0, z81_1, z81_2, z81_3, z81_4, z81_5, z81_6, z81_7, z81_8, z81_9, y81_0, y81_1, y81_2, y81_3, y81_4, y81_5, y81_6, y81_7, y81_8, y81_9⟩ := box10 BK251.out) | ((with_reducible refine gate_dst (N := 77) rfl ?_); refine Kd.R_lit k55 _ 55 ?hg (N := 77) ?hd (xs := ([(⟨0, (⟨a2_0, (⟨a2_1, a2_2, a2_3⟩ : S43), a2_4, (⟨a2_5, (⟨a2_6, a2_7⟩ : S45), (⟨a2_8, a2_9⟩ : S46)⟩ : S48)⟩ : S50)⟩ : S55)] : List (S55))) (inner := [.int .i64 0, .int .u8 a2_0, .int .i64 a2_1, .int .i64 a2_2, .int .i64 a2_3, .int .i64 a2_4, .int .i64 a2_5, .int .i64 a2_6, .int .i64 a2_7, .int .i64 a2_8, .int .i64 a2_9]) (ok := fun _ => True) (okp := fun _ => True) ?hr ?hp (fun _ hk => hk) trivial (Below.refl _ _) (Nat.le_refl _) (by simp) ?_; (case hd => rfl); (case hg => rfl); (case hr => go_simp <;> rfl); (case hp => exact (Reps.front (show Kd.M k55 _ _ _ (⟨0, (⟨a2_0, (⟨a2_1, a2_2, a2_3⟩ : S43), a2_4, (⟨a2_5, (⟨a2_6, a2_7⟩ : S45), (⟨a2_8, a2_9⟩ : S46)⟩ : S48)⟩ : S50)⟩ : S55) [.int .i64 0, .int .u8 a2_0, .int .i64 a2_1, .int .i64 a2_2, .int .i64 a2_3, .int .i64 a2_4, .int .i64 a2_5, .int .i64 a2_6, .int .i64 a2_7, .int .i64 a2_8, .int .i64 a2_9] from (k55_mkM _ _ _ (⟨0, (⟨a2_0, (⟨a2_1, a2_2, a2_3⟩ : S43), a2_4, (⟨a2_5, (⟨a2_6, a2_7⟩ : S45), (⟨a2_8, a2_9⟩ : S46)⟩ : S48)⟩ : S50)⟩ : S55) )) rfl (Reps.none _ _) rfl)); intro v284 w82 ho83 hb hg_ hnew_; clear hg_ hnew_; (first | rw [← Ny283.out] at ho83 | (simp only [Int.reduceToNat] at ho83; rw [← Ny283.out] at ho83)); have HO285 := am (Kd.R_lower ho83 (below_size (by repeat (with_reducible first | exact HB.out | refine belS ?_ | refine below_set ?_ GE252.out)))); replace HO281 := am (Kd.R_below (by exact RL HO281.out) hb); replace BK252 := am (blkB BK252.out hb); replace HB := am (below_step (by repeat (with_reducible first | exact HB.out | refine belS ?_ | refine below_set ?_ GE252.out)) hb); clear hb ho83; obtain ⟨Ao84, co84, eo84⟩ := Kd.R_slice HO285.out; subst eo84) | ((with_reducible refine gate_callee (f := 29) rfl ?_); refine goesL_ (some 78) rfl rfl Try.func29 (by kernel_rfl) rfl #[.agg #[.int .u8 a1_0, .int .i64 a1_1, .int .i64 a1_2, .slice A1_3 l1_3.length c1_3, .slice (some ⟨go65, 0, none⟩) y282.length co73, .slice A1_5 l1_5.length c1_5, .slice A1_6 l1_6.length c1_6, .slice A1_7 l1_7.length c1_7, .slice A1_8 l1_8.length c1_8], .slice Ao84 y283.length co84] rfl (by (try simp only [List.map_toArray, List.map_cons, List.map_nil]); first | done | (rw [show y282.length = t279.length from (Kd.R_reads' HO281.out).1.symm] <;> rfl) | rfl | (simp only [List.length_drop, List.length_take]; rfl)) ?_; (with_reducible refine (task_Pend.calls a1_0 a1_1 a1_2 _ _ l1_3 _ _ y282 _ _ l1_5 _ _ l1_6 _ _ l1_7 _ _ l1_8 _ _ y283 t286 t287 t288 t289 t292 t295 t298 t301 t304 t307 _ ?side1 ?side2 ?side3 ?side4 ?side5 ?side6 ?side7 ?side8 ?side9 ?side10 ?side11 ?side12 ?side13 ?side14 A66.out (by first | rfl | exact HRT.out | assumption | exact eq_of_beq (by assumption))).mono ?_); (case side1 => exact CB HR1_3.out HB.out); (case side2 => exact HC1_3.out); (case side3 => repeat (first | exact (Kd.R_reads' HO281.out).2.2 | (with_reducible refine Kd.C_alloc ?_ _) | (with_reducible refine Kd.C_drewN ?_ _) | (with_reducible refine Kd.C_drew ?_))); (case side4 => rw [show y282.length = t279.length from (Kd.R_reads' HO281.out).1.symm]; exact (Kd.R_reads' HO281.out).2.1); (case side5 => exact CB HR1_5.out HB.out); (case side6 => exact HC1_5.out); (case side7 => exact CB HR1_6.out HB.out); (case side8 => exact HC1_6.out); (case side9 => exact CB HR1_7.out HB.out); (case side10 => exact HC1_7.out); (case side11 => exact CB HR1_8.out HB.out); (case side12 => exact HC1_8.out); (case side13 => repeat (first | exact (Kd.R_reads' HO285.out).2.2 | (with_reducible refine Kd.C_alloc ?_ _) | (with_reducible refine Kd.C_drewN ?_ _) | (with_reducible refine Kd.C_drew ?_))); (case side14 => exact (Kd.R_reads' HO285.out).2.1); rintro e w85 ⟨v290, v293, v296, v299, v302, v305, rfl, ho0, ho1, ho2, ho3, ho4, ho5, hb⟩; refine ⟨_, rfl, ?_⟩; have HO291 := am (Kd.R_lower (Kd.R_new' ho0 (Kd.R_lt (by exact RL HO285.out))) (below_size (by repeat (with_reducible first | exact HB.out | refine belS ?_ | refine below_set ?_ GE252.out)))); have HO294 := am (Kd.R_lower (Kd.R_new' ho1 (Kd.R_lt (by exact RL HO281.out))) (below_size (by repeat (with_reducible first | exact HB.out | refine belS ?_ | refine below_set ?_ GE252.out)))); have HO297 := am (Kd.R_lower ho2 (below_size (by repeat (with_reducible first | exact HB.out | refine belS ?_ | refine below_set ?_ GE252.out)))); have HO300 := am (Kd.R_lower ho3 (below_size (by repeat (with_reducible first | exact HB.out | refine belS ?_ | refine below_set ?_ GE252.out)))); have HO303 := am (Kd.R_lower ho4 (below_size (by repeat (with_reducible first | exact HB.out | refine belS ?_ | refine below_set ?_ GE252.out)))); have HO306 := am (Kd.R_lower ho5 (below_size (by repeat (with_reducible first | exact HB.out | refine belS ?_ | refine below_set ?_ GE252.out)))); replace HO281 := am (Kd.R_elder' (by exact RL HO281.out) (Kd.R_base ho1) hb); replace HO285 := am (Kd.R_elder' (by exact RL HO285.out) (Kd.R_base ho0) hb); replace BK252 := am (blkB BK252.out hb); replace HB := am (below_step (by repeat (with_reducible first | exact HB.out | refine belS ?_ | refine below_set ?_ GE252.out)) hb); (try clear hb); (try clear hk); (try clear ho0); (try clear ho1); (try clear ho2); (try clear ho3); (try clear ho4); (try clear ho5); obtain ⟨z86_0, z86_1, z86_2, z86_3, z86_4, z86_5, z86_6, z86_7, z86_8, y86_0, y86_1, y86_2, y86_3, y86_4, y86_5, y86_6, y86_7, y86_8⟩ := box9 BK252.out; obtain ⟨Ao87, co87, eo87⟩ := Kd.R_slice HO291.out; subst eo87; obtain ⟨Ao88, co88, eo88⟩ := Kd.R_slice HO294.out; subst eo88; obtain ⟨Ao89, co89, eo89⟩ := Kd.R_slice HO297.out; subst eo89; obtain ⟨Ao90, co90, eo90⟩ := Kd.R_slice HO300.out; subst eo90; obtain ⟨Ao91, co91, eo91⟩ := Kd.R_slice HO303.out; subst eo91; obtain ⟨Ao92, co92, eo92⟩ := Kd.R_slice HO306.out; subst eo92))
            refine bodyPost_ret (results_ct rfl _ _ gb252 31 #[.int .u8 t286, .int .i64 t287, .int .i64 t288, .slice Ao87 t289.length co87, .slice Ao88 t292.length co88, .slice Ao89 t295.length co89, .slice Ao90 t298.length co90, .slice Ao91 t301.length co91, .slice Ao92 t304.length co92] (0, 0) _ rfl (by (repeat refine blkS ?_); apply put9; (repeat refine blkS ?_); exact BK252.out) Try.underlying31 rfl (by kernel_rfl)) rfl ?_
            exact ⟨_, _, _, _, _, _, by first | rfl | (simp [errW_none, errW_some] <;> rfl) | (simp [*, errW_none, errW_some] <;> rfl), by (repeat refine RS ?_); exact Kd.R_mono (Rfar9 (Kd.R_types HO291.out BK252.out (by decide)) (fun _ hk => hk.2)) (fun _ hk => trivial), by (repeat refine RS ?_); exact Kd.R_mono (Rfar9 (Kd.R_types HO294.out BK252.out (by decide)) (fun _ hk => hk.2)) (fun _ hk => trivial), by (repeat refine RS ?_); exact Kd.R_mono (Rfar9 (Kd.R_types HO297.out BK252.out (by decide)) (fun _ hk => hk.2)) (fun _ hk => trivial), by (repeat refine RS ?_); exact Kd.R_mono (Rfar9 (Kd.R_types HO300.out BK252.out (by decide)) (fun _ hk => hk.2)) (fun _ hk => trivial), by (repeat refine RS ?_); exact Kd.R_mono (Rfar9 (Kd.R_types HO303.out BK252.out (by decide)) (fun _ hk => hk.2)) (fun _ hk => trivial), by (repeat refine RS ?_); exact Kd.R_mono (Rfar9 (Kd.R_types HO306.out BK252.out (by decide)) (fun _ hk => hk.2)) (fun _ hk => trivial), by repeat (with_reducible first | exact HB.out | refine belS ?_ | refine below_set ?_ GE252.out)⟩
           ·rw [if_neg c64] at H
            exact absurd H (by simp)
         ·rw [if_neg c47] at H
          have c47b0 : (a2_0 == 2) = false := beq_eq_false_iff_ne.mpr c47
          have c47b1 : (a2_0 != 2) = true := bne_iff_ne.mpr c47
          by_cases c93 : a2_2 < (rd l1_4 0)
          ·rw [if_pos c93] at H
           have c93b0 : decide (a2_2 < (rd l1_4 0)) = true := decide_eq_true c93
           clear c93
           by_cases c94 : a0_9 = 2
           ·rw [if_pos c94] at H
            have c94b0 : (a0_9 == 2) = true := beq_iff_eq.mpr c94
            have c94b1 : (a0_9 != 2) = false := bne_eq_false_iff_eq.mpr c94
            clear c94
            obtain ⟨y308, hy308⟩ : ∃ y_ : List (S55), y_ = (([(⟨1, (⟨4, (⟨a2_1, a2_2, a2_3⟩ : S43), 0, (⟨0, (⟨0, 0⟩ : S45), (⟨0, 0⟩ : S46)⟩ : S48)⟩ : S50)⟩ : S55)] : List (S55))) := ⟨_, rfl⟩
            replace H : ((task_Pend.f a1_0 a1_1 a1_2 l1_3 l1_4 l1_5 l1_6 l1_7 l1_8 y308).bind fun bt311 => (some (bt311.1, bt311.2.1, bt311.2.2.1, bt311.2.2.2.1, bt311.2.2.2.2.1, bt311.2.2.2.2.2.1, bt311.2.2.2.2.2.2.1, bt311.2.2.2.2.2.2.2.1, bt311.2.2.2.2.2.2.2.2.1, bt311.2.2.2.2.2.2.2.2.2))) = some (r1, r2, r3, r4, r5, r6, r7, r8, r9, r10) := by first | (rw [hy308]; with_reducible exact H) | (have H2_ := (Option.bind_some _ _).symm.trans H; rw [hy308]; with_reducible exact H2_) | (have H2_ := (Option.bind_some _ _).symm.trans H; with_reducible exact H2_) | with_reducible exact H | (rw [hy308]; exact H) | exact H
            have Ny308 := am hy308
            clear hy308
            replace H := Option.bind_eq_some_iff.mp H
            obtain ⟨⟨t311, t312, t313, t314, t317, t320, t323, t326, t329, t332⟩, A950, H⟩ := H
            try dsimp only at H
            have A95 := am A950
            clear A950
            simp only [Option.some.injEq, Prod.mk.injEq] at H
            obtain ⟨rfl, rfl, rfl, rfl, rfl, rfl, rfl, rfl, rfl, rfl⟩ := H
            have hnb96 := NB250_249.out
            have hnc96 := NB249_250.out
            have hnb97 := NB250_251.out
            have hnc97 := NB251_250.out
            have hnb98 := NB250_252.out
            have hnc98 := NB252_250.out
            obtain ⟨z99_0, z99_1, z99_2, z99_3, z99_4, z99_5, z99_6, z99_7, z99_8, y99_0, y99_1, y99_2, y99_3, y99_4, y99_5, y99_6, y99_7, y99_8⟩ := box9 BK250.out
            have p256 : 0 ≤ (0 : Int) := (by omega)
            have q256 : 0 < (l1_4.length : Int) := of_decide_eq_true (by first | (with_reducible assumption) | assumption)
            obtain ⟨ad256, e256, hx256_0⟩ := Kd.at_int HR1_4.out 0 p256 q256
            cases e256
            have qi256 : (0 < l1_4.length) = True := eq_true (by omega)
            (try rw [show ((0 : Int)).toNat = 0 from rfl] at hx256_0)
            (try rw [Addr.add_zero'] at hx256_0)
            replace hx256_0 := (HB.out.cell (World.block_lt_of_cell? w _ hx256_0)).trans hx256_0
            replace p256 := eq_true p256
            replace q256 := eq_true q256
            have hnb100 := NB251_249.out
            have hnc100 := NB249_251.out
            have hnb101 := NB251_252.out
            have hnc101 := NB252_251.out
            obtain ⟨z102_0, z102_1, z102_2, z102_3, z102_4, z102_5, z102_6, z102_7, z102_8, z102_9, y102_0, y102_1, y102_2, y102_3, y102_4, y102_5, y102_6, y102_7, y102_8, y102_9⟩ := box10 BK251.out
            have hnb103 := NB249_252.out
            have hnc103 := NB252_249.out
            obtain ⟨z104_0, z104_1, z104_2, z104_3, z104_4, z104_5, z104_6, z104_7, z104_8, z104_9, y104_0, y104_1, y104_2, y104_3, y104_4, y104_5, y104_6, y104_7, y104_8, y104_9⟩ := box10 BK249.out
            go_wp2_with (first | ((with_reducible refine gate_dst (N := 98) rfl ?_); refine Kd.R_lit k55 _ 55 ?hg (N := 98) ?hd (xs := ([(⟨1, (⟨4, (⟨a2_1, a2_2, a2_3⟩ : S43), 0, (⟨0, (⟨0, 0⟩ : S45), (⟨0, 0⟩ : S46)⟩ : S48)⟩ : S50)⟩ : S55)] : List (S55))) (inner := [.int .i64 1, .int .u8 4, .int .i64 a2_1, .int .i64 a2_2, .int .i64 a2_3, .int .i64 0, .int .i64 0, .int .i64 0, .int .i64 0, .int .i64 0, .int .i64 0]) (ok := fun _ => True) (okp := fun _ => True) ?hr ?hp (fun _ hk => hk) trivial (Below.refl _ _) (Nat.le_refl _) (by simp) ?_; (case hd => rfl); (case hg => rfl); (case hr => go_simp <;> rfl); (case hp => exact (Reps.front (show Kd.M k55 _ _ _ (⟨1, (⟨4, (⟨a2_1, a2_2, a2_3⟩ : S43), 0, (⟨0, (⟨0, 0⟩ : S45), (⟨0, 0⟩ : S46)⟩ : S48)⟩ : S50)⟩ : S55) [.int .i64 1, .int .u8 4, .int .i64 a2_1, .int .i64 a2_2, .int .i64 a2_3, .int .i64 0, .int .i64 0, .int .i64 0, .int .i64 0, .int .i64 0, .int .i64 0] from (k55_mkM _ _ _ (⟨1, (⟨4, (⟨a2_1, a2_2, a2_3⟩ : S43), 0, (⟨0, (⟨0, 0⟩ : S45), (⟨0, 0⟩ : S46)⟩ : S48)⟩ : S50)⟩ : S55) )) rfl (Reps.none _ _) rfl)); intro v309 w105 ho106 hb hg_ hnew_; clear hg_ hnew_; (first | rw [← Ny308.out] at ho106 | (simp only [Int.reduceToNat] at ho106; rw [← Ny308.out] at ho106)); have HO310 := am (Kd.R_lower ho106 (below_size (by repeat (with_reducible first | exact HB.out | refine belS ?_ | refine below_set ?_ GE252.out)))); replace BK252 := am (blkB BK252.out hb); replace HB := am (below_step (by repeat (with_reducible first | exact HB.out | refine belS ?_ | refine below_set ?_ GE252.out)) hb); clear hb ho106; obtain ⟨Ao107, co107, eo107⟩ := Kd.R_slice HO310.out; subst eo107) | ((with_reducible refine gate_callee (f := 29) rfl ?_); refine goesL_ (some 99) rfl rfl Try.func29 (by kernel_rfl) rfl #[.agg #[.int .u8 a1_0, .int .i64 a1_1, .int .i64 a1_2, .slice A1_3 l1_3.length c1_3, .slice (some ad256) l1_4.length c1_4, .slice A1_5 l1_5.length c1_5, .slice A1_6 l1_6.length c1_6, .slice A1_7 l1_7.length c1_7, .slice A1_8 l1_8.length c1_8], .slice Ao107 y308.length co107] rfl (by (try simp only [List.map_toArray, List.map_cons, List.map_nil]) <;> rfl) ?_; (with_reducible refine (task_Pend.calls a1_0 a1_1 a1_2 _ _ l1_3 _ _ l1_4 _ _ l1_5 _ _ l1_6 _ _ l1_7 _ _ l1_8 _ _ y308 t311 t312 t313 t314 t317 t320 t323 t326 t329 t332 _ ?side1 ?side2 ?side3 ?side4 ?side5 ?side6 ?side7 ?side8 ?side9 ?side10 ?side11 ?side12 ?side13 ?side14 A95.out (by first | rfl | exact HRT.out | assumption | exact eq_of_beq (by assumption))).mono ?_); (case side1 => exact CB HR1_3.out HB.out); (case side2 => exact HC1_3.out); (case side3 => exact CB HR1_4.out HB.out); (case side4 => exact HC1_4.out); (case side5 => exact CB HR1_5.out HB.out); (case side6 => exact HC1_5.out); (case side7 => exact CB HR1_6.out HB.out); (case side8 => exact HC1_6.out); (case side9 => exact CB HR1_7.out HB.out); (case side10 => exact HC1_7.out); (case side11 => exact CB HR1_8.out HB.out); (case side12 => exact HC1_8.out); (case side13 => repeat (first | exact (Kd.R_reads' HO310.out).2.2 | (with_reducible refine Kd.C_alloc ?_ _) | (with_reducible refine Kd.C_drewN ?_ _) | (with_reducible refine Kd.C_drew ?_))); (case side14 => exact (Kd.R_reads' HO310.out).2.1); rintro e w108 ⟨v315, v318, v321, v324, v327, v330, rfl, ho0, ho1, ho2, ho3, ho4, ho5, hb⟩; refine ⟨_, rfl, ?_⟩; have HO316 := am (Kd.R_lower (Kd.R_new' ho0 (Kd.R_lt (by exact RL HO310.out))) (below_size (by repeat (with_reducible first | exact HB.out | refine belS ?_ | refine below_set ?_ GE252.out)))); have HO319 := am (Kd.R_lower ho1 (below_size (by repeat (with_reducible first | exact HB.out | refine belS ?_ | refine below_set ?_ GE252.out)))); have HO322 := am (Kd.R_lower ho2 (below_size (by repeat (with_reducible first | exact HB.out | refine belS ?_ | refine below_set ?_ GE252.out)))); have HO325 := am (Kd.R_lower ho3 (below_size (by repeat (with_reducible first | exact HB.out | refine belS ?_ | refine below_set ?_ GE252.out)))); have HO328 := am (Kd.R_lower ho4 (below_size (by repeat (with_reducible first | exact HB.out | refine belS ?_ | refine below_set ?_ GE252.out)))); have HO331 := am (Kd.R_lower ho5 (below_size (by repeat (with_reducible first | exact HB.out | refine belS ?_ | refine below_set ?_ GE252.out)))); replace HO310 := am (Kd.R_elder' (by exact RL HO310.out) (Kd.R_base ho0) hb); replace BK252 := am (blkB BK252.out hb); replace HB := am (below_step (by repeat (with_reducible first | exact HB.out | refine belS ?_ | refine below_set ?_ GE252.out)) hb); (try clear hb); (try clear hk); (try clear ho0); (try clear ho1); (try clear ho2); (try clear ho3); (try clear ho4); (try clear ho5); obtain ⟨z109_0, z109_1, z109_2, z109_3, z109_4, z109_5, z109_6, z109_7, z109_8, y109_0, y109_1, y109_2, y109_3, y109_4, y109_5, y109_6, y109_7, y109_8⟩ := box9 BK252.out; obtain ⟨Ao110, co110, eo110⟩ := Kd.R_slice HO316.out; subst eo110; obtain ⟨Ao111, co111, eo111⟩ := Kd.R_slice HO319.out; subst eo111; obtain ⟨Ao112, co112, eo112⟩ := Kd.R_slice HO322.out; subst eo112; obtain ⟨Ao113, co113, eo113⟩ := Kd.R_slice HO325.out; subst eo113; obtain ⟨Ao114, co114, eo114⟩ := Kd.R_slice HO328.out; subst eo114; obtain ⟨Ao115, co115, eo115⟩ := Kd.R_slice HO331.out; subst eo115))
            refine bodyPost_ret (results_ct rfl _ _ gb252 31 #[.int .u8 t311, .int .i64 t312, .int .i64 t313, .slice Ao110 t314.length co110, .slice Ao111 t317.length co111, .slice Ao112 t320.length co112, .slice Ao113 t323.length co113, .slice Ao114 t326.length co114, .slice Ao115 t329.length co115] (0, 0) _ rfl (by (repeat refine blkS ?_); apply put9; (repeat refine blkS ?_); exact BK252.out) Try.underlying31 rfl (by kernel_rfl)) rfl ?_
            exact ⟨_, _, _, _, _, _, by first | rfl | (simp [errW_none, errW_some] <;> rfl) | (simp [*, errW_none, errW_some] <;> rfl), by (repeat refine RS ?_); exact Kd.R_mono (Rfar9 (Kd.R_types HO316.out BK252.out (by decide)) (fun _ hk => hk.2)) (fun _ hk => trivial), by (repeat refine RS ?_); exact Kd.R_mono (Rfar9 (Kd.R_types HO319.out BK252.out (by decide)) (fun _ hk => hk.2)) (fun _ hk => trivial), by (repeat refine RS ?_); exact Kd.R_mono (Rfar9 (Kd.R_types HO322.out BK252.out (by decide)) (fun _ hk => hk.2)) (fun _ hk => trivial), by (repeat refine RS ?_); exact Kd.R_mono (Rfar9 (Kd.R_types HO325.out BK252.out (by decide)) (fun _ hk => hk.2)) (fun _ hk => trivial), by (repeat refine RS ?_); exact Kd.R_mono (Rfar9 (Kd.R_types HO328.out BK252.out (by decide)) (fun _ hk => hk.2)) (fun _ hk => trivial), by (repeat refine RS ?_); exact Kd.R_mono (Rfar9 (Kd.R_types HO331.out BK252.out (by decide)) (fun _ hk => hk.2)) (fun _ hk => trivial), by repeat (with_reducible first | exact HB.out | refine belS ?_ | refine below_set ?_ GE252.out)⟩
           ·rw [if_neg c94] at H
            have c94b0 : (a0_9 == 2) = false := beq_eq_false_iff_ne.mpr c94
            have c94b1 : (a0_9 != 2) = true := bne_iff_ne.mpr c94
            replace H := Option.bind_eq_some_iff.mp H
            obtain ⟨⟨t333, t334, t335, t336, t339, t342, t345, t348, t351, t354⟩, A1160, H⟩ := H
            try dsimp only at H
            have A116 := am A1160
            clear A1160
            simp only [Option.some.injEq, Prod.mk.injEq] at H
            obtain ⟨rfl, rfl, rfl, rfl, rfl, rfl, rfl, rfl, rfl, rfl⟩ := H
            have hnb117 := NB250_249.out
            have hnc117 := NB249_250.out
            have hnb118 := NB250_251.out
            have hnc118 := NB251_250.out
            have hnb119 := NB250_252.out
            have hnc119 := NB252_250.out
            obtain ⟨z120_0, z120_1, z120_2, z120_3, z120_4, z120_5, z120_6, z120_7, z120_8, y120_0, y120_1, y120_2, y120_3, y120_4, y120_5, y120_6, y120_7, y120_8⟩ := box9 BK250.out
            have p256 : 0 ≤ (0 : Int) := (by omega)
            have q256 : 0 < (l1_4.length : Int) := of_decide_eq_true (by first | (with_reducible assumption) | assumption)
            obtain ⟨ad256, e256, hx256_0⟩ := Kd.at_int HR1_4.out 0 p256 q256
            cases e256
            have qi256 : (0 < l1_4.length) = True := eq_true (by omega)
            (try rw [show ((0 : Int)).toNat = 0 from rfl] at hx256_0)
            (try rw [Addr.add_zero'] at hx256_0)
            replace hx256_0 := (HB.out.cell (World.block_lt_of_cell? w _ hx256_0)).trans hx256_0
            replace p256 := eq_true p256
            replace q256 := eq_true q256
            have hnb121 := NB251_249.out
            have hnc121 := NB249_251.out
            have hnb122 := NB251_252.out
            have hnc122 := NB252_251.out
            obtain ⟨z123_0, z123_1, z123_2, z123_3, z123_4, z123_5, z123_6, z123_7, z123_8, z123_9, y123_0, y123_1, y123_2, y123_3, y123_4, y123_5, y123_6, y123_7, y123_8, y123_9⟩ := box10 BK251.out
            have hnb124 := NB249_252.out
            have hnc124 := NB252_249.out
            obtain ⟨z125_0, z125_1, z125_2, z125_3, z125_4, z125_5, z125_6, z125_7, z125_8, z125_9, y125_0, y125_1, y125_2, y125_3, y125_4, y125_5, y125_6, y125_7, y125_8, y125_9⟩ := box10 BK249.out
            go_wp2_with (first | ((with_reducible refine gate_callee (f := 29) rfl ?_); refine goesL_ (some 90) rfl rfl Try.func29 (by kernel_rfl) rfl #[.agg #[.int .u8 a1_0, .int .i64 a1_1, .int .i64 a1_2, .slice A1_3 l1_3.length c1_3, .slice (some ad256) l1_4.length c1_4, .slice A1_5 l1_5.length c1_5, .slice A1_6 l1_6.length c1_6, .slice A1_7 l1_7.length c1_7, .slice A1_8 l1_8.length c1_8], .slice none 0 0] rfl (by (try simp only [List.map_toArray, List.map_cons, List.map_nil]) <;> rfl) ?_; (refine (task_Pend.calls a1_0 a1_1 a1_2 _ _ l1_3 _ _ l1_4 _ _ l1_5 _ _ l1_6 _ _ l1_7 _ _ l1_8 _ _ ([] : List (S55)) t333 t334 t335 t336 t339 t342 t345 t348 t351 t354 _ ?side1 ?side2 ?side3 ?side4 ?side5 ?side6 ?side7 ?side8 ?side9 ?side10 ?side11 ?side12 ?side13 ?side14 A116.out (by first | rfl | exact HRT.out | assumption | exact eq_of_beq (by assumption))).mono ?_); (case side1 => exact CB HR1_3.out HB.out); (case side2 => exact HC1_3.out); (case side3 => exact CB HR1_4.out HB.out); (case side4 => exact HC1_4.out); (case side5 => exact CB HR1_5.out HB.out); (case side6 => exact HC1_5.out); (case side7 => exact CB HR1_6.out HB.out); (case side8 => exact HC1_6.out); (case side9 => exact CB HR1_7.out HB.out); (case side10 => exact HC1_7.out); (case side11 => exact CB HR1_8.out HB.out); (case side12 => exact HC1_8.out); (case side13 => exact Kd.C_nil _ _); (case side14 => exact Nat.le_refl _); rintro e w126 ⟨v337, v340, v343, v346, v349, v352, rfl, ho0, ho1, ho2, ho3, ho4, ho5, hb⟩; refine ⟨_, rfl, ?_⟩; have HO338 := am (Kd.R_lower ho0 (below_size (by repeat (with_reducible first | exact HB.out | refine belS ?_ | refine below_set ?_ GE252.out)))); have HO341 := am (Kd.R_lower ho1 (below_size (by repeat (with_reducible first | exact HB.out | refine belS ?_ | refine below_set ?_ GE252.out)))); have HO344 := am (Kd.R_lower ho2 (below_size (by repeat (with_reducible first | exact HB.out | refine belS ?_ | refine below_set ?_ GE252.out)))); have HO347 := am (Kd.R_lower ho3 (below_size (by repeat (with_reducible first | exact HB.out | refine belS ?_ | refine below_set ?_ GE252.out)))); have HO350 := am (Kd.R_lower ho4 (below_size (by repeat (with_reducible first | exact HB.out | refine belS ?_ | refine below_set ?_ GE252.out)))); have HO353 := am (Kd.R_lower ho5 (below_size (by repeat (with_reducible first | exact HB.out | refine belS ?_ | refine below_set ?_ GE252.out)))); replace BK252 := am (blkB BK252.out hb); replace HB := am (below_step (by repeat (with_reducible first | exact HB.out | refine belS ?_ | refine below_set ?_ GE252.out)) hb); (try clear hb); (try clear hk); (try clear ho0); (try clear ho1); (try clear ho2); (try clear ho3); (try clear ho4); (try clear ho5); obtain ⟨z127_0, z127_1, z127_2, z127_3, z127_4, z127_5, z127_6, z127_7, z127_8, y127_0, y127_1, y127_2, y127_3, y127_4, y127_5, y127_6, y127_7, y127_8⟩ := box9 BK252.out; obtain ⟨Ao128, co128, eo128⟩ := Kd.R_slice HO338.out; subst eo128; obtain ⟨Ao129, co129, eo129⟩ := Kd.R_slice HO341.out; subst eo129; obtain ⟨Ao130, co130, eo130⟩ := Kd.R_slice HO344.out; subst eo130; obtain ⟨Ao131, co131, eo131⟩ := Kd.R_slice HO347.out; subst eo131; obtain ⟨Ao132, co132, eo132⟩ := Kd.R_slice HO350.out; subst eo132; obtain ⟨Ao133, co133, eo133⟩ := Kd.R_slice HO353.out; subst eo133))
            refine bodyPost_ret (results_ct rfl _ _ gb252 31 #[.int .u8 t333, .int .i64 t334, .int .i64 t335, .slice Ao128 t336.length co128, .slice Ao129 t339.length co129, .slice Ao130 t342.length co130, .slice Ao131 t345.length co131, .slice Ao132 t348.length co132, .slice Ao133 t351.length co133] (0, 0) _ rfl (by (repeat refine blkS ?_); apply put9; (repeat refine blkS ?_); exact BK252.out) Try.underlying31 rfl (by kernel_rfl)) rfl ?_
            exact ⟨_, _, _, _, _, _, by first | rfl | (simp [errW_none, errW_some] <;> rfl) | (simp [*, errW_none, errW_some] <;> rfl), by (repeat refine RS ?_); exact Kd.R_mono (Rfar9 (Kd.R_types HO338.out BK252.out (by decide)) (fun _ hk => hk.2)) (fun _ hk => trivial), by (repeat refine RS ?_); exact Kd.R_mono (Rfar9 (Kd.R_types HO341.out BK252.out (by decide)) (fun _ hk => hk.2)) (fun _ hk => trivial), by (repeat refine RS ?_); exact Kd.R_mono (Rfar9 (Kd.R_types HO344.out BK252.out (by decide)) (fun _ hk => hk.2)) (fun _ hk => trivial), by (repeat refine RS ?_); exact Kd.R_mono (Rfar9 (Kd.R_types HO347.out BK252.out (by decide)) (fun _ hk => hk.2)) (fun _ hk => trivial), by (repeat refine RS ?_); exact Kd.R_mono (Rfar9 (Kd.R_types HO350.out BK252.out (by decide)) (fun _ hk => hk.2)) (fun _ hk => trivial), by (repeat refine RS ?_); exact Kd.R_mono (Rfar9 (Kd.R_types HO353.out BK252.out (by decide)) (fun _ hk => hk.2)) (fun _ hk => trivial), by repeat (with_reducible first | exact HB.out | refine belS ?_ | refine below_set ?_ GE252.out)⟩
          ·rw [if_neg c93] at H
           have c93b0 : decide (a2_2 < (rd l1_4 0)) = false := decide_eq_false c93
           clear c93
           replace H := Option.bind_eq_some_iff.mp H
           obtain ⟨⟨t355, t356, t357, t358, t359⟩, A1340, H⟩ := H
           try dsimp only at H
           have A134 := am A1340
           clear A1340
           by_cases c135 : t358 = true
           ·subst c135
            rw [if_pos rfl] at H
            obtain ⟨y361, hy361⟩ : ∃ y_ : List (S55), y_ = (([(⟨0, (⟨1, (⟨t355, t356, t357⟩ : S43), 0, (⟨0, (⟨0, 0⟩ : S45), (⟨0, 0⟩ : S46)⟩ : S48)⟩ : S50)⟩ : S55)] : List (S55))) := ⟨_, rfl⟩
            replace H : ((task_Pend.f a1_0 a1_1 a1_2 l1_3 l1_4 l1_5 l1_6 l1_7 l1_8 y361).bind fun bt364 => (some (bt364.1, bt364.2.1, bt364.2.2.1, bt364.2.2.2.1, bt364.2.2.2.2.1, bt364.2.2.2.2.2.1, bt364.2.2.2.2.2.2.1, bt364.2.2.2.2.2.2.2.1, bt364.2.2.2.2.2.2.2.2.1, bt364.2.2.2.2.2.2.2.2.2))) = some (r1, r2, r3, r4, r5, r6, r7, r8, r9, r10) := by first | (rw [hy361]; with_reducible exact H) | (have H2_ := (Option.bind_some _ _).symm.trans H; rw [hy361]; with_reducible exact H2_) | (have H2_ := (Option.bind_some _ _).symm.trans H; with_reducible exact H2_) | with_reducible exact H | (rw [hy361]; exact H) | exact H
            have Ny361 := am hy361
            clear hy361
            replace H := Option.bind_eq_some_iff.mp H
            obtain ⟨⟨t364, t365, t366, t367, t370, t373, t376, t379, t382, t385⟩, A1360, H⟩ := H
            try dsimp only at H
            have A136 := am A1360
            clear A1360
            simp only [Option.some.injEq, Prod.mk.injEq] at H
            obtain ⟨rfl, rfl, rfl, rfl, rfl, rfl, rfl, rfl, rfl, rfl⟩ := H
            have hnb137 := NB250_249.out
            have hnc137 := NB249_250.out
            have hnb138 := NB250_251.out
            have hnc138 := NB251_250.out
            have hnb139 := NB250_252.out
            have hnc139 := NB252_250.out
            obtain ⟨z140_0, z140_1, z140_2, z140_3, z140_4, z140_5, z140_6, z140_7, z140_8, y140_0, y140_1, y140_2, y140_3, y140_4, y140_5, y140_6, y140_7, y140_8⟩ := box9 BK250.out
            have p256 : 0 ≤ (0 : Int) := (by omega)
            have q256 : 0 < (l1_4.length : Int) := of_decide_eq_true (by first | (with_reducible assumption) | assumption)
            obtain ⟨ad256, e256, hx256_0⟩ := Kd.at_int HR1_4.out 0 p256 q256
            cases e256
            have qi256 : (0 < l1_4.length) = True := eq_true (by omega)
            (try rw [show ((0 : Int)).toNat = 0 from rfl] at hx256_0)
            (try rw [Addr.add_zero'] at hx256_0)
            replace hx256_0 := (HB.out.cell (World.block_lt_of_cell? w _ hx256_0)).trans hx256_0
            replace p256 := eq_true p256
            replace q256 := eq_true q256
            have hnb141 := NB251_249.out
            have hnc141 := NB249_251.out
            have hnb142 := NB251_252.out
            have hnc142 := NB252_251.out
            obtain ⟨z143_0, z143_1, z143_2, z143_3, z143_4, z143_5, z143_6, z143_7, z143_8, z143_9, y143_0, y143_1, y143_2, y143_3, y143_4, y143_5, y143_6, y143_7, y143_8, y143_9⟩ := box10 BK251.out
            have hnb144 := NB249_252.out
            have hnc144 := NB252_249.out
            obtain ⟨z145_0, z145_1, z145_2, z145_3, z145_4, z145_5, z145_6, z145_7, z145_8, z145_9, y145_0, y145_1, y145_2, y145_3, y145_4, y145_5, y145_6, y145_7, y145_8, y145_9⟩ := box10 BK249.out
            go_wp2_with (first | ((with_reducible refine gate_callee (f := 15) rfl ?_); refine goesL_ (some 106) rfl rfl Try.func15 (by kernel_rfl) rfl #[.agg #[.int .u8 a0_0, .slice A0_1 l0_1.length c0_1, .slice A0_2 l0_2.length c0_2, .bool a0_3, .slice A0_4 l0_4.length c0_4, .int .u8 a0_5, .int .i64 a0_6, .int .i64 a0_7, .bool a0_8, .int .u8 a0_9], .agg #[.int .i64 a2_1, .int .i64 a2_2, .int .i64 a2_3]] rfl (by (try simp only [List.map_toArray, List.map_cons, List.map_nil]) <;> rfl) ?_; (with_reducible refine (filter_Project.calls a0_0 _ _ l0_1 _ _ l0_2 a0_3 _ _ l0_4 a0_5 a0_6 a0_7 a0_8 a0_9 a2_1 a2_2 a2_3 t355 t356 t357 true t359 _ ?side1 ?side2 ?side3 ?side4 ?side5 ?side6 A134.out).mono ?_); (case side1 => exact CB HR0_1.out HB.out); (case side2 => exact HC0_1.out); (case side3 => exact CB HR0_2.out HB.out); (case side4 => exact HC0_2.out); (case side5 => exact CB HR0_4.out HB.out); (case side6 => exact HC0_4.out); rintro e w146 ⟨rfl, hb⟩; refine ⟨_, rfl, ?_⟩; replace BK250 := am (blkB BK250.out hb); replace BK252 := am (blkB BK252.out hb); replace HB := am (below_step (by repeat (with_reducible first | exact HB.out | refine belS ?_ | refine below_set ?_ GE250.out | refine below_set ?_ GE252.out)) hb); (try clear hb); (try clear hk)) | ((with_reducible refine gate_dst (N := 10) rfl ?_); refine box_event ?hg (N := 10) ?hd (cs := #[.int .i64 0, .int .i64 0, .int .i64 0]) (t := 43) ?hr ?_; (case hd => rfl); (case hg => rfl); (case hr => go_simp <;> rfl); intro gb360 hg w147 hbox hb; have BK360 := am (hbox); have GE360 := am ((by rw [hg]; exact (below_size (by repeat (with_reducible first | exact HB.out | refine belS ?_ | refine below_set ?_ GE250.out | refine below_set ?_ GE252.out))) : w.heap.size ≤ gb360)); have NB250_360 := am (blkN BK250.out hg); have NB360_250 := am (blkN BK250.out hg).symm; have NB252_360 := am (blkN BK252.out hg); have NB360_252 := am (blkN BK252.out hg).symm; replace BK250 := am (blkB BK250.out hb); replace BK252 := am (blkB BK252.out hb); replace HB := am (below_step (by repeat (with_reducible first | exact HB.out | refine belS ?_ | refine below_set ?_ GE250.out | refine below_set ?_ GE252.out)) hb); clear hb hbox hg; have hnb148 := NB360_250.out; have hnc148 := NB250_360.out; have hnb149 := NB360_252.out; have hnc149 := NB252_360.out; obtain ⟨z150_0, z150_1, z150_2, y150_0, y150_1, y150_2⟩ := box3 BK360.out; obtain ⟨z151_0, z151_1, z151_2, z151_3, z151_4, z151_5, z151_6, z151_7, z151_8, y151_0, y151_1, y151_2, y151_3, y151_4, y151_5, y151_6, y151_7, y151_8⟩ := box9 BK250.out) | ((with_reducible refine gate_dst (N := 120) rfl ?_); refine Kd.R_lit k55 _ 55 ?hg (N := 120) ?hd (xs := ([(⟨0, (⟨1, (⟨t355, t356, t357⟩ : S43), 0, (⟨0, (⟨0, 0⟩ : S45), (⟨0, 0⟩ : S46)⟩ : S48)⟩ : S50)⟩ : S55)] : List (S55))) (inner := [.int .i64 0, .int .u8 1, .int .i64 t355, .int .i64 t356, .int .i64 t357, .int .i64 0, .int .i64 0, .int .i64 0, .int .i64 0, .int .i64 0, .int .i64 0]) (ok := fun _ => True) (okp := fun _ => True) ?hr ?hp (fun _ hk => hk) trivial (Below.refl _ _) (Nat.le_refl _) (by simp) ?_; (case hd => rfl); (case hg => rfl); (case hr => go_simp <;> rfl); (case hp => exact (Reps.front (show Kd.M k55 _ _ _ (⟨0, (⟨1, (⟨t355, t356, t357⟩ : S43), 0, (⟨0, (⟨0, 0⟩ : S45), (⟨0, 0⟩ : S46)⟩ : S48)⟩ : S50)⟩ : S55) [.int .i64 0, .int .u8 1, .int .i64 t355, .int .i64 t356, .int .i64 t357, .int .i64 0, .int .i64 0, .int .i64 0, .int .i64 0, .int .i64 0, .int .i64 0] from (k55_mkM _ _ _ (⟨0, (⟨1, (⟨t355, t356, t357⟩ : S43), 0, (⟨0, (⟨0, 0⟩ : S45), (⟨0, 0⟩ : S46)⟩ : S48)⟩ : S50)⟩ : S55) )) rfl (Reps.none _ _) rfl)); intro v362 w152 ho153 hb hg_ hnew_; clear hg_ hnew_; (first | rw [← Ny361.out] at ho153 | (simp only [Int.reduceToNat] at ho153; rw [← Ny361.out] at ho153)); have HO363 := am (Kd.R_lower ho153 (below_size (by repeat (with_reducible first | exact HB.out | refine belS ?_ | refine below_set ?_ GE252.out | refine below_set ?_ GE360.out)))); replace BK252 := am (blk_below (by (repeat refine blkS ?_); apply far3 (hp := NB252_360.out); (repeat refine blkS ?_); exact BK252.out) hb); replace BK360 := am (blk_below (by (repeat refine blkS ?_); apply put3; (repeat refine blkS ?_); exact BK360.out) hb); replace HB := am (below_step (by repeat (with_reducible first | exact HB.out | refine belS ?_ | refine below_set ?_ GE252.out | refine below_set ?_ GE360.out)) hb); clear hb ho153; obtain ⟨Ao154, co154, eo154⟩ := Kd.R_slice HO363.out; subst eo154) | ((with_reducible refine gate_callee (f := 29) rfl ?_); refine goesL_ (some 121) rfl rfl Try.func29 (by kernel_rfl) rfl #[.agg #[.int .u8 a1_0, .int .i64 a1_1, .int .i64 a1_2, .slice A1_3 l1_3.length c1_3, .slice (some ad256) l1_4.length c1_4, .slice A1_5 l1_5.length c1_5, .slice A1_6 l1_6.length c1_6, .slice A1_7 l1_7.length c1_7, .slice A1_8 l1_8.length c1_8], .slice Ao154 y361.length co154] rfl (by (try simp only [List.map_toArray, List.map_cons, List.map_nil]) <;> rfl) ?_; (with_reducible refine (task_Pend.calls a1_0 a1_1 a1_2 _ _ l1_3 _ _ l1_4 _ _ l1_5 _ _ l1_6 _ _ l1_7 _ _ l1_8 _ _ y361 t364 t365 t366 t367 t370 t373 t376 t379 t382 t385 _ ?side1 ?side2 ?side3 ?side4 ?side5 ?side6 ?side7 ?side8 ?side9 ?side10 ?side11 ?side12 ?side13 ?side14 A136.out (by first | rfl | exact HRT.out | assumption | exact eq_of_beq (by assumption))).mono ?_); (case side1 => exact CB HR1_3.out HB.out); (case side2 => exact HC1_3.out); (case side3 => exact CB HR1_4.out HB.out); (case side4 => exact HC1_4.out); (case side5 => exact CB HR1_5.out HB.out); (case side6 => exact HC1_5.out); (case side7 => exact CB HR1_6.out HB.out); (case side8 => exact HC1_6.out); (case side9 => exact CB HR1_7.out HB.out); (case side10 => exact HC1_7.out); (case side11 => exact CB HR1_8.out HB.out); (case side12 => exact HC1_8.out); (case side13 => repeat (first | exact (Kd.R_reads' HO363.out).2.2 | (with_reducible refine Kd.C_alloc ?_ _) | (with_reducible refine Kd.C_drewN ?_ _) | (with_reducible refine Kd.C_drew ?_))); (case side14 => exact (Kd.R_reads' HO363.out).2.1); rintro e w155 ⟨v368, v371, v374, v377, v380, v383, rfl, ho0, ho1, ho2, ho3, ho4, ho5, hb⟩; refine ⟨_, rfl, ?_⟩; have HO369 := am (Kd.R_lower (Kd.R_new' ho0 (Kd.R_lt (by exact RL HO363.out))) (below_size (by repeat (with_reducible first | exact HB.out | refine belS ?_ | refine below_set ?_ GE252.out)))); have HO372 := am (Kd.R_lower ho1 (below_size (by repeat (with_reducible first | exact HB.out | refine belS ?_ | refine below_set ?_ GE252.out)))); have HO375 := am (Kd.R_lower ho2 (below_size (by repeat (with_reducible first | exact HB.out | refine belS ?_ | refine below_set ?_ GE252.out)))); have HO378 := am (Kd.R_lower ho3 (below_size (by repeat (with_reducible first | exact HB.out | refine belS ?_ | refine below_set ?_ GE252.out)))); have HO381 := am (Kd.R_lower ho4 (below_size (by repeat (with_reducible first | exact HB.out | refine belS ?_ | refine below_set ?_ GE252.out)))); have HO384 := am (Kd.R_lower ho5 (below_size (by repeat (with_reducible first | exact HB.out | refine belS ?_ | refine below_set ?_ GE252.out)))); replace HO363 := am (Kd.R_elder' (by exact RL HO363.out) (Kd.R_base ho0) hb); replace BK252 := am (blkB BK252.out hb); replace HB := am (below_step (by repeat (with_reducible first | exact HB.out | refine belS ?_ | refine below_set ?_ GE252.out)) hb); (try clear hb); (try clear hk); (try clear ho0); (try clear ho1); (try clear ho2); (try clear ho3); (try clear ho4); (try clear ho5); obtain ⟨z156_0, z156_1, z156_2, z156_3, z156_4, z156_5, z156_6, z156_7, z156_8, y156_0, y156_1, y156_2, y156_3, y156_4, y156_5, y156_6, y156_7, y156_8⟩ := box9 BK252.out; obtain ⟨Ao157, co157, eo157⟩ := Kd.R_slice HO369.out; subst eo157; obtain ⟨Ao158, co158, eo158⟩ := Kd.R_slice HO372.out; subst eo158; obtain ⟨Ao159, co159, eo159⟩ := Kd.R_slice HO375.out; subst eo159; obtain ⟨Ao160, co160, eo160⟩ := Kd.R_slice HO378.out; subst eo160; obtain ⟨Ao161, co161, eo161⟩ := Kd.R_slice HO381.out; subst eo161; obtain ⟨Ao162, co162, eo162⟩ := Kd.R_slice HO384.out; subst eo162))
            refine bodyPost_ret (results_ct rfl _ _ gb252 31 #[.int .u8 t364, .int .i64 t365, .int .i64 t366, .slice Ao157 t367.length co157, .slice Ao158 t370.length co158, .slice Ao159 t373.length co159, .slice Ao160 t376.length co160, .slice Ao161 t379.length co161, .slice Ao162 t382.length co162] (0, 0) _ rfl (by (repeat refine blkS ?_); apply put9; (repeat refine blkS ?_); exact BK252.out) Try.underlying31 rfl (by kernel_rfl)) rfl ?_
            exact ⟨_, _, _, _, _, _, by first | rfl | (simp [errW_none, errW_some] <;> rfl) | (simp [*, errW_none, errW_some] <;> rfl), by (repeat refine RS ?_); exact Kd.R_mono (Rfar9 (Kd.R_types HO369.out BK252.out (by decide)) (fun _ hk => hk.2)) (fun _ hk => trivial), by (repeat refine RS ?_); exact Kd.R_mono (Rfar9 (Kd.R_types HO372.out BK252.out (by decide)) (fun _ hk => hk.2)) (fun _ hk => trivial), by (repeat refine RS ?_); exact Kd.R_mono (Rfar9 (Kd.R_types HO375.out BK252.out (by decide)) (fun _ hk => hk.2)) (fun _ hk => trivial), by (repeat refine RS ?_); exact Kd.R_mono (Rfar9 (Kd.R_types HO378.out BK252.out (by decide)) (fun _ hk => hk.2)) (fun _ hk => trivial), by (repeat refine RS ?_); exact Kd.R_mono (Rfar9 (Kd.R_types HO381.out BK252.out (by decide)) (fun _ hk => hk.2)) (fun _ hk => trivial), by (repeat refine RS ?_); exact Kd.R_mono (Rfar9 (Kd.R_types HO384.out BK252.out (by decide)) (fun _ hk => hk.2)) (fun _ hk => trivial), by repeat (with_reducible first | exact HB.out | refine belS ?_ | refine below_set ?_ GE252.out)⟩
           ·replace c135 := Bool.eq_false_iff.mpr c135
            subst c135
            rw [if_neg (show ¬ (false = true) by decide)] at H
            replace H := Option.bind_eq_some_iff.mp H
            obtain ⟨⟨t386, t387, t388, t389, t392, t395, t398, t401, t404, t407⟩, A1630, H⟩ := H
            try dsimp only at H
            have A163 := am A1630
            clear A1630
            simp only [Option.some.injEq, Prod.mk.injEq] at H
            obtain ⟨rfl, rfl, rfl, rfl, rfl, rfl, rfl, rfl, rfl, rfl⟩ := H
            have hnb164 := NB250_249.out
            have hnc164 := NB249_250.out
            have hnb165 := NB250_251.out
            have hnc165 := NB251_250.out
            have hnb166 := NB250_252.out
            have hnc166 := NB252_250.out
            obtain ⟨z167_0, z167_1, z167_2, z167_3, z167_4, z167_5, z167_6, z167_7, z167_8, y167_0, y167_1, y167_2, y167_3, y167_4, y167_5, y167_6, y167_7, y167_8⟩ := box9 BK250.out
            have p256 : 0 ≤ (0 : Int) := (by omega)
            have q256 : 0 < (l1_4.length : Int) := of_decide_eq_true (by first | (with_reducible assumption) | assumption)
            obtain ⟨ad256, e256, hx256_0⟩ := Kd.at_int HR1_4.out 0 p256 q256
            cases e256
            have qi256 : (0 < l1_4.length) = True := eq_true (by omega)
            (try rw [show ((0 : Int)).toNat = 0 from rfl] at hx256_0)
            (try rw [Addr.add_zero'] at hx256_0)
            replace hx256_0 := (HB.out.cell (World.block_lt_of_cell? w _ hx256_0)).trans hx256_0
            replace p256 := eq_true p256
            replace q256 := eq_true q256
            have hnb168 := NB251_249.out
            have hnc168 := NB249_251.out
            have hnb169 := NB251_252.out
            have hnc169 := NB252_251.out
            obtain ⟨z170_0, z170_1, z170_2, z170_3, z170_4, z170_5, z170_6, z170_7, z170_8, z170_9, y170_0, y170_1, y170_2, y170_3, y170_4, y170_5, y170_6, y170_7, y170_8, y170_9⟩ := box10 BK251.out
            have hnb171 := NB249_252.out
            have hnc171 := NB252_249.out
            obtain ⟨z172_0, z172_1, z172_2, z172_3, z172_4, z172_5, z172_6, z172_7, z172_8, z172_9, y172_0, y172_1, y172_2, y172_3, y172_4, y172_5, y172_6, y172_7, y172_8, y172_9⟩ := box10 BK249.out
            go_wp2_with (first | ((with_reducible refine gate_callee (f := 15) rfl ?_); refine goesL_ (some 106) rfl rfl Try.func15 (by kernel_rfl) rfl #[.agg #[.int .u8 a0_0, .slice A0_1 l0_1.length c0_1, .slice A0_2 l0_2.length c0_2, .bool a0_3, .slice A0_4 l0_4.length c0_4, .int .u8 a0_5, .int .i64 a0_6, .int .i64 a0_7, .bool a0_8, .int .u8 a0_9], .agg #[.int .i64 a2_1, .int .i64 a2_2, .int .i64 a2_3]] rfl (by (try simp only [List.map_toArray, List.map_cons, List.map_nil]) <;> rfl) ?_; (with_reducible refine (filter_Project.calls a0_0 _ _ l0_1 _ _ l0_2 a0_3 _ _ l0_4 a0_5 a0_6 a0_7 a0_8 a0_9 a2_1 a2_2 a2_3 t355 t356 t357 false t359 _ ?side1 ?side2 ?side3 ?side4 ?side5 ?side6 A134.out).mono ?_); (case side1 => exact CB HR0_1.out HB.out); (case side2 => exact HC0_1.out); (case side3 => exact CB HR0_2.out HB.out); (case side4 => exact HC0_2.out); (case side5 => exact CB HR0_4.out HB.out); (case side6 => exact HC0_4.out); rintro e w173 ⟨rfl, hb⟩; refine ⟨_, rfl, ?_⟩; replace BK250 := am (blkB BK250.out hb); replace BK252 := am (blkB BK252.out hb); replace HB := am (below_step (by repeat (with_reducible first | exact HB.out | refine belS ?_ | refine below_set ?_ GE250.out | refine below_set ?_ GE252.out)) hb); (try clear hb); (try clear hk)) | ((with_reducible refine gate_dst (N := 10) rfl ?_); refine box_event ?hg (N := 10) ?hd (cs := #[.int .i64 0, .int .i64 0, .int .i64 0]) (t := 43) ?hr ?_; (case hd => rfl); (case hg => rfl); (case hr => go_simp <;> rfl); intro gb360 hg w174 hbox hb; have BK360 := am (hbox); have GE360 := am ((by rw [hg]; exact (below_size (by repeat (with_reducible first | exact HB.out | refine belS ?_ | refine below_set ?_ GE250.out | refine below_set ?_ GE252.out))) : w.heap.size ≤ gb360)); have NB250_360 := am (blkN BK250.out hg); have NB360_250 := am (blkN BK250.out hg).symm; have NB252_360 := am (blkN BK252.out hg); have NB360_252 := am (blkN BK252.out hg).symm; replace BK250 := am (blkB BK250.out hb); replace BK252 := am (blkB BK252.out hb); replace HB := am (below_step (by repeat (with_reducible first | exact HB.out | refine belS ?_ | refine below_set ?_ GE250.out | refine below_set ?_ GE252.out)) hb); clear hb hbox hg; have hnb175 := NB360_250.out; have hnc175 := NB250_360.out; have hnb176 := NB360_252.out; have hnc176 := NB252_360.out; obtain ⟨z177_0, z177_1, z177_2, y177_0, y177_1, y177_2⟩ := box3 BK360.out; obtain ⟨z178_0, z178_1, z178_2, z178_3, z178_4, z178_5, z178_6, z178_7, z178_8, y178_0, y178_1, y178_2, y178_3, y178_4, y178_5, y178_6, y178_7, y178_8⟩ := box9 BK250.out) | ((with_reducible refine gate_callee (f := 29) rfl ?_); refine goesL_ (some 113) rfl rfl Try.func29 (by kernel_rfl) rfl #[.agg #[.int .u8 a1_0, .int .i64 a1_1, .int .i64 a1_2, .slice A1_3 l1_3.length c1_3, .slice (some ad256) l1_4.length c1_4, .slice A1_5 l1_5.length c1_5, .slice A1_6 l1_6.length c1_6, .slice A1_7 l1_7.length c1_7, .slice A1_8 l1_8.length c1_8], .slice none 0 0] rfl (by (try simp only [List.map_toArray, List.map_cons, List.map_nil]) <;> rfl) ?_; (refine (task_Pend.calls a1_0 a1_1 a1_2 _ _ l1_3 _ _ l1_4 _ _ l1_5 _ _ l1_6 _ _ l1_7 _ _ l1_8 _ _ ([] : List (S55)) t386 t387 t388 t389 t392 t395 t398 t401 t404 t407 _ ?side1 ?side2 ?side3 ?side4 ?side5 ?side6 ?side7 ?side8 ?side9 ?side10 ?side11 ?side12 ?side13 ?side14 A163.out (by first | rfl | exact HRT.out | assumption | exact eq_of_beq (by assumption))).mono ?_); (case side1 => exact Kd.C_below HR1_3.out (by repeat (with_reducible first | exact HB.out | refine belS ?_ | refine below_set ?_ GE252.out | refine below_set ?_ GE360.out))); (case side2 => exact HC1_3.out); (case side3 => exact Kd.C_below HR1_4.out (by repeat (with_reducible first | exact HB.out | refine belS ?_ | refine below_set ?_ GE252.out | refine below_set ?_ GE360.out))); (case side4 => exact HC1_4.out); (case side5 => exact Kd.C_below HR1_5.out (by repeat (with_reducible first | exact HB.out | refine belS ?_ | refine below_set ?_ GE252.out | refine below_set ?_ GE360.out))); (case side6 => exact HC1_5.out); (case side7 => exact Kd.C_below HR1_6.out (by repeat (with_reducible first | exact HB.out | refine belS ?_ | refine below_set ?_ GE252.out | refine below_set ?_ GE360.out))); (case side8 => exact HC1_6.out); (case side9 => exact Kd.C_below HR1_7.out (by repeat (with_reducible first | exact HB.out | refine belS ?_ | refine below_set ?_ GE252.out | refine below_set ?_ GE360.out))); (case side10 => exact HC1_7.out); (case side11 => exact Kd.C_below HR1_8.out (by repeat (with_reducible first | exact HB.out | refine belS ?_ | refine below_set ?_ GE252.out | refine below_set ?_ GE360.out))); (case side12 => exact HC1_8.out); (case side13 => exact Kd.C_nil _ _); (case side14 => exact Nat.le_refl _); rintro e w179 ⟨v390, v393, v396, v399, v402, v405, rfl, ho0, ho1, ho2, ho3, ho4, ho5, hb⟩; refine ⟨_, rfl, ?_⟩; have HO391 := am (Kd.R_lower ho0 (below_size (by repeat (with_reducible first | exact HB.out | refine belS ?_ | refine below_set ?_ GE252.out | refine below_set ?_ GE360.out)))); have HO394 := am (Kd.R_lower ho1 (below_size (by repeat (with_reducible first | exact HB.out | refine belS ?_ | refine below_set ?_ GE252.out | refine below_set ?_ GE360.out)))); have HO397 := am (Kd.R_lower ho2 (below_size (by repeat (with_reducible first | exact HB.out | refine belS ?_ | refine below_set ?_ GE252.out | refine below_set ?_ GE360.out)))); have HO400 := am (Kd.R_lower ho3 (below_size (by repeat (with_reducible first | exact HB.out | refine belS ?_ | refine below_set ?_ GE252.out | refine below_set ?_ GE360.out)))); have HO403 := am (Kd.R_lower ho4 (below_size (by repeat (with_reducible first | exact HB.out | refine belS ?_ | refine below_set ?_ GE252.out | refine below_set ?_ GE360.out)))); have HO406 := am (Kd.R_lower (Kd.R_newB ho5 (g := gb360) (o := .cells #[.int .i64 t355, .int .i64 t356, .int .i64 t357] 43 (0, 0)) (by (repeat refine blkS ?_); apply put3; (repeat refine blkS ?_); exact BK360.out)) (below_size (by repeat (with_reducible first | exact HB.out | refine belS ?_ | refine below_set ?_ GE252.out | refine below_set ?_ GE360.out)))); replace BK252 := am (blk_below (by (repeat refine blkS ?_); apply far3 (hp := NB252_360.out); (repeat refine blkS ?_); exact BK252.out) hb); replace BK360 := am (blk_below (by (repeat refine blkS ?_); apply put3; (repeat refine blkS ?_); exact BK360.out) hb); replace HB := am (below_step (by repeat (with_reducible first | exact HB.out | refine belS ?_ | refine below_set ?_ GE252.out | refine below_set ?_ GE360.out)) hb); (try clear hb); (try clear hk); (try clear ho0); (try clear ho1); (try clear ho2); (try clear ho3); (try clear ho4); (try clear ho5); obtain ⟨z180_0, z180_1, z180_2, z180_3, z180_4, z180_5, z180_6, z180_7, z180_8, y180_0, y180_1, y180_2, y180_3, y180_4, y180_5, y180_6, y180_7, y180_8⟩ := box9 BK252.out; obtain ⟨Ao181, co181, eo181⟩ := Kd.R_slice HO391.out; subst eo181; obtain ⟨Ao182, co182, eo182⟩ := Kd.R_slice HO394.out; subst eo182; obtain ⟨Ao183, co183, eo183⟩ := Kd.R_slice HO397.out; subst eo183; obtain ⟨Ao184, co184, eo184⟩ := Kd.R_slice HO400.out; subst eo184; obtain ⟨Ao185, co185, eo185⟩ := Kd.R_slice HO403.out; subst eo185; obtain ⟨Ao186, co186, eo186⟩ := Kd.R_slice HO406.out; subst eo186))
            refine bodyPost_ret (results_ct rfl _ _ gb252 31 #[.int .u8 t386, .int .i64 t387, .int .i64 t388, .slice Ao181 t389.length co181, .slice Ao182 t392.length co182, .slice Ao183 t395.length co183, .slice Ao184 t398.length co184, .slice Ao185 t401.length co185, .slice Ao186 t404.length co186] (0, 0) _ rfl (by (repeat refine blkS ?_); apply put9; (repeat refine blkS ?_); exact BK252.out) Try.underlying31 rfl (by kernel_rfl)) rfl ?_
            exact ⟨_, _, _, _, _, _, by first | rfl | (simp [errW_none, errW_some] <;> rfl) | (simp [*, errW_none, errW_some] <;> rfl), by (repeat refine RS ?_); exact Kd.R_mono (Rfar9 (Kd.R_types HO391.out BK252.out (by decide)) (fun _ hk => hk.2)) (fun _ hk => trivial), by (repeat refine RS ?_); exact Kd.R_mono (Rfar9 (Kd.R_types HO394.out BK252.out (by decide)) (fun _ hk => hk.2)) (fun _ hk => trivial), by (repeat refine RS ?_); exact Kd.R_mono (Rfar9 (Kd.R_types HO397.out BK252.out (by decide)) (fun _ hk => hk.2)) (fun _ hk => trivial), by (repeat refine RS ?_); exact Kd.R_mono (Rfar9 (Kd.R_types HO400.out BK252.out (by decide)) (fun _ hk => hk.2)) (fun _ hk => trivial), by (repeat refine RS ?_); exact Kd.R_mono (Rfar9 (Kd.R_types HO403.out BK252.out (by decide)) (fun _ hk => hk.2)) (fun _ hk => trivial), by (repeat refine RS ?_); exact Kd.R_mono (Rfar9 (Kd.R_types HO406.out BK252.out (by decide)) (fun _ hk => hk.2)) (fun _ hk => trivial), by repeat (with_reducible first | exact HB.out | refine belS ?_ | refine below_set ?_ GE252.out)⟩
        ·rw [if_neg c46] at H
         exact absurd H (by simp)
   ·rw [if_neg c8] at H
    have c8b0 : (a1_0 == 2) = false := beq_eq_false_iff_ne.mpr c8
    have c8b1 : (a1_0 != 2) = true := bne_iff_ne.mpr c8
    simp only [Option.some.injEq, Prod.mk.injEq] at H
    obtain ⟨-, -, -, -, -, -, -, -, -, H⟩ := H
    have hrt := HRT.out
    rw [← H] at hrt
    first | exact absurd hrt (by decide) | exact absurd hrt (by assumption)
  ·rw [if_neg c7] at H
   have c7b0 : (t254 == 0) = false := beq_eq_false_iff_ne.mpr c7
   have c7b1 : (t254 != 0) = true := bne_iff_ne.mpr c7
   simp only [Option.some.injEq, Prod.mk.injEq] at H
   obtain ⟨-, -, -, -, -, -, -, -, -, H⟩ := H
   have hrt := HRT.out
   rw [← H] at hrt
   first | exact absurd hrt (by decide) | exact absurd hrt (by assumption)
 ·replace c5 := Bool.eq_false_iff.mpr c5
  subst c5
  rw [if_neg (show ¬ (false = true) by decide)] at H
  simp only [Option.some.injEq, Prod.mk.injEq] at H
  obtain ⟨-, -, -, -, -, -, -, -, -, H⟩ := H
  have hrt := HRT.out
  rw [← H] at hrt
  first | exact absurd hrt (by decide) | exact absurd hrt (by assumption)

end Go.Proofs.Ytcdgohoinmbpfaa.M
