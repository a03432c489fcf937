-- Written by a program of this session (wip/tools/print2.sh): functions as plain Lean, and that the machine's calls do what they say.
import Derived.Test.YtpfnnamicbbobaaPAllx0
import Derived.Test.YtpfnnamicbbobaaPAllx1
import Derived.Test.YtpfnnamicbbobaaPAllx7
import Derived.Test.YtpfnnamicbbobaaPAllx8
import Derived.Test.YtpfnnamicbbobaaPAllx9
namespace Go.Proofs.Ytpfnnamicbbobaa.PAll
open Go.RowKit Go.Proofs.YtpfnnamicbbobaaW.PrintWords Go.Proofs.YtpfnnamicbbobaaW.PrintLast Go.Proofs.YtpfnnamicbbobaaW.PrintMore
attribute [local go_sem] max2_int min2_int max_two min_two max_three min_three max_four min_four   -- for this text's walks alone
set_option linter.unusedVariables false
set_option linter.unusedSimpArgs false

attribute [local go_sem high] eqA28
/-! ### tontinelaw18_KindWords: function 5 -/
mutual
def tontinelaw18_KindWords.j0 : Nat → List (S56) → List (S59) → Int → List ByteArray → Bool → ByteArray → Int → Int → Int → Option (Bool)
 | 0, _, _, _, _, _, _, _, _, _ => none
 | k + 1, x0, x1, x7, x9, x51, x290000, x290001, x295000, x295001 => if x51 = true then (some (x7 == 0)) else (tontinelaw18_KindWords.l0 k x0 x1 x7 x9 (([] : List (S59))) (([] : List (S59))) (wrap64 ((x1.length : Int) - 1)) x290000 x290001 x295000 x295001)
def tontinelaw18_KindWords.l0 : Nat → List (S56) → List (S59) → Int → List ByteArray → List (S59) → List (S59) → Int → ByteArray → Int → Int → Int → Option (Bool)
 | 0, _, _, _, _, _, _, _, _, _, _, _ => none
 | k + 1, x0, x1, x7, x9, x11, x12, x13, x290000, x290001, x295000, x295001 => if x13 ≥ 0 then (tontinelaw18_KindWords.l1 k x0 x1 x7 x9 x11 x12 x13 false x11 (x11.length : Int) 0 x290000 x290001 x295000 x295001) else ((kind_Of.f k x0 x11).bind fun bt324 => ((kind_Of.f k x0 x12).bind fun bt328 => (if x7 = bt324.1 then (if (!(x295000 == bt324.2.1) || (!(x295001 == bt324.2.2))) = true then (tontinelaw18_KindWords.j4 k x0 x1 x7 x9 true x290000 x290001 x295000 x295001) else (if x7 = bt328.1 then (tontinelaw18_KindWords.j4 k x0 x1 x7 x9 (!(x295000 == bt328.2.1) || (!(x295001 == bt328.2.2))) x290000 x290001 x295000 x295001) else (tontinelaw18_KindWords.j4 k x0 x1 x7 x9 true x290000 x290001 x295000 x295001))) else (tontinelaw18_KindWords.j4 k x0 x1 x7 x9 true x290000 x290001 x295000 x295001))))
def tontinelaw18_KindWords.l1 : Nat → List (S56) → List (S59) → Int → List ByteArray → List (S59) → List (S59) → Int → Bool → List (S59) → Int → Int → ByteArray → Int → Int → Int → Option (Bool)
 | 0, _, _, _, _, _, _, _, _, _, _, _, _, _, _, _ => none
 | k + 1, x0, x1, x7, x9, x11, x12, x13, x14, x63, x64, x65, x290000, x290001, x295000, x295001 => if x65 < x64 then (if 0 ≤ x65 then (if x65 < (x63.length : Int) then (if x14 = true then (tontinelaw18_KindWords.l1 k x0 x1 x7 x9 x11 x12 x13 true x63 x64 (wrap64 (x65 + 1)) x290000 x290001 x295000 x295001) else (if 0 ≤ x13 then (if x13 < (x1.length : Int) then (tontinelaw18_KindWords.l1 k x0 x1 x7 x9 x11 x12 x13 (((rd_T59 x63 x65).f0).toList == ((rd_T59 x1 x13).f0).toList) x63 x64 (wrap64 (x65 + 1)) x290000 x290001 x295000 x295001) else (none)) else (none))) else (none)) else (none)) else (if x14 = true then (tontinelaw18_KindWords.l0 k x0 x1 x7 x9 x11 x12 (wrap64 (x13 - 1)) x290000 x290001 x295000 x295001) else (if 0 ≤ x13 then (if x13 < (x1.length : Int) then ((some (([(⟨(rd_T59 x1 x13).f0, (rd_T59 x1 x13).f1⟩ : S59)] : List (S59)) : List (S59))).bind fun y309 => (if x11.length + y309.length < 5864062014805 then (tontinelaw18_KindWords.l2 k x0 x1 x7 x9 (x11 ++ y309) x12 x13 x9 (x9.length : Int) 0 x290000 x290001 x295000 x295001) else (none))) else (none)) else (none)))
def tontinelaw18_KindWords.l2 : Nat → List (S56) → List (S59) → Int → List ByteArray → List (S59) → List (S59) → Int → List ByteArray → Int → Int → ByteArray → Int → Int → Int → Option (Bool)
 | 0, _, _, _, _, _, _, _, _, _, _, _, _, _, _ => none
 | k + 1, x0, x1, x7, x9, x11, x12, x13, x89, x90, x91, x290000, x290001, x295000, x295001 => if x91 < x90 then (if 0 ≤ x91 then (if x91 < (x89.length : Int) then (if 0 ≤ x13 then (if x13 < (x1.length : Int) then (if (rdOf ByteArray.empty x89 x91).toList = ((rd_T59 x1 x13).f0).toList then ((some (([(⟨(rd_T59 x1 x13).f0, (rd_T59 x1 x13).f1⟩ : S59)] : List (S59)) : List (S59))).bind fun y318 => (if x12.length + y318.length < 5864062014805 then (tontinelaw18_KindWords.l2 k x0 x1 x7 x9 x11 (x12 ++ y318) x13 x89 x90 (wrap64 (x91 + 1)) x290000 x290001 x295000 x295001) else (none))) else (tontinelaw18_KindWords.l2 k x0 x1 x7 x9 x11 x12 x13 x89 x90 (wrap64 (x91 + 1)) x290000 x290001 x295000 x295001)) else (none)) else (none)) else (none)) else (none)) else (tontinelaw18_KindWords.l0 k x0 x1 x7 x9 x11 x12 (wrap64 (x13 - 1)) x290000 x290001 x295000 x295001)
def tontinelaw18_KindWords.j4 : Nat → List (S56) → List (S59) → Int → List ByteArray → Bool → ByteArray → Int → Int → Int → Option (Bool)
 | 0, _, _, _, _, _, _, _, _, _ => none
 | k + 1, x0, x1, x7, x9, x139, x290000, x290001, x295000, x295001 => if x139 = true then (some false) else (tontinelaw18_KindWords.l3 k x0 x1 x7 x9 (x9.length : Int) 0 x290000 x290001 x295000 x295001)
def tontinelaw18_KindWords.l3 : Nat → List (S56) → List (S59) → Int → List ByteArray → Int → Int → ByteArray → Int → Int → Int → Option (Bool)
 | 0, _, _, _, _, _, _, _, _, _, _ => none
 | k + 1, x0, x1, x7, x140, x141, x142, x290000, x290001, x295000, x295001 => if x142 < x141 then (if 0 ≤ x142 then (if x142 < (x140.length : Int) then (if (rdOf ByteArray.empty x140 x142).toList = x290000.toList then (some true) else (tontinelaw18_KindWords.l3 k x0 x1 x7 x140 x141 (wrap64 (x142 + 1)) x290000 x290001 x295000 x295001)) else (none)) else (none)) else ((some (([] : List (S59)) : List (S59))).bind fun y333 => (if y333.length + x1.length < 5864062014805 then ((some (y333 ++ x1 : List (S59))).bind fun y336 => ((some (([(⟨x290000, x290001⟩ : S59)] : List (S59)) : List (S59))).bind fun y339 => (if y336.length + y339.length < 5864062014805 then ((kind_Of.f k x0 (y336 ++ y339)).bind fun bt345 => (if x7 = bt345.1 then (if (x295000 == bt345.2.1 && (x295001 == bt345.2.2)) = true then (some true) else (if bt345.1 = 0 then (if bt345.2.2 = 5 then (some true) else (some (bt345.2.2 == 3))) else (some false))) else (if bt345.1 = 0 then (if bt345.2.2 = 5 then (some true) else (some (bt345.2.2 == 3))) else (some false)))) else (none)))) else (none)))
end
def tontinelaw18_KindWords.f (k : Nat) (l0 : List (S56)) (l1 : List (S59)) (a2_0 : ByteArray) (a2_1 : Int) : Option (Bool) := (tontinelaw18_works.f k).bind fun t290 => (if t290 = true then ((kind_Of.f k l0 l1).bind fun bt291 => ((kind_Uses.f k l0).bind fun bt295 => (if bt295.2 = 0 then (if bt291.2.2 = 3 then (tontinelaw18_KindWords.j0 k l0 l1 bt291.1 bt295.1 true a2_0 a2_1 bt291.2.1 bt291.2.2) else (tontinelaw18_KindWords.j0 k l0 l1 bt291.1 bt295.1 (bt291.2.2 == 5) a2_0 a2_1 bt291.2.1 bt291.2.2)) else (tontinelaw18_KindWords.j0 k l0 l1 bt291.1 bt295.1 true a2_0 a2_1 bt291.2.1 bt291.2.2)))) else (some false))
theorem tontinelaw18_KindWords.mono_l : ∀ k, (∀ y0 y1 y2 y3 y4 y5 y6 y7 y8, LeO (tontinelaw18_KindWords.j0 k y0 y1 y2 y3 y4 y5 y6 y7 y8) (tontinelaw18_KindWords.j0 (k + 1) y0 y1 y2 y3 y4 y5 y6 y7 y8)) ∧ (∀ y0 y1 y2 y3 y4 y5 y6 y7 y8 y9 y10, LeO (tontinelaw18_KindWords.l0 k y0 y1 y2 y3 y4 y5 y6 y7 y8 y9 y10) (tontinelaw18_KindWords.l0 (k + 1) y0 y1 y2 y3 y4 y5 y6 y7 y8 y9 y10)) ∧ (∀ y0 y1 y2 y3 y4 y5 y6 y7 y8 y9 y10 y11 y12 y13 y14, LeO (tontinelaw18_KindWords.l1 k y0 y1 y2 y3 y4 y5 y6 y7 y8 y9 y10 y11 y12 y13 y14) (tontinelaw18_KindWords.l1 (k + 1) y0 y1 y2 y3 y4 y5 y6 y7 y8 y9 y10 y11 y12 y13 y14)) ∧ (∀ y0 y1 y2 y3 y4 y5 y6 y7 y8 y9 y10 y11 y12 y13, LeO (tontinelaw18_KindWords.l2 k y0 y1 y2 y3 y4 y5 y6 y7 y8 y9 y10 y11 y12 y13) (tontinelaw18_KindWords.l2 (k + 1) y0 y1 y2 y3 y4 y5 y6 y7 y8 y9 y10 y11 y12 y13)) ∧ (∀ y0 y1 y2 y3 y4 y5 y6 y7 y8, LeO (tontinelaw18_KindWords.j4 k y0 y1 y2 y3 y4 y5 y6 y7 y8) (tontinelaw18_KindWords.j4 (k + 1) y0 y1 y2 y3 y4 y5 y6 y7 y8)) ∧ (∀ y0 y1 y2 y3 y4 y5 y6 y7 y8 y9, LeO (tontinelaw18_KindWords.l3 k y0 y1 y2 y3 y4 y5 y6 y7 y8 y9) (tontinelaw18_KindWords.l3 (k + 1) y0 y1 y2 y3 y4 y5 y6 y7 y8 y9))
 | 0 => ⟨fun _ _ _ _ _ _ _ _ _ r h => by simp [tontinelaw18_KindWords.j0] at h, fun _ _ _ _ _ _ _ _ _ _ _ r h => by simp [tontinelaw18_KindWords.l0] at h, fun _ _ _ _ _ _ _ _ _ _ _ _ _ _ _ r h => by simp [tontinelaw18_KindWords.l1] at h, fun _ _ _ _ _ _ _ _ _ _ _ _ _ _ r h => by simp [tontinelaw18_KindWords.l2] at h, fun _ _ _ _ _ _ _ _ _ r h => by simp [tontinelaw18_KindWords.j4] at h, fun _ _ _ _ _ _ _ _ _ _ r h => by simp [tontinelaw18_KindWords.l3] at h⟩
 | k + 1 => by
  obtain ⟨ih0, ih1, ih2, ih3, ih4, ih5⟩ := tontinelaw18_KindWords.mono_l k
  refine ⟨?_, ?_, ?_, ?_, ?_, ?_⟩
  ·intro y0 y1 y2 y3 y4 y5 y6 y7 y8
   unfold tontinelaw18_KindWords.j0
   exact sq143
  ·intro y0 y1 y2 y3 y4 y5 y6 y7 y8 y9 y10
   unfold tontinelaw18_KindWords.l0
   exact sq143
  ·intro y0 y1 y2 y3 y4 y5 y6 y7 y8 y9 y10 y11 y12 y13 y14
   unfold tontinelaw18_KindWords.l1
   exact sq143
  ·intro y0 y1 y2 y3 y4 y5 y6 y7 y8 y9 y10 y11 y12 y13
   unfold tontinelaw18_KindWords.l2
   exact sq143
  ·intro y0 y1 y2 y3 y4 y5 y6 y7 y8
   unfold tontinelaw18_KindWords.j4
   exact sq143
  intro y0 y1 y2 y3 y4 y5 y6 y7 y8 y9
  unfold tontinelaw18_KindWords.l3
  exact sq143
theorem tontinelaw18_KindWords.mono : ∀ a0 a1 a2 a3 k, LeO (tontinelaw18_KindWords.f k a0 a1 a2 a3) (tontinelaw18_KindWords.f (k + 1) a0 a1 a2 a3) := by
 intro a0 a1 a2 a3 k
 obtain ⟨ih0, ih1, ih2, ih3, ih4, ih5⟩ := tontinelaw18_KindWords.mono_l k
 unfold tontinelaw18_KindWords.f
 exact sq143
def tontinelaw18_KindWords.T15 : Bool × List (List Nat × List Nat) := (true, [([], []), ([0], [0]), ([1], [1]), ([2, 1], [1, 2]), ([1], [1]), ([1], [1]), ([4, 5, 1], [1, 4, 5]), ([6, 1], [1, 6]), ([7, 1], [1, 7]), ([3, 8, 1], [1, 3, 8]), ([1, 9], [1, 9]), ([10, 1, 0, 1, 2, 3, 4, 5, 6, 7, 8, 9, 10], [0, 10])])
def tontinelaw18_KindWords.B15 : List Nat := [0, 1, 3, 7, 3, 3, 51, 115, 243, 511, 1023, 2047]
theorem tontinelaw18_KindWords.tab15 : rtab .any (opsOf Try.f5 15) = tontinelaw18_KindWords.T15 := by kernel_rfl
theorem tontinelaw18_KindWords.bits15 : waitsOk tontinelaw18_KindWords.T15.2 tontinelaw18_KindWords.B15 = true := by kernel_rfl
def tontinelaw18_KindWords.T35 : Bool × List (List Nat × List Nat) := (true, [([], []), ([], []), ([], []), ([1, 2], [1, 2]), ([], []), ([4], [4]), ([3, 5, 3], [3, 5]), ([0, 6, 6], [0, 6]), ([7], [7]), ([8], [8]), ([8], [8]), ([], []), ([9, 7, 0, 1, 2, 3, 4, 5, 6, 7, 8, 9, 11], [9]), ([11, 10, 12, 0, 1, 2, 3, 4, 5, 6, 7, 8, 9, 10, 11, 12], [10, 11])])
def tontinelaw18_KindWords.B35 : List Nat := [0, 0, 0, 6, 0, 16, 62, 127, 255, 511, 511, 0, 3071, 8191]
theorem tontinelaw18_KindWords.tab35 : rtab .any (opsOf Try.f5 35) = tontinelaw18_KindWords.T35 := by kernel_rfl
theorem tontinelaw18_KindWords.bits35 : waitsOk tontinelaw18_KindWords.T35.2 tontinelaw18_KindWords.B35 = true := by kernel_rfl
set_option maxHeartbeats 8000000 in
set_option maxRecDepth 100000 in
theorem tontinelaw18_KindWords.calls (k : Nat) (A0 : Option Addr) (c0 : Nat) (l0 : List (S56)) (A1 : Option Addr) (c1 : Nat) (l1 : List (S59)) (a2_0 : ByteArray) (a2_1 : Int) (r : Bool) (w : World) (hG : Glob w) (hr0 : Kd.C k56 w A0 l0.length l0) (hc0 : l0.length ≤ c0) (hr1 : Kd.C k59 w A1 l1.length l1) (hc1 : l1.length ≤ c1) (h : tontinelaw18_KindWords.f k l0 l1 a2_0 a2_1 = some r) :
  Calls Try.prog 5 #[.slice A0 l0.length c0, .slice A1 l1.length c1, .agg #[.string a2_0, .int .i64 a2_1]] w fun e w' => e = .returned (.bool r) ∧ Below w.heap.size w w' := by
 have hu59 := Try.underlying59
 have hu28 := Try.underlying28
 have HR0 := Aside0.mk hr0
 have HC0 := Aside0.mk hc0
 clear hr0 hc0
 have HR1 := Aside0.mk hr1
 have HC1 := Aside0.mk hc1
 clear hr1 hc1
 have HB := Aside0.mk (Below.refl w.heap.size w)
 have HG := Aside0.mk hG
 clear hG
 have H : ((tontinelaw18_works.f k).bind fun t290 => (if t290 = true then ((kind_Of.f k l0 l1).bind fun bt291 => ((kind_Uses.f k l0).bind fun bt295 => (if bt295.2 = 0 then (if bt291.2.2 = 3 then (tontinelaw18_KindWords.j0 k l0 l1 bt291.1 bt295.1 true a2_0 a2_1 bt291.2.1 bt291.2.2) else (tontinelaw18_KindWords.j0 k l0 l1 bt291.1 bt295.1 (bt291.2.2 == 5) a2_0 a2_1 bt291.2.1 bt291.2.2)) else (tontinelaw18_KindWords.j0 k l0 l1 bt291.1 bt295.1 true a2_0 a2_1 bt291.2.1 bt291.2.2)))) else (some false))) = some r := h
 clear h
 replace H := Option.bind_eq_some_iff.mp H
 obtain ⟨t290, A40, H⟩ := H
 replace H : (if t290 = true then ((kind_Of.f k l0 l1).bind fun bt291 => ((kind_Uses.f k l0).bind fun bt295 => (if bt295.2 = 0 then (if bt291.2.2 = 3 then (tontinelaw18_KindWords.j0 k l0 l1 bt291.1 bt295.1 true a2_0 a2_1 bt291.2.1 bt291.2.2) else (tontinelaw18_KindWords.j0 k l0 l1 bt291.1 bt295.1 (bt291.2.2 == 5) a2_0 a2_1 bt291.2.1 bt291.2.2)) else (tontinelaw18_KindWords.j0 k l0 l1 bt291.1 bt295.1 true a2_0 a2_1 bt291.2.1 bt291.2.2)))) else (some false)) = some r := H
 have A4 := Aside0.mk A40
 clear A40
 by_cases c5 : t290 = true
 ·subst c5
  replace H := (itT_ _ _).symm.trans H
  replace H := Option.bind_eq_some_iff.mp H
  obtain ⟨⟨t291, t292, t293⟩, A60, H⟩ := H
  replace H : ((kind_Uses.f k l0).bind fun bt295 => (if bt295.2 = 0 then (if t293 = 3 then (tontinelaw18_KindWords.j0 k l0 l1 t291 bt295.1 true a2_0 a2_1 t292 t293) else (tontinelaw18_KindWords.j0 k l0 l1 t291 bt295.1 (t293 == 5) a2_0 a2_1 t292 t293)) else (tontinelaw18_KindWords.j0 k l0 l1 t291 bt295.1 true a2_0 a2_1 t292 t293))) = some r := H
  have A6 := Aside0.mk A60
  clear A60
  replace H := Option.bind_eq_some_iff.mp H
  obtain ⟨⟨t295, t296⟩, A70, H⟩ := H
  replace H : (if t296 = 0 then (if t293 = 3 then (tontinelaw18_KindWords.j0 k l0 l1 t291 t295 true a2_0 a2_1 t292 t293) else (tontinelaw18_KindWords.j0 k l0 l1 t291 t295 (t293 == 5) a2_0 a2_1 t292 t293)) else (tontinelaw18_KindWords.j0 k l0 l1 t291 t295 true a2_0 a2_1 t292 t293)) = some r := H
  have A7 := Aside0.mk A70
  clear A70
  have HC8 := Aside0.mk H
  clear H
  go_enter Try.func5, Try.ntmps5
  go_upto_region 5 with (first | ((with_reducible refine gate_dst (N := 5) rfl ?_); refine box_event ?hg (N := 5) ?hd (cs := #[.string a2_0, .int .i64 a2_1]) (t := 59) ?hr ?_; (case hd => rfl); (case hg => rfl); (case hr => first | (go_simp; done) | (go_simp; rfl)); intro gb289 hg w9 hbox hb; have n0_ := Aside0.mk (below_step sq50 hb); have n1_ := Aside0.mk (hbox); have n2_ := Aside0.mk ((by rw [hg]; exact (below_size sq50) : w.heap.size ≤ gb289)); have n3_ := Aside0.mk ((by rw [hg]; exact (below_size sq50) : w.heap.size ≤ gb289)); clear HB; have HB := n0_; have BK289 := n1_; have GW289 := n2_; have GE289 := n3_; clear n0_ n1_ n2_ n3_; clear hb hbox hg) | ((with_reducible refine gate_callee (f := 20) rfl ?_); refine goesL_ (some 27) rfl rfl Try.func20 sq2 rfl #[] rfl sq51 ?_; (with_reducible refine (tontinelaw18_works.calls k  true _ ?side1 A4.out).mono ?_); (case side1 => exact Glob.below HG.out sq67); rintro e w10 ⟨rfl, hb⟩; refine ⟨_, rfl, ?_⟩; have n0_ := Aside0.mk (blk_below (g := gb289) (o := .cells #[.string a2_0, .int .i64 a2_1] 59 (0, 0)) sq45 hb); have n1_ := Aside0.mk (below_step sq67 hb); clear BK289; clear HB; have BK289 := n0_; have HB := n1_; clear n0_ n1_; (try clear hb); (try clear hb2); (try clear hk); (try clear hi)) | ((with_reducible refine gate_callee (f := 10) rfl ?_); refine goesL_ (some 32) rfl rfl Try.func10 sq2 rfl #[.slice A0 l0.length c0, .slice A1 l1.length c1] rfl sq51 ?_; (with_reducible refine (kind_Of.calls k _ _ l0 _ _ l1 t291 t292 t293 _ ?side5 ?side1 ?side2 ?side3 ?side4 A6.out).mono ?_); (case side1 => repeat (first | exact (Kd.C_below HR0.out HB.out) | (with_reducible refine Kd.C_alloc ?_ _) | (with_reducible refine Kd.C_drewN ?_ _) | (with_reducible refine Kd.C_drew ?_))); (case side2 => exact HC0.out); (case side3 => repeat (first | exact (Kd.C_below HR1.out HB.out) | (with_reducible refine Kd.C_alloc ?_ _) | (with_reducible refine Kd.C_drewN ?_ _) | (with_reducible refine Kd.C_drew ?_))); (case side4 => exact HC1.out); (case side5 => exact Glob.below HG.out sq67); rintro e w11 ⟨rfl, hb⟩; refine ⟨_, rfl, ?_⟩; have n0_ := Aside0.mk (blk_below (g := gb289) (o := .cells #[.string a2_0, .int .i64 a2_1] 59 (0, 0)) sq45 hb); have n1_ := Aside0.mk (below_step sq67 hb); clear BK289; clear HB; have BK289 := n0_; have HB := n1_; clear n0_ n1_; (try clear hb); (try clear hb2); (try clear hk); (try clear hi)) | ((with_reducible refine gate_dst (N := 8) rfl ?_); refine box_event ?hg (N := 8) ?hd (cs := #[.int .i64 0, .int .i64 0]) (t := 28) ?hr ?_; (case hd => rfl); (case hg => rfl); (case hr => first | (go_simp; done) | (go_simp; rfl)); intro gb294 hg w12 hbox hb; have n0_ := Aside0.mk (blk_below (g := gb289) (o := .cells #[.string a2_0, .int .i64 a2_1] 59 (0, 0)) sq45 hb); have n1_ := Aside0.mk (below_step sq67 hb); have n2_ := Aside0.mk (hbox); have n3_ := Aside0.mk ((by rw [hg]; exact (below_size sq67) : w.heap.size ≤ gb294)); have n4_ := Aside0.mk ((by rw [hg]; exact (below_size sq67) : w.heap.size ≤ gb294)); have n5_ := Aside0.mk ((by rw [hg]; exact Nat.ne_of_lt (blk_lt (g := gb289) (o := .cells #[.string a2_0, .int .i64 a2_1] 59 (0, 0)) sq45) : gb289 ≠ gb294)); have n6_ := Aside0.mk ((by rw [hg]; exact Nat.ne_of_gt (blk_lt (g := gb289) (o := .cells #[.string a2_0, .int .i64 a2_1] 59 (0, 0)) sq45) : gb294 ≠ gb289)); clear BK289; clear HB; have BK289 := n0_; have HB := n1_; have BK294 := n2_; have GW294 := n3_; have GE294 := n4_; have NB289_294 := n5_; have NB294_289 := n6_; clear n0_ n1_ n2_ n3_ n4_ n5_ n6_; clear hb hbox hg; have hnb13 := NB294_289.out; have hnc13 := NB289_294.out; have hcz14_0 : w12.cell? ⟨gb294, 0, none⟩ = some (.int .i64 0) := (blk_cell BK294.out 0).trans rfl; have hcz14_1 : w12.cell? ⟨gb294, 1, none⟩ = some (.int .i64 0) := (blk_cell BK294.out 1).trans rfl; have hfz14_0 := blk_frozen BK294.out 0; have hfz14_1 := blk_frozen BK294.out 1) | ((with_reducible refine gate_callee (f := 16) rfl ?_); refine goesL_ (some 37) rfl rfl Try.func16 sq2 rfl #[.slice A0 l0.length c0] rfl sq51 ?_; (with_reducible refine (kind_Uses.calls k _ _ l0 t295 t296 _ ?side3 ?side1 ?side2 A7.out).mono ?_); (case side1 => exact Kd.C_below HR0.out sq79); (case side2 => exact HC0.out); (case side3 => exact Glob.below HG.out sq79); rintro e w15 ⟨v297, rfl, ho0, hb⟩; refine ⟨_, rfl, ?_⟩; have n0_ := Aside0.mk (Kd.R_lower ho0 (below_size sq79)); have n1_ := Aside0.mk (blk_below (g := gb289) (o := .cells #[.string a2_0, .int .i64 a2_1] 59 (0, 0)) (by (with_reducible repeat (first | refine blk_drewN ?_ _ | refine blk_drew ?_ | refine blk_alloc ?_ _)); refine blk_far ?_ NB289_294.out _; (with_reducible repeat (first | refine blk_drewN ?_ _ | refine blk_drew ?_ | refine blk_alloc ?_ _)); refine blk_far ?_ NB289_294.out _; (with_reducible repeat (first | refine blk_drewN ?_ _ | refine blk_drew ?_ | refine blk_alloc ?_ _)); exact BK289.out) hb); have n2_ := Aside0.mk (blk_below (g := gb294) (o := .cells #[.int .i64 t292, .int .i64 t293] 28 (0, 0)) (by (with_reducible repeat (first | refine blk_drewN ?_ _ | refine blk_drew ?_ | refine blk_alloc ?_ _)); refine blk_put (cs := #[.int .i64 t292, .int .i64 0]) ?_ 1 _ rfl; (with_reducible repeat (first | refine blk_drewN ?_ _ | refine blk_drew ?_ | refine blk_alloc ?_ _)); refine blk_put (cs := #[.int .i64 0, .int .i64 0]) ?_ 0 _ rfl; (with_reducible repeat (first | refine blk_drewN ?_ _ | refine blk_drew ?_ | refine blk_alloc ?_ _)); exact BK294.out) hb); have n3_ := Aside0.mk (below_step sq79 hb); clear BK289; clear BK294; clear HB; have HO298 := n0_; have BK289 := n1_; have BK294 := n2_; have HB := n3_; clear n0_ n1_ n2_ n3_; (try clear hb); (try clear hb2); (try clear hk); (try clear hi); (try clear ho0)))
  (try simp only [Act.put, List.setIfInBounds_toArray, List.set_cons_zero, List.set_cons_succ])
  go_cut [51] (fun v51 wc => ∃ (kq : Nat) (x51_7 : Bool), v51 = .bool x51_7 ∧ Aside0 (tontinelaw18_KindWords.j0 kq l0 l1 t291 t295 x51_7 a2_0 a2_1 t292 t293 = some r) ∧ Aside0 (kq ≤ k) ∧ Aside0 (Kd.R Kd.string 9 wc w.heap.size (fun _ => True) v297 t295) ∧ Aside0 (wc.heap[gb289]? = some (.cells #[.string a2_0, .int .i64 a2_1] 59 (0, 0))) ∧ Aside0 (wc.heap[gb294]? = some (.cells #[.int .i64 t292, .int .i64 t293] 28 (0, 0))) ∧ Aside0 (Below w.heap.size w wc))
  case first =>
   have H := HC8.out
   clear HC8
   by_cases c16 : t296 = 0
   ·rw [if_pos c16] at H
    have c16b0 : (t296 == 0) = true := beq_iff_eq.mpr c16
    have c16b1 : (t296 != 0) = false := bne_eq_false_iff_eq.mpr c16
    clear c16
    (first | rw [c16b0] | (simp only [i64_w, i32_w]; rw [c16b0]) | skip)
    by_cases c17 : t293 = 3
    ·rw [if_pos c17] at H
     have c17b0 : (t293 == 3) = true := beq_iff_eq.mpr c17
     have c17b1 : (t293 != 3) = false := bne_eq_false_iff_eq.mpr c17
     clear c17
     have H' := Aside0.mk H
     clear H
     have hnb18 := NB294_289.out
     have hnc18 := NB289_294.out
     have hcz19_0 : w15.cell? ⟨gb294, 0, none⟩ = some (.int .i64 t292) := (blk_cell BK294.out 0).trans rfl
     have hcz19_1 : w15.cell? ⟨gb294, 1, none⟩ = some (.int .i64 t293) := (blk_cell BK294.out 1).trans rfl
     have hfz19_0 := blk_frozen BK294.out 0
     have hfz19_1 := blk_frozen BK294.out 1
     go_wp2
     go_meet
     case rel => exact ⟨_, (true), sq5, H', ⟨sq3⟩, ⟨sq23⟩, ⟨sq45⟩, ⟨sq46⟩, ⟨sq79⟩⟩
    rw [if_neg c17] at H
    have c17b0 : (t293 == 3) = false := beq_eq_false_iff_ne.mpr c17
    have c17b1 : (t293 != 3) = true := bne_iff_ne.mpr c17
    have H' := Aside0.mk H
    clear H
    have hnb20 := NB294_289.out
    have hnc20 := NB289_294.out
    have hcz21_0 : w15.cell? ⟨gb294, 0, none⟩ = some (.int .i64 t292) := (blk_cell BK294.out 0).trans rfl
    have hcz21_1 : w15.cell? ⟨gb294, 1, none⟩ = some (.int .i64 t293) := (blk_cell BK294.out 1).trans rfl
    have hfz21_0 := blk_frozen BK294.out 0
    have hfz21_1 := blk_frozen BK294.out 1
    go_wp2
    go_meet
    case rel => exact ⟨_, ((t293 == 5)), sq5, H', ⟨sq3⟩, ⟨sq23⟩, ⟨sq45⟩, ⟨sq46⟩, ⟨sq79⟩⟩
   rw [if_neg c16] at H
   have c16b0 : (t296 == 0) = false := beq_eq_false_iff_ne.mpr c16
   have c16b1 : (t296 != 0) = true := bne_iff_ne.mpr c16
   (first | rw [c16b0] | (simp only [i64_w, i32_w]; rw [c16b0]) | skip)
   have H' := Aside0.mk H
   clear H
   go_wp2
   go_meet
   case rel => exact ⟨_, (true), sq5, H', ⟨sq3⟩, ⟨sq23⟩, ⟨sq45⟩, ⟨sq46⟩, ⟨sq79⟩⟩
  case rest =>
   clear HC8; try clear c1; try clear c2; try clear p2; try clear c5; try clear c10; try clear c13; try clear c16; try clear c16b0; try clear c16b1; try clear c17; try clear c17b0; try clear c17b1; try clear c18; try clear c20; try clear hcz14_0; try clear hcz14_1; try clear hcz19_0; try clear hcz19_1; try clear hcz21_0; try clear hcz21_1; try clear hfz14_0; try clear hfz14_1; try clear hfz19_0; try clear hfz19_1; try clear hfz21_0; try clear hfz21_1
   obtain ⟨kq, x51_7, rfl, HA, HJ7, HO_9, BK289, BK294, HB⟩ := hcut
   cases kq with
   | zero => exact absurd HA.out (by simp [tontinelaw18_KindWords.j0])
   | succ kj7 =>
    have H := HA.out
    clear HA
    simp only [tontinelaw18_KindWords.j0] at H
    by_cases c22 : x51_7 = true
    ·subst c22
     replace H := (itT_ _ _).symm.trans H
     obtain rfl := Option.some.inj H
     go_wp2
     go_ret
     exact ⟨sq11, sq79⟩
    replace c22 := Bool.eq_false_iff.mpr c22
    subst c22
    replace H := (itF_ _ _).symm.trans H
    obtain ⟨y299, hy299⟩ : ∃ y_ : List (S59), y_ = (([] : List (S59))) := ⟨_, rfl⟩
    replace H : (tontinelaw18_KindWords.l0 kj7 l0 l1 t291 t295 y299 (([] : List (S59))) (wrap64 ((l1.length : Int) - 1)) a2_0 a2_1 t292 t293) = some r := by first | (rw [hy299]; with_reducible exact H) | (have H2_ := (Option.bind_some _ _).symm.trans H; rw [hy299]; with_reducible exact H2_) | (have H2_ := (Option.bind_some _ _).symm.trans H; with_reducible exact H2_) | with_reducible exact H | (rw [hy299]; exact H) | exact H
    have Ny299 := Aside0.mk hy299
    clear hy299
    obtain ⟨y302, hy302⟩ : ∃ y_ : List (S59), y_ = (([] : List (S59))) := ⟨_, rfl⟩
    replace H : (tontinelaw18_KindWords.l0 kj7 l0 l1 t291 t295 y299 y302 (wrap64 ((l1.length : Int) - 1)) a2_0 a2_1 t292 t293) = some r := by first | (rw [hy302]; with_reducible exact H) | (have H2_ := (Option.bind_some _ _).symm.trans H; rw [hy302]; with_reducible exact H2_) | (have H2_ := (Option.bind_some _ _).symm.trans H; with_reducible exact H2_) | with_reducible exact H | (rw [hy302]; exact H) | exact H
    have Ny302 := Aside0.mk hy302
    clear hy302
    have H' := Aside0.mk H
    clear H
    go_wp2_with (first | ((with_reducible refine gate_dst (N := 54) rfl ?_); refine Kd.R_lit k59 _ 59 ?hg (N := 54) ?hd (xs := ([] : List (S59))) (inner := []) (ok := fun _ => True) (okp := fun _ => True) ?hr ?hp (fun _ hk => hk) trivial (Below.refl _ _) (Nat.le_refl _) (by simp) ?_; (case hd => rfl); (case hg => rfl); (case hr => first | (go_simp; done) | (go_simp; rfl)); (case hp => exact (Reps.none _ _)); intro v300 w23 ho24 hb hg_ hnew_; clear hg_ hnew_; (first | rw [← Ny299.out] at ho24 | (simp only [Int.reduceToNat] at ho24; rw [← Ny299.out] at ho24)); have n0_ := Aside0.mk (Kd.R_below sq16 hb); have n1_ := Aside0.mk (Kd.R_lower (Kd.R_newB ho24 (g := gb289) (o := .cells #[.string a2_0, .int .i64 a2_1] 59 (0, 0)) sq45) (below_size sq79)); have n2_ := Aside0.mk (blk_below (g := gb289) (o := .cells #[.string a2_0, .int .i64 a2_1] 59 (0, 0)) sq45 hb); have n3_ := Aside0.mk (blk_below (g := gb294) (o := .cells #[.int .i64 t292, .int .i64 t293] 28 (0, 0)) sq46 hb); have n4_ := Aside0.mk (below_step sq79 hb); clear HO_9; clear BK289; clear BK294; clear HB; have HO_9 := n0_; have HO301 := n1_; have BK289 := n2_; have BK294 := n3_; have HB := n4_; clear n0_ n1_ n2_ n3_ n4_; clear hb ho24) | ((with_reducible refine gate_dst (N := 55) rfl ?_); refine Kd.R_lit k59 _ 59 ?hg (N := 55) ?hd (xs := ([] : List (S59))) (inner := []) (ok := fun _ => True) (okp := fun _ => True) ?hr ?hp (fun _ hk => hk) trivial (Below.refl _ _) (Nat.le_refl _) (by simp) ?_; (case hd => rfl); (case hg => rfl); (case hr => first | (go_simp; done) | (go_simp; rfl)); (case hp => exact (Reps.none _ _)); intro v303 w25 ho26 hb hg_ hnew_; clear hg_ hnew_; (first | rw [← Ny302.out] at ho26 | (simp only [Int.reduceToNat] at ho26; rw [← Ny302.out] at ho26)); have n0_ := Aside0.mk (Kd.R_below sq16 hb); have n1_ := Aside0.mk (Kd.R_elder' (by (with_reducible repeat (first | apply Kd.R_alloc | apply Kd.R_drewN | apply Kd.R_drew)); exact HO301.out) (Kd.R_base ho26) hb); have n2_ := Aside0.mk (Kd.R_lower (Kd.R_newB (Kd.R_new' ho26 (Kd.R_lt (by (with_reducible repeat (first | apply Kd.R_alloc | apply Kd.R_drewN | apply Kd.R_drew)); exact HO301.out))) (g := gb289) (o := .cells #[.string a2_0, .int .i64 a2_1] 59 (0, 0)) sq45) (below_size sq79)); have n3_ := Aside0.mk (blk_below (g := gb289) (o := .cells #[.string a2_0, .int .i64 a2_1] 59 (0, 0)) sq45 hb); have n4_ := Aside0.mk (blk_below (g := gb294) (o := .cells #[.int .i64 t292, .int .i64 t293] 28 (0, 0)) sq46 hb); have n5_ := Aside0.mk (below_step sq79 hb); clear HO_9; clear HO301; clear BK289; clear BK294; clear HB; have HO_9 := n0_; have HO301 := n1_; have HO304 := n2_; have BK289 := n3_; have BK294 := n4_; have HB := n5_; clear n0_ n1_ n2_ n3_ n4_ n5_; clear hb ho26))
    go_loopg [11, 12, 13] kj7 (fun kq v11 v12 v13 w' => ∃ (x11_2 : List (S59)) (x12_2 : List (S59)) (x13_2 : Int), v13 = .int .i64 x13_2 ∧ Aside0 (tontinelaw18_KindWords.l0 kq l0 l1 t291 t295 x11_2 x12_2 x13_2 a2_0 a2_1 t292 t293 = some r) ∧ Aside0 (kq ≤ kj7) ∧ Aside0 (Kd.R Kd.string 9 w' w.heap.size (fun _ => True) v297 t295) ∧ Aside0 (Kd.R k59 59 w' w.heap.size (fun k_ => some k_ ≠ (v12 : Value).ownBlock ∧ k_ ≠ gb289) v11 x11_2) ∧ Aside0 (Kd.R k59 59 w' w.heap.size (fun k_ => some k_ ≠ (v11 : Value).ownBlock ∧ k_ ≠ gb289) v12 x12_2) ∧ Aside0 (w'.heap[gb289]? = some (.cells #[.string a2_0, .int .i64 a2_1] 59 (0, 0))) ∧ Aside0 (w'.heap[gb294]? = some (.cells #[.int .i64 t292, .int .i64 t293] 28 (0, 0))) ∧ Aside0 (Below w.heap.size w w'))
    case atStart => exact ⟨(y299), (y302), (wrap64 ((l1.length : Int) - 1)), sq5, H', ⟨Nat.le_refl _⟩, ⟨sq16⟩, ⟨by (with_reducible repeat (first | apply Kd.R_alloc | apply Kd.R_drewN | apply Kd.R_drew)); exact Kd.R_mono HO301.out (fun _ hk => ⟨hk.2, hk.1.2⟩)⟩, ⟨by (with_reducible repeat (first | apply Kd.R_alloc | apply Kd.R_drewN | apply Kd.R_drew)); exact Kd.R_mono HO304.out (fun _ hk => ⟨hk.1.2, hk.2⟩)⟩, ⟨sq45⟩, ⟨sq46⟩, ⟨sq79⟩⟩
    case round =>
     clear H'
     try clear c1; try clear c2; try clear p2; try clear c5; try clear p6; try clear c10; try clear c13; try clear c16; try clear c16b0; try clear c16b1; try clear c17; try clear c17b0; try clear c17b1; try clear c18; try clear c20; try clear c22; try clear hcz14_0; try clear hcz14_1; try clear hcz19_0; try clear hcz19_1; try clear hcz21_0; try clear hcz21_1; try clear hfz14_0; try clear hfz14_1; try clear hfz19_0; try clear hfz19_1; try clear hfz21_0; try clear hfz21_1; try clear p2
     obtain ⟨x11_2, x12_2, x13_2, rfl, HA, HK2, HO_9, HO_11, HO_12, BK289, BK294, HB⟩ := hrel
     cases gk with
     | zero => exact absurd HA.out (by simp [tontinelaw18_KindWords.l0])
     | succ k2 =>
      have H := HA.out
      clear HA
      simp only [tontinelaw18_KindWords.l0] at H
      by_cases c27 : x13_2 ≥ 0
      ·rw [if_pos c27] at H
       have c27b0 : decide (0 ≤ x13_2) = true := decide_eq_true c27; clear c27
       have H' := Aside0.mk H
       clear H
       obtain ⟨Ao28, co28, eo28⟩ := Kd.R_slice HO_11.out
       subst eo28
       go_wp2
       go_loopg [14, 65] k2 (fun kq v14 v65 w' => ∃ (x14_3 : Bool) (x65_3 : Int), v14 = .bool x14_3 ∧ v65 = .int .i64 x65_3 ∧ Aside0 (tontinelaw18_KindWords.l1 kq l0 l1 t291 t295 x11_2 x12_2 x13_2 x14_3 x11_2 (x11_2.length : Int) x65_3 a2_0 a2_1 t292 t293 = some r) ∧ Aside0 (kq ≤ k2) ∧ Aside0 (Kd.R Kd.string 9 w' w.heap.size (fun _ => True) v297 t295) ∧ Aside0 (Kd.R k59 59 w' w.heap.size (fun k_ => some k_ ≠ (u12 : Value).ownBlock ∧ k_ ≠ gb289) (.slice Ao28 x11_2.length co28) x11_2) ∧ Aside0 (Kd.R k59 59 w' w.heap.size (fun k_ => some k_ ≠ ((.slice Ao28 x11_2.length co28) : Value).ownBlock ∧ some k_ ≠ ((.slice Ao28 x11_2.length co28) : Value).ownBlock ∧ k_ ≠ gb289) u12 x12_2) ∧ Aside0 (Kd.R k59 59 w' w.heap.size (fun k_ => some k_ ≠ (u12 : Value).ownBlock ∧ k_ ≠ gb289) (.slice Ao28 x11_2.length co28) x11_2) ∧ Aside0 (w'.heap[gb289]? = some (.cells #[.string a2_0, .int .i64 a2_1] 59 (0, 0))) ∧ Aside0 (w'.heap[gb294]? = some (.cells #[.int .i64 t292, .int .i64 t293] 28 (0, 0))) ∧ Aside0 (Below w.heap.size w w'))
       case atStart => exact ⟨(false), (0), sq5, sq5, H', ⟨Nat.le_refl _⟩, ⟨sq16⟩, ⟨sq24⟩, ⟨by (with_reducible repeat (first | apply Kd.R_alloc | apply Kd.R_drewN | apply Kd.R_drew)); exact Kd.R_mono HO_12.out (fun _ hk => ⟨hk.1, ⟨hk.1, hk.2⟩⟩)⟩, ⟨sq24⟩, ⟨sq45⟩, ⟨sq46⟩, ⟨sq79⟩⟩
       case round =>
        clear H'
        try clear c1; try clear c2; try clear p2; try clear c5; try clear p6; try clear c10; try clear c13; try clear c16; try clear c16b0; try clear c16b1; try clear c17; try clear c17b0; try clear c17b1; try clear c18; try clear c20; try clear c22; try clear c27; try clear c27b0; try clear hcz14_0; try clear hcz14_1; try clear hcz19_0; try clear hcz19_1; try clear hcz21_0; try clear hcz21_1; try clear hfz14_0; try clear hfz14_1; try clear hfz19_0; try clear hfz19_1; try clear hfz21_0; try clear hfz21_1; try clear p2; try clear p6
        obtain ⟨x14_3, x65_3, rfl, rfl, HA, HK3, HO_9, HO_11, HO_12, HO_63, BK289, BK294, HB⟩ := hrel
        cases gk with
        | zero => exact absurd HA.out (by simp [tontinelaw18_KindWords.l1])
        | succ k3 =>
         have H := HA.out
         clear HA
         simp only [tontinelaw18_KindWords.l1] at H
         by_cases c29 : x65_3 < (x11_2.length : Int)
         ·rw [if_pos c29] at H
          have c29b0 : decide (x65_3 < (x11_2.length : Int)) = true := decide_eq_true c29; clear c29
          by_cases c30 : 0 ≤ x65_3
          ·rw [if_pos c30] at H
           have c30b0 : decide (0 ≤ x65_3) = true := decide_eq_true c30; clear c30
           by_cases c31 : x65_3 < (x11_2.length : Int)
           ·rw [if_pos c31] at H
            have c31b0 : decide (x65_3 < (x11_2.length : Int)) = true := decide_eq_true c31; clear c31
            by_cases c32 : x14_3 = true
            ·subst c32
             replace H := (itT_ _ _).symm.trans H
             have H' := Aside0.mk H
             clear H
             have p305 : 0 ≤ (x65_3 : Int) := of_decide_eq_true sq6
             have q305 : x65_3 < (x11_2.length : Int) := of_decide_eq_true sq6
             obtain ⟨ad305, e305, hx305_0, hx305_1⟩ := at_T59 (Kd.R_reads' HO_63.out).2.2 x65_3 p305 q305
             cases e305
             replace p305 := eq_true p305
             replace q305 := eq_true q305
             try go_wp2_with (first | ((with_reducible refine gate_dst (N := 16) rfl ?_); refine box_event ?hg (N := 16) ?hd (cs := #[.string (⟨#[]⟩ : ByteArray), .int .i64 0]) (t := 59) ?hr ?_; (case hd => rfl); (case hg => rfl); (case hr => first | (go_simp; done) | (go_simp; rfl)); intro gb306 hg w33 hbox hb; have n0_ := Aside0.mk (Kd.R_below sq16 hb); have n1_ := Aside0.mk (Kd.R_below (Kd.R_elderB sq24 gb306 (Nat.le_of_eq hg.symm)) hb); have n2_ := Aside0.mk (Kd.R_below (Kd.R_elderB sq25 gb306 (Nat.le_of_eq hg.symm)) hb); have n3_ := Aside0.mk (Kd.R_below (Kd.R_elderB sq26 gb306 (Nat.le_of_eq hg.symm)) hb); have n4_ := Aside0.mk (blk_below (g := gb289) (o := .cells #[.string a2_0, .int .i64 a2_1] 59 (0, 0)) sq45 hb); have n5_ := Aside0.mk (blk_below (g := gb294) (o := .cells #[.int .i64 t292, .int .i64 t293] 28 (0, 0)) sq46 hb); have n6_ := Aside0.mk (below_step sq79 hb); have n7_ := Aside0.mk (hbox); have n8_ := Aside0.mk ((by rw [hg]; exact (below_size sq79) : w.heap.size ≤ gb306)); have n9_ := Aside0.mk ((by rw [hg]; exact (below_size sq79) : w.heap.size ≤ gb306)); have n10_ := Aside0.mk ((by rw [hg]; exact Nat.ne_of_lt (blk_lt (g := gb289) (o := .cells #[.string a2_0, .int .i64 a2_1] 59 (0, 0)) sq45) : gb289 ≠ gb306)); have n11_ := Aside0.mk ((by rw [hg]; exact Nat.ne_of_gt (blk_lt (g := gb289) (o := .cells #[.string a2_0, .int .i64 a2_1] 59 (0, 0)) sq45) : gb306 ≠ gb289)); have n12_ := Aside0.mk ((by rw [hg]; exact Nat.ne_of_lt (blk_lt (g := gb294) (o := .cells #[.int .i64 t292, .int .i64 t293] 28 (0, 0)) sq46) : gb294 ≠ gb306)); have n13_ := Aside0.mk ((by rw [hg]; exact Nat.ne_of_gt (blk_lt (g := gb294) (o := .cells #[.int .i64 t292, .int .i64 t293] 28 (0, 0)) sq46) : gb306 ≠ gb294)); clear HO_9; clear HO_11; clear HO_12; clear HO_63; clear BK289; clear BK294; clear HB; have HO_9 := n0_; have HO_11 := n1_; have HO_12 := n2_; have HO_63 := n3_; have BK289 := n4_; have BK294 := n5_; have HB := n6_; have BK306 := n7_; have GW306 := n8_; have GE306 := n9_; have NB289_306 := n10_; have NB306_289 := n11_; have NB294_306 := n12_; have NB306_294 := n13_; clear n0_ n1_ n2_ n3_ n4_ n5_ n6_ n7_ n8_ n9_ n10_ n11_ n12_ n13_; clear hb hbox hg; have hnb34 := NB306_289.out; have hnc34 := NB289_306.out; have hnb35 := NB306_294.out; have hnc35 := NB294_306.out; have hcz36_0 : w33.cell? ⟨gb306, 0, none⟩ = some (.string (⟨#[]⟩ : ByteArray)) := (blk_cell BK306.out 0).trans rfl; have hcz36_1 : w33.cell? ⟨gb306, 1, none⟩ = some (.int .i64 0) := (blk_cell BK306.out 1).trans rfl; have hfz36_0 := blk_frozen BK306.out 0; have hfz36_1 := blk_frozen BK306.out 1))
             have n0_ : Aside0 (Kd.R Kd.string 9 ((w33.setCell ⟨gb306, 0, none⟩ (.string ((rd_T59 x11_2 x65_3).f0))).setCell ⟨gb306, 1, none⟩ (.int .i64 ((rd_T59 x11_2 x65_3).f1))) w.heap.size (fun _ => True) v297 t295) := ⟨sq100⟩
             have n1_ : Aside0 (Kd.R k59 59 ((w33.setCell ⟨gb306, 0, none⟩ (.string ((rd_T59 x11_2 x65_3).f0))).setCell ⟨gb306, 1, none⟩ (.int .i64 ((rd_T59 x11_2 x65_3).f1))) w.heap.size (fun k_ => some k_ ≠ (u12 : Value).ownBlock ∧ k_ ≠ gb289 ∧ k_ ≠ gb306) (.slice (some ad305) x11_2.length co28) x11_2) := ⟨sq115⟩
             have n2_ : Aside0 (Kd.R k59 59 ((w33.setCell ⟨gb306, 0, none⟩ (.string ((rd_T59 x11_2 x65_3).f0))).setCell ⟨gb306, 1, none⟩ (.int .i64 ((rd_T59 x11_2 x65_3).f1))) w.heap.size (fun k_ => some k_ ≠ (.slice (some ad305) x11_2.length co28 : Value).ownBlock ∧ some k_ ≠ (.slice (some ad305) x11_2.length co28 : Value).ownBlock ∧ k_ ≠ gb289 ∧ k_ ≠ gb306) u12 x12_2) := ⟨sq117⟩
             have n3_ : Aside0 (Kd.R k59 59 ((w33.setCell ⟨gb306, 0, none⟩ (.string ((rd_T59 x11_2 x65_3).f0))).setCell ⟨gb306, 1, none⟩ (.int .i64 ((rd_T59 x11_2 x65_3).f1))) w.heap.size (fun k_ => some k_ ≠ (u12 : Value).ownBlock ∧ k_ ≠ gb289 ∧ k_ ≠ gb306) (.slice (some ad305) x11_2.length co28) x11_2) := ⟨sq116⟩
             have n4_ : Aside0 (((w33.setCell ⟨gb306, 0, none⟩ (.string ((rd_T59 x11_2 x65_3).f0))).setCell ⟨gb306, 1, none⟩ (.int .i64 ((rd_T59 x11_2 x65_3).f1))).heap[gb289]? = some (.cells #[.string a2_0, .int .i64 a2_1] 59 (0, 0))) := ⟨sq109⟩
             have n5_ : Aside0 (((w33.setCell ⟨gb306, 0, none⟩ (.string ((rd_T59 x11_2 x65_3).f0))).setCell ⟨gb306, 1, none⟩ (.int .i64 ((rd_T59 x11_2 x65_3).f1))).heap[gb294]? = some (.cells #[.int .i64 t292, .int .i64 t293] 28 (0, 0))) := ⟨sq110⟩
             have n6_ : Aside0 (((w33.setCell ⟨gb306, 0, none⟩ (.string ((rd_T59 x11_2 x65_3).f0))).setCell ⟨gb306, 1, none⟩ (.int .i64 ((rd_T59 x11_2 x65_3).f1))).heap[gb306]? = some (.cells #[.string ((rd_T59 x11_2 x65_3).f0), .int .i64 ((rd_T59 x11_2 x65_3).f1)] 59 (0, 0))) := ⟨sq132⟩
             have n7_ : Aside0 (Below w.heap.size w ((w33.setCell ⟨gb306, 0, none⟩ (.string ((rd_T59 x11_2 x65_3).f0))).setCell ⟨gb306, 1, none⟩ (.int .i64 ((rd_T59 x11_2 x65_3).f1)))) := ⟨sq86⟩
             (try clear HO_9)
             (try clear HO_11)
             (try clear HO_12)
             (try clear HO_63)
             (try clear BK289)
             (try clear BK294)
             (try clear BK306)
             (try clear HB)
             generalize ((w33.setCell ⟨gb306, 0, none⟩ (.string ((rd_T59 x11_2 x65_3).f0))).setCell ⟨gb306, 1, none⟩ (.int .i64 ((rd_T59 x11_2 x65_3).f1))) = w37 at n0_ n1_ n2_ n3_ n4_ n5_ n6_ n7_ ⊢
             have HO_9 := n0_
             have HO_11 := n1_
             have HO_12 := n2_
             have HO_63 := n3_
             have BK289 := n4_
             have BK294 := n5_
             have BK306 := n6_
             have HB := n7_
             clear n0_ n1_ n2_ n3_ n4_ n5_ n6_ n7_
             have n0_ := Aside0.mk (Kd.R_drew HO_9.out)
             have n1_ := Aside0.mk (Kd.R_drew HO_11.out)
             have n2_ := Aside0.mk (Kd.R_drew HO_12.out)
             have n3_ := Aside0.mk (Kd.R_drew HO_63.out)
             have n4_ := Aside0.mk (blk_drew BK289.out)
             have n5_ := Aside0.mk (blk_drew BK294.out)
             have n6_ := Aside0.mk (blk_drew BK306.out)
             have n7_ := Aside0.mk (below_drew1 HB.out)
             clear HO_9; clear HO_11; clear HO_12; clear HO_63; clear BK289; clear BK294; clear BK306; clear HB
             have HO_9 := n0_
             have HO_11 := n1_
             have HO_12 := n2_
             have HO_63 := n3_
             have BK289 := n4_
             have BK294 := n5_
             have BK306 := n6_
             have HB := n7_
             clear n0_ n1_ n2_ n3_ n4_ n5_ n6_ n7_
             refine start_ (n := 12) (S := fun w' => True) (ds := []) #[false, false, false, false, false, false, false, false, false, false, false, false] sq2 rfl rfl trivial (fun hHeld => ?_); refine with_tabW tontinelaw18_KindWords.tab15 tontinelaw18_KindWords.bits15 (fun HT_ HW_ => ?_)
             generalize w37.drew = w38 at HO_9 HO_11 HO_12 HO_63 BK289 BK294 BK306 HB hHeld ⊢
             refine pure_ (i := 0) (N := some 69) (v := ?_) (a' := ?_) #[true, false, false, false, false, false, false, false, false, false, false, false] rfl rfl (any_of HT_.out sq2) (fun _ _ _ h => h) (Or.inl ⟨by rfl, ?_⟩) ?_ ?_
             rotate_left
             ·intro w'
              go_simp
              with_reducible rfl
             rotate_left
             ·simp only [Act.put, List.setIfInBounds_toArray, List.set_cons_zero, List.set_cons_succ, i64_w, i32_w]
              rfl
             refine pure_ (i := 1) (N := some 70) (v := ?_) (a' := ?_) #[true, true, false, false, false, false, false, false, false, false, false, false] rfl rfl (any_of HT_.out sq2) (fun _ _ _ h => h) (Or.inl ⟨by rfl, ?_⟩) ?_ ?_
             rotate_left
             ·intro w'
              go_simp
              with_reducible rfl
             rotate_left
             ·simp only [Act.put, List.setIfInBounds_toArray, List.set_cons_zero, List.set_cons_succ, i64_w, i32_w]
              rfl
             refine pure_ (i := 2) (N := some 71) (v := undef) (a' := ?_) #[true, true, true, false, false, false, false, false, false, false, false, false] rfl rfl (any_of HT_.out sq2) (fun _ _ _ h => h) (Or.inr ⟨by rfl, rfl⟩) ?_ ?_
             rotate_left
             ·simp only [Act.put, List.setIfInBounds_toArray, List.set_cons_zero, List.set_cons_succ, i64_w, i32_w]
              rfl
             refine pure_ (i := 3) (N := some 72) (v := undef) (a' := ?_) #[true, true, true, true, false, false, false, false, false, false, false, false] rfl rfl (any_of HT_.out sq2) (fun _ _ _ h => h) (Or.inr ⟨by rfl, rfl⟩) ?_ ?_
             rotate_left
             ·simp only [Act.put, List.setIfInBounds_toArray, List.set_cons_zero, List.set_cons_succ, i64_w, i32_w]
              rfl
             refine pure_ (i := 4) (N := some 73) (v := undef) (a' := ?_) #[true, true, true, true, true, false, false, false, false, false, false, false] rfl rfl (any_of HT_.out sq2) (fun _ _ _ h => h) (Or.inr ⟨by rfl, rfl⟩) ?_ ?_
             rotate_left
             ·simp only [Act.put, List.setIfInBounds_toArray, List.set_cons_zero, List.set_cons_succ, i64_w, i32_w]
              rfl
             refine pure_ (i := 5) (N := some 74) (v := undef) (a' := ?_) #[true, true, true, true, true, true, false, false, false, false, false, false] rfl rfl (any_of HT_.out sq2) (fun _ _ _ h => h) (Or.inr ⟨by rfl, rfl⟩) ?_ ?_
             rotate_left
             ·simp only [Act.put, List.setIfInBounds_toArray, List.set_cons_zero, List.set_cons_succ, i64_w, i32_w]
              rfl
             refine pure_ (i := 6) (N := some 75) (v := undef) (a' := ?_) #[true, true, true, true, true, true, true, false, false, false, false, false] rfl rfl (any_of HT_.out sq2) (fun _ _ _ h => h) (Or.inr ⟨by rfl, rfl⟩) ?_ ?_
             rotate_left
             ·simp only [Act.put, List.setIfInBounds_toArray, List.set_cons_zero, List.set_cons_succ, i64_w, i32_w]
              rfl
             refine pure_ (i := 7) (N := some 76) (v := undef) (a' := ?_) #[true, true, true, true, true, true, true, true, false, false, false, false] rfl rfl (any_of HT_.out sq2) (fun _ _ _ h => h) (Or.inr ⟨by rfl, rfl⟩) ?_ ?_
             rotate_left
             ·simp only [Act.put, List.setIfInBounds_toArray, List.set_cons_zero, List.set_cons_succ, i64_w, i32_w]
              rfl
             refine pure_ (i := 8) (N := some 77) (v := undef) (a' := ?_) #[true, true, true, true, true, true, true, true, true, false, false, false] rfl rfl (any_of HT_.out sq2) (fun _ _ _ h => h) (Or.inr ⟨by rfl, rfl⟩) ?_ ?_
             rotate_left
             ·simp only [Act.put, List.setIfInBounds_toArray, List.set_cons_zero, List.set_cons_succ, i64_w, i32_w]
              rfl
             refine pure_ (i := 9) (N := some 78) (v := undef) (a' := ?_) #[true, true, true, true, true, true, true, true, true, true, false, false] rfl rfl (any_of HT_.out sq2) (fun _ _ _ h => h) (Or.inr ⟨by rfl, rfl⟩) ?_ ?_
             rotate_left
             ·simp only [Act.put, List.setIfInBounds_toArray, List.set_cons_zero, List.set_cons_succ, i64_w, i32_w]
              rfl
             refine pure_ (i := 10) (N := some 79) (v := ?_) (a' := ?_) #[true, true, true, true, true, true, true, true, true, true, true, false] rfl rfl (any_of HT_.out sq2) (fun _ _ _ h => h) (Or.inl ⟨by rfl, ?_⟩) ?_ ?_
             rotate_left
             ·intro w'
              go_simp
              with_reducible rfl
             rotate_left
             ·simp only [Act.put, List.setIfInBounds_toArray, List.set_cons_zero, List.set_cons_succ, i64_w, i32_w]
              rfl
             refine pure_ (i := 11) (N := some 14) (v := ?_) (a' := ?_) #[true, true, true, true, true, true, true, true, true, true, true, true] rfl rfl (any_of HT_.out sq2) (fun _ _ _ h => h) (Or.inl ⟨by rfl, ?_⟩) ?_ ?_
             rotate_left
             ·intro w'
              go_simp
              with_reducible rfl
             rotate_left
             ·simp only [Act.put, List.setIfInBounds_toArray, List.set_cons_zero, List.set_cons_succ, i64_w, i32_w]
              rfl
             refine done_ (done_of HT_.out sq2) ?_
             try go_wp2
             go_roundg k3
             case measure => have := HJ7.out; have := HK2.out; have := HK3.out; omega
             case rel => exact ⟨(true), (wrap64 (x65_3 + 1)), sq5, sq5, H', ⟨by have := HJ7.out; have := HK2.out; have := HK3.out; omega⟩, ⟨sq16⟩, ⟨by (with_reducible repeat (first | apply Kd.R_alloc | apply Kd.R_drewN | apply Kd.R_drew)); exact Kd.R_mono HO_11.out (fun _ hk => ⟨hk.1, hk.2.1⟩)⟩, ⟨by (with_reducible repeat (first | apply Kd.R_alloc | apply Kd.R_drewN | apply Kd.R_drew)); exact Kd.R_mono HO_12.out (fun _ hk => ⟨hk.1, ⟨hk.2.1, hk.2.2.1⟩⟩)⟩, ⟨by (with_reducible repeat (first | apply Kd.R_alloc | apply Kd.R_drewN | apply Kd.R_drew)); exact Kd.R_mono HO_63.out (fun _ hk => ⟨hk.1, hk.2.1⟩)⟩, ⟨sq45⟩, ⟨sq46⟩, ⟨sq86⟩⟩
            replace c32 := Bool.eq_false_iff.mpr c32
            subst c32
            replace H := (itF_ _ _).symm.trans H
            by_cases c39 : 0 ≤ x13_2
            ·rw [if_pos c39] at H
             have c39b0 : decide (0 ≤ x13_2) = true := decide_eq_true c39; clear c39
             by_cases c40 : x13_2 < (l1.length : Int)
             ·rw [if_pos c40] at H
              have c40b0 : decide (x13_2 < (l1.length : Int)) = true := decide_eq_true c40; clear c40
              have H' := Aside0.mk H
              clear H
              have p305 : 0 ≤ (x65_3 : Int) := of_decide_eq_true sq6
              have q305 : x65_3 < (x11_2.length : Int) := of_decide_eq_true sq6
              obtain ⟨ad305, e305, hx305_0, hx305_1⟩ := at_T59 (Kd.R_reads' HO_63.out).2.2 x65_3 p305 q305
              cases e305
              replace p305 := eq_true p305
              replace q305 := eq_true q305
              try go_wp2_with (first | ((with_reducible refine gate_dst (N := 16) rfl ?_); refine box_event ?hg (N := 16) ?hd (cs := #[.string (⟨#[]⟩ : ByteArray), .int .i64 0]) (t := 59) ?hr ?_; (case hd => rfl); (case hg => rfl); (case hr => first | (go_simp; done) | (go_simp; rfl)); intro gb306 hg w41 hbox hb; have n0_ := Aside0.mk (Kd.R_below sq16 hb); have n1_ := Aside0.mk (Kd.R_below (Kd.R_elderB sq24 gb306 (Nat.le_of_eq hg.symm)) hb); have n2_ := Aside0.mk (Kd.R_below (Kd.R_elderB sq25 gb306 (Nat.le_of_eq hg.symm)) hb); have n3_ := Aside0.mk (Kd.R_below (Kd.R_elderB sq26 gb306 (Nat.le_of_eq hg.symm)) hb); have n4_ := Aside0.mk (blk_below (g := gb289) (o := .cells #[.string a2_0, .int .i64 a2_1] 59 (0, 0)) sq45 hb); have n5_ := Aside0.mk (blk_below (g := gb294) (o := .cells #[.int .i64 t292, .int .i64 t293] 28 (0, 0)) sq46 hb); have n6_ := Aside0.mk (below_step sq79 hb); have n7_ := Aside0.mk (hbox); have n8_ := Aside0.mk ((by rw [hg]; exact (below_size sq79) : w.heap.size ≤ gb306)); have n9_ := Aside0.mk ((by rw [hg]; exact (below_size sq79) : w.heap.size ≤ gb306)); have n10_ := Aside0.mk ((by rw [hg]; exact Nat.ne_of_lt (blk_lt (g := gb289) (o := .cells #[.string a2_0, .int .i64 a2_1] 59 (0, 0)) sq45) : gb289 ≠ gb306)); have n11_ := Aside0.mk ((by rw [hg]; exact Nat.ne_of_gt (blk_lt (g := gb289) (o := .cells #[.string a2_0, .int .i64 a2_1] 59 (0, 0)) sq45) : gb306 ≠ gb289)); have n12_ := Aside0.mk ((by rw [hg]; exact Nat.ne_of_lt (blk_lt (g := gb294) (o := .cells #[.int .i64 t292, .int .i64 t293] 28 (0, 0)) sq46) : gb294 ≠ gb306)); have n13_ := Aside0.mk ((by rw [hg]; exact Nat.ne_of_gt (blk_lt (g := gb294) (o := .cells #[.int .i64 t292, .int .i64 t293] 28 (0, 0)) sq46) : gb306 ≠ gb294)); clear HO_9; clear HO_11; clear HO_12; clear HO_63; clear BK289; clear BK294; clear HB; have HO_9 := n0_; have HO_11 := n1_; have HO_12 := n2_; have HO_63 := n3_; have BK289 := n4_; have BK294 := n5_; have HB := n6_; have BK306 := n7_; have GW306 := n8_; have GE306 := n9_; have NB289_306 := n10_; have NB306_289 := n11_; have NB294_306 := n12_; have NB306_294 := n13_; clear n0_ n1_ n2_ n3_ n4_ n5_ n6_ n7_ n8_ n9_ n10_ n11_ n12_ n13_; clear hb hbox hg; have hnb42 := NB306_289.out; have hnc42 := NB289_306.out; have hnb43 := NB306_294.out; have hnc43 := NB294_306.out; have hcz44_0 : w41.cell? ⟨gb306, 0, none⟩ = some (.string (⟨#[]⟩ : ByteArray)) := (blk_cell BK306.out 0).trans rfl; have hcz44_1 : w41.cell? ⟨gb306, 1, none⟩ = some (.int .i64 0) := (blk_cell BK306.out 1).trans rfl; have hfz44_0 := blk_frozen BK306.out 0; have hfz44_1 := blk_frozen BK306.out 1))
              have n0_ : Aside0 (Kd.R Kd.string 9 ((w41.setCell ⟨gb306, 0, none⟩ (.string ((rd_T59 x11_2 x65_3).f0))).setCell ⟨gb306, 1, none⟩ (.int .i64 ((rd_T59 x11_2 x65_3).f1))) w.heap.size (fun _ => True) v297 t295) := ⟨sq100⟩
              have n1_ : Aside0 (Kd.R k59 59 ((w41.setCell ⟨gb306, 0, none⟩ (.string ((rd_T59 x11_2 x65_3).f0))).setCell ⟨gb306, 1, none⟩ (.int .i64 ((rd_T59 x11_2 x65_3).f1))) w.heap.size (fun k_ => some k_ ≠ (u12 : Value).ownBlock ∧ k_ ≠ gb289 ∧ k_ ≠ gb306) (.slice (some ad305) x11_2.length co28) x11_2) := ⟨sq115⟩
              have n2_ : Aside0 (Kd.R k59 59 ((w41.setCell ⟨gb306, 0, none⟩ (.string ((rd_T59 x11_2 x65_3).f0))).setCell ⟨gb306, 1, none⟩ (.int .i64 ((rd_T59 x11_2 x65_3).f1))) w.heap.size (fun k_ => some k_ ≠ (.slice (some ad305) x11_2.length co28 : Value).ownBlock ∧ some k_ ≠ (.slice (some ad305) x11_2.length co28 : Value).ownBlock ∧ k_ ≠ gb289 ∧ k_ ≠ gb306) u12 x12_2) := ⟨sq117⟩
              have n3_ : Aside0 (Kd.R k59 59 ((w41.setCell ⟨gb306, 0, none⟩ (.string ((rd_T59 x11_2 x65_3).f0))).setCell ⟨gb306, 1, none⟩ (.int .i64 ((rd_T59 x11_2 x65_3).f1))) w.heap.size (fun k_ => some k_ ≠ (u12 : Value).ownBlock ∧ k_ ≠ gb289 ∧ k_ ≠ gb306) (.slice (some ad305) x11_2.length co28) x11_2) := ⟨sq116⟩
              have n4_ : Aside0 (((w41.setCell ⟨gb306, 0, none⟩ (.string ((rd_T59 x11_2 x65_3).f0))).setCell ⟨gb306, 1, none⟩ (.int .i64 ((rd_T59 x11_2 x65_3).f1))).heap[gb289]? = some (.cells #[.string a2_0, .int .i64 a2_1] 59 (0, 0))) := ⟨sq109⟩
              have n5_ : Aside0 (((w41.setCell ⟨gb306, 0, none⟩ (.string ((rd_T59 x11_2 x65_3).f0))).setCell ⟨gb306, 1, none⟩ (.int .i64 ((rd_T59 x11_2 x65_3).f1))).heap[gb294]? = some (.cells #[.int .i64 t292, .int .i64 t293] 28 (0, 0))) := ⟨sq110⟩
              have n6_ : Aside0 (((w41.setCell ⟨gb306, 0, none⟩ (.string ((rd_T59 x11_2 x65_3).f0))).setCell ⟨gb306, 1, none⟩ (.int .i64 ((rd_T59 x11_2 x65_3).f1))).heap[gb306]? = some (.cells #[.string ((rd_T59 x11_2 x65_3).f0), .int .i64 ((rd_T59 x11_2 x65_3).f1)] 59 (0, 0))) := ⟨sq132⟩
              have n7_ : Aside0 (Below w.heap.size w ((w41.setCell ⟨gb306, 0, none⟩ (.string ((rd_T59 x11_2 x65_3).f0))).setCell ⟨gb306, 1, none⟩ (.int .i64 ((rd_T59 x11_2 x65_3).f1)))) := ⟨sq86⟩
              (try clear HO_9)
              (try clear HO_11)
              (try clear HO_12)
              (try clear HO_63)
              (try clear BK289)
              (try clear BK294)
              (try clear BK306)
              (try clear HB)
              generalize ((w41.setCell ⟨gb306, 0, none⟩ (.string ((rd_T59 x11_2 x65_3).f0))).setCell ⟨gb306, 1, none⟩ (.int .i64 ((rd_T59 x11_2 x65_3).f1))) = w45 at n0_ n1_ n2_ n3_ n4_ n5_ n6_ n7_ ⊢
              have HO_9 := n0_
              have HO_11 := n1_
              have HO_12 := n2_
              have HO_63 := n3_
              have BK289 := n4_
              have BK294 := n5_
              have BK306 := n6_
              have HB := n7_
              clear n0_ n1_ n2_ n3_ n4_ n5_ n6_ n7_
              have n0_ := Aside0.mk (Kd.R_drew HO_9.out)
              have n1_ := Aside0.mk (Kd.R_drew HO_11.out)
              have n2_ := Aside0.mk (Kd.R_drew HO_12.out)
              have n3_ := Aside0.mk (Kd.R_drew HO_63.out)
              have n4_ := Aside0.mk (blk_drew BK289.out)
              have n5_ := Aside0.mk (blk_drew BK294.out)
              have n6_ := Aside0.mk (blk_drew BK306.out)
              have n7_ := Aside0.mk (below_drew1 HB.out)
              clear HO_9; clear HO_11; clear HO_12; clear HO_63; clear BK289; clear BK294; clear BK306; clear HB
              have HO_9 := n0_
              have HO_11 := n1_
              have HO_12 := n2_
              have HO_63 := n3_
              have BK289 := n4_
              have BK294 := n5_
              have BK306 := n6_
              have HB := n7_
              clear n0_ n1_ n2_ n3_ n4_ n5_ n6_ n7_
              have p307 : 0 ≤ (x13_2 : Int) := of_decide_eq_true sq6
              have q307 : x13_2 < (l1.length : Int) := of_decide_eq_true sq6
              obtain ⟨ad307, e307, hx307_0, hx307_1⟩ := at_T59 HR1.out x13_2 p307 q307
              have hw307_1 := hx307_1
              have hw307_0 := hx307_0
              cases e307
              try replace hx307_0 := (HB.out.cell (World.block_lt_of_cell? w _ hx307_0)).trans hx307_0
              try replace hx307_1 := (HB.out.cell (World.block_lt_of_cell? w _ hx307_1)).trans hx307_1
              replace p307 := eq_true p307
              replace q307 := eq_true q307
              refine start_ (n := 12) (S := fun w' => w'.cell? ⟨gb306, 0, none⟩ = some (.string ((rd_T59 x11_2 x65_3).f0)) ∧ w'.cell? ⟨gb306, 1, none⟩ = some (.int .i64 ((rd_T59 x11_2 x65_3).f1)) ∧ w'.cell? (ad307.add ((x13_2).toNat * 2)) = some (.string ((rd_T59 l1 x13_2).f0)) ∧ w'.cell? ⟨(ad307.add ((x13_2).toNat * 2)).block, (ad307.add ((x13_2).toNat * 2)).off + 1, none⟩ = some (.int .i64 ((rd_T59 l1 x13_2).f1))) (ds := []) #[false, false, false, false, false, false, false, false, false, false, false, false] sq2 rfl rfl ⟨(blk_cell BK306.out 0).trans rfl, (blk_cell BK306.out 1).trans rfl, ((HB.out.cell (World.block_lt_of_cell? w _ hw307_0)).trans hw307_0), ((HB.out.cell (World.block_lt_of_cell? w _ hw307_1)).trans hw307_1)⟩ (fun hHeld => ?_); refine with_tabW tontinelaw18_KindWords.tab15 tontinelaw18_KindWords.bits15 (fun HT_ HW_ => ?_)
              generalize w45.drew = w46 at HO_9 HO_11 HO_12 HO_63 BK289 BK294 BK306 HB hx307_0 hx307_1 hHeld ⊢
              refine pure_ (i := 0) (N := some 69) (v := ?_) (a' := ?_) #[true, false, false, false, false, false, false, false, false, false, false, false] rfl rfl (any_of HT_.out sq2) (fun _ _ _ h => h) (Or.inl ⟨by rfl, ?_⟩) ?_ ?_
              rotate_left
              ·intro w'
               go_simp
               with_reducible rfl
              rotate_left
              ·simp only [Act.put, List.setIfInBounds_toArray, List.set_cons_zero, List.set_cons_succ, i64_w, i32_w]
               rfl
              refine pure_ (i := 1) (N := some 70) (v := ?_) (a' := ?_) #[true, true, false, false, false, false, false, false, false, false, false, false] rfl rfl (any_of HT_.out sq2) (fun _ _ _ h => h) (Or.inl ⟨by rfl, ?_⟩) ?_ ?_
              rotate_left
              ·intro w'
               go_simp
               with_reducible rfl
              rotate_left
              ·simp only [Act.put, List.setIfInBounds_toArray, List.set_cons_zero, List.set_cons_succ, i64_w, i32_w]
               rfl
              refine pure_ (i := 2) (N := some 71) (v := ?_) (a' := ?_) #[true, true, true, false, false, false, false, false, false, false, false, false] rfl rfl (any_of HT_.out sq2) (fun _ _ _ h => h) (Or.inl ⟨by rfl, ?_⟩) ?_ ?_
              rotate_left
              ·intro w'
               go_simp
               with_reducible rfl
              rotate_left
              ·simp only [Act.put, List.setIfInBounds_toArray, List.set_cons_zero, List.set_cons_succ, i64_w, i32_w]
               rfl
              refine pure_ (i := 4) (N := some 73) (v := ?_) (a' := ?_) #[true, true, true, false, true, false, false, false, false, false, false, false] rfl rfl (any_of HT_.out sq2) (fun _ _ _ h => h) (Or.inl ⟨by rfl, ?_⟩) ?_ ?_
              rotate_left
              ·intro w'
               go_simp
               with_reducible rfl
              rotate_left
              ·simp only [Act.put, List.setIfInBounds_toArray, List.set_cons_zero, List.set_cons_succ, i64_w, i32_w]
               rfl
              refine pure_ (i := 5) (N := some 74) (v := ?_) (a' := ?_) #[true, true, true, false, true, true, false, false, false, false, false, false] rfl rfl (any_of HT_.out sq2) (fun _ _ _ h => h) (Or.inl ⟨by rfl, ?_⟩) ?_ ?_
              rotate_left
              ·intro w'
               go_simp
               with_reducible rfl
              rotate_left
              ·simp only [Act.put, List.setIfInBounds_toArray, List.set_cons_zero, List.set_cons_succ, i64_w, i32_w]
               rfl
              refine pure_ (i := 6) (N := some 75) (v := ?_) (a' := ?_) #[true, true, true, false, true, true, true, false, false, false, false, false] rfl rfl (any_of HT_.out sq2) (fun _ _ _ h => h) (Or.inl ⟨by rfl, ?_⟩) ?_ ?_
              rotate_left
              ·intro w'
               go_simp
               with_reducible rfl
              rotate_left
              ·simp only [Act.put, List.setIfInBounds_toArray, List.set_cons_zero, List.set_cons_succ, i64_w, i32_w]
               rfl
              refine pure_ (i := 7) (N := some 76) (v := ?_) (a' := ?_) #[true, true, true, false, true, true, true, true, false, false, false, false] rfl rfl (any_of HT_.out sq2) (fun _ _ _ h => h) (Or.inl ⟨by rfl, ?_⟩) ?_ ?_
              rotate_left
              ·intro w'
               go_simp
               with_reducible rfl
              rotate_left
              ·simp only [Act.put, List.setIfInBounds_toArray, List.set_cons_zero, List.set_cons_succ, i64_w, i32_w]
               rfl
              refine take_ (i := 3) (N := some 72) (v := ?_) (a' := ?_) #[true, true, true, true, true, true, true, true, false, false, false, false] rfl rfl (take_ofW HT_.out HW_.out sq2) (fun _ _ _ h => h) (Or.inl ⟨by rfl, ?_⟩) hHeld ?_ ?_
              rotate_left
              ·rintro w' ⟨s0, s1, s2, s3⟩
               go_simp
               with_reducible rfl
              rotate_left
              ·simp only [Act.put, List.setIfInBounds_toArray, List.set_cons_zero, List.set_cons_succ, i64_w, i32_w]
               rfl
              refine take_ (i := 8) (N := some 77) (v := ?_) (a' := ?_) #[true, true, true, true, true, true, true, true, true, false, false, false] rfl rfl (take_ofW HT_.out HW_.out sq2) (fun _ _ _ h => h) (Or.inl ⟨by rfl, ?_⟩) hHeld ?_ ?_
              rotate_left
              ·rintro w' ⟨s0, s1, s2, s3⟩
               go_simp
               with_reducible rfl
              rotate_left
              ·simp only [Act.put, List.setIfInBounds_toArray, List.set_cons_zero, List.set_cons_succ, i64_w, i32_w]
               rfl
              refine pure_ (i := 9) (N := some 78) (v := ?_) (a' := ?_) #[true, true, true, true, true, true, true, true, true, true, false, false] rfl rfl (any_of HT_.out sq2) (fun _ _ _ h => h) (Or.inl ⟨by rfl, ?_⟩) ?_ ?_
              rotate_left
              ·intro w'
               go_simp
               with_reducible rfl
              rotate_left
              ·simp only [Act.put, List.setIfInBounds_toArray, List.set_cons_zero, List.set_cons_succ, i64_w, i32_w]
               rfl
              refine pure_ (i := 10) (N := some 79) (v := ?_) (a' := ?_) #[true, true, true, true, true, true, true, true, true, true, true, false] rfl rfl (any_of HT_.out sq2) (fun _ _ _ h => h) (Or.inl ⟨by rfl, ?_⟩) ?_ ?_
              rotate_left
              ·intro w'
               go_simp
               with_reducible rfl
              rotate_left
              ·simp only [Act.put, List.setIfInBounds_toArray, List.set_cons_zero, List.set_cons_succ, i64_w, i32_w]
               rfl
              refine pure_ (i := 11) (N := some 14) (v := ?_) (a' := ?_) #[true, true, true, true, true, true, true, true, true, true, true, true] rfl rfl (any_of HT_.out sq2) (fun _ _ _ h => h) (Or.inl ⟨by rfl, ?_⟩) ?_ ?_
              rotate_left
              ·intro w'
               go_simp
               with_reducible rfl
              rotate_left
              ·simp only [Act.put, List.setIfInBounds_toArray, List.set_cons_zero, List.set_cons_succ, i64_w, i32_w]
               rfl
              refine done_ (done_of HT_.out sq2) ?_
              try go_wp2
              go_roundg k3
              case measure => have := HJ7.out; have := HK2.out; have := HK3.out; omega
              case rel => exact ⟨((((rd_T59 x11_2 x65_3).f0).toList == ((rd_T59 l1 x13_2).f0).toList)), (wrap64 (x65_3 + 1)), sq5, sq5, H', ⟨by have := HJ7.out; have := HK2.out; have := HK3.out; omega⟩, ⟨sq16⟩, ⟨by (with_reducible repeat (first | apply Kd.R_alloc | apply Kd.R_drewN | apply Kd.R_drew)); exact Kd.R_mono HO_11.out (fun _ hk => ⟨hk.1, hk.2.1⟩)⟩, ⟨by (with_reducible repeat (first | apply Kd.R_alloc | apply Kd.R_drewN | apply Kd.R_drew)); exact Kd.R_mono HO_12.out (fun _ hk => ⟨hk.1, ⟨hk.2.1, hk.2.2.1⟩⟩)⟩, ⟨by (with_reducible repeat (first | apply Kd.R_alloc | apply Kd.R_drewN | apply Kd.R_drew)); exact Kd.R_mono HO_63.out (fun _ hk => ⟨hk.1, hk.2.1⟩)⟩, ⟨sq45⟩, ⟨sq46⟩, ⟨sq86⟩⟩
             rw [if_neg c40] at H
             exact absurd H (by simp)
            rw [if_neg c39] at H
            exact absurd H (by simp)
           rw [if_neg c31] at H
           exact absurd H (by simp)
          rw [if_neg c30] at H
          exact absurd H (by simp)
         rw [if_neg c29] at H
         have c29b0 : decide (x65_3 < (x11_2.length : Int)) = false := decide_eq_false c29; clear c29
         by_cases c47 : x14_3 = true
         ·subst c47
          replace H := (itT_ _ _).symm.trans H
          have H' := Aside0.mk H
          clear H
          go_wp2
          go_roundg k3
          case measure => have := HJ7.out; have := HK2.out; have := HK3.out; omega
          case rel => exact ⟨(x11_2), (x12_2), (wrap64 (x13_2 - 1)), sq5, H', ⟨by have := HJ7.out; have := HK2.out; have := HK3.out; omega⟩, ⟨sq16⟩, ⟨sq24⟩, ⟨by (with_reducible repeat (first | apply Kd.R_alloc | apply Kd.R_drewN | apply Kd.R_drew)); exact Kd.R_mono HO_12.out (fun _ hk => ⟨hk.1, hk.2.2⟩)⟩, ⟨sq45⟩, ⟨sq46⟩, ⟨sq79⟩⟩
         replace c47 := Bool.eq_false_iff.mpr c47
         subst c47
         replace H := (itF_ _ _).symm.trans H
         by_cases c48 : 0 ≤ x13_2
         ·rw [if_pos c48] at H
          have c48b0 : decide (0 ≤ x13_2) = true := decide_eq_true c48; clear c48
          by_cases c49 : x13_2 < (l1.length : Int)
          ·rw [if_pos c49] at H
           have c49b0 : decide (x13_2 < (l1.length : Int)) = true := decide_eq_true c49; clear c49
           obtain ⟨y309, hy309⟩ : ∃ y_ : List (S59), y_ = (([(⟨(rd_T59 l1 x13_2).f0, (rd_T59 l1 x13_2).f1⟩ : S59)] : List (S59))) := ⟨_, rfl⟩
           replace H : (if x11_2.length + y309.length < 5864062014805 then (tontinelaw18_KindWords.l2 k3 l0 l1 t291 t295 (x11_2 ++ y309) x12_2 x13_2 t295 (t295.length : Int) 0 a2_0 a2_1 t292 t293) else (none)) = some r := by first | (rw [hy309]; with_reducible exact H) | (have H2_ := (Option.bind_some _ _).symm.trans H; rw [hy309]; with_reducible exact H2_) | (have H2_ := (Option.bind_some _ _).symm.trans H; with_reducible exact H2_) | with_reducible exact H | (rw [hy309]; exact H) | exact H
           have Ny309 := Aside0.mk hy309
           clear hy309
           by_cases c50 : x11_2.length + y309.length < 5864062014805
           ·rw [if_pos c50] at H
            have LMc50 := Aside0.mk c50
            clear c50
            obtain ⟨y312, hy312⟩ : ∃ y_ : List (S59), y_ = (x11_2 ++ y309) := ⟨_, rfl⟩
            replace H : (tontinelaw18_KindWords.l2 k3 l0 l1 t291 t295 y312 x12_2 x13_2 t295 (t295.length : Int) 0 a2_0 a2_1 t292 t293) = some r := by first | (rw [hy312]; with_reducible exact H) | (have H2_ := (Option.bind_some _ _).symm.trans H; rw [hy312]; with_reducible exact H2_) | (have H2_ := (Option.bind_some _ _).symm.trans H; with_reducible exact H2_) | with_reducible exact H | (rw [hy312]; exact H) | exact H
            have Ny312 := Aside0.mk hy312
            clear hy312
            have H' := Aside0.mk H
            clear H
            have p308 : 0 ≤ (x13_2 : Int) := of_decide_eq_true sq6
            have q308 : x13_2 < (l1.length : Int) := of_decide_eq_true sq6
            obtain ⟨ad308, e308, hx308_0, hx308_1⟩ := at_T59 HR1.out x13_2 p308 q308
            cases e308
            try replace hx308_0 := (HB.out.cell (World.block_lt_of_cell? w _ hx308_0)).trans hx308_0
            try replace hx308_1 := (HB.out.cell (World.block_lt_of_cell? w _ hx308_1)).trans hx308_1
            replace p308 := eq_true p308
            replace q308 := eq_true q308
            go_wp2_with (first | ((with_reducible refine gate_dst (N := 87) rfl ?_); refine Kd.R_lit k59 _ 59 ?hg (N := 87) ?hd (xs := ([(⟨(rd_T59 l1 x13_2).f0, (rd_T59 l1 x13_2).f1⟩ : S59)] : List (S59))) (inner := [.string ((rd_T59 l1 x13_2).f0), .int .i64 ((rd_T59 l1 x13_2).f1)]) (ok := fun _ => True) (okp := fun _ => True) ?hr ?hp (fun _ hk => hk) trivial (Below.refl _ _) (Nat.le_refl _) (by simp) ?_; (case hd => rfl); (case hg => rfl); (case hr => first | (go_simp; done) | (go_simp; rfl)); (case hp => exact (Reps.c2 (show Kd.M k59 _ _ _ (⟨(rd_T59 l1 x13_2).f0, (rd_T59 l1 x13_2).f1⟩ : S59) [.string ((rd_T59 l1 x13_2).f0), .int .i64 ((rd_T59 l1 x13_2).f1)] from (k59_mkM _ _ _ (⟨(rd_T59 l1 x13_2).f0, (rd_T59 l1 x13_2).f1⟩ : S59) )) (Reps.none _ _))); intro v310 w51 ho52 hb hg_ hnew_; clear hg_ hnew_; (first | rw [← Ny309.out] at ho52 | (simp only [Int.reduceToNat] at ho52; rw [← Ny309.out] at ho52)); have n0_ := Aside0.mk (Kd.R_below sq16 hb); have n1_ := Aside0.mk (Kd.R_elder' sq24 (Kd.R_base ho52) hb); have n2_ := Aside0.mk (Kd.R_elder' sq25 (Kd.R_base ho52) hb); have n3_ := Aside0.mk (Kd.R_elder' sq26 (Kd.R_base ho52) hb); have n4_ := Aside0.mk (Kd.R_lower (Kd.R_newB (Kd.R_new' (Kd.R_new' (Kd.R_new' ho52 (Kd.R_lt sq24)) (Kd.R_lt sq25)) (Kd.R_lt sq26)) (g := gb289) (o := .cells #[.string a2_0, .int .i64 a2_1] 59 (0, 0)) sq45) (below_size sq79)); have n5_ := Aside0.mk (blk_below (g := gb289) (o := .cells #[.string a2_0, .int .i64 a2_1] 59 (0, 0)) sq45 hb); have n6_ := Aside0.mk (blk_below (g := gb294) (o := .cells #[.int .i64 t292, .int .i64 t293] 28 (0, 0)) sq46 hb); have n7_ := Aside0.mk (below_step sq79 hb); clear HO_9; clear HO_11; clear HO_12; clear HO_63; clear BK289; clear BK294; clear HB; have HO_9 := n0_; have HO_11 := n1_; have HO_12 := n2_; have HO_63 := n3_; have HO311 := n4_; have BK289 := n5_; have BK294 := n6_; have HB := n7_; clear n0_ n1_ n2_ n3_ n4_ n5_ n6_ n7_; clear hb ho52; obtain ⟨Ao54, co54, eo54⟩ := Kd.R_slice HO311.out; subst eo54) | ((with_reducible refine gate_builtin (b := .append) (xs := #[.tmp 82, .tmp 87]) rfl ?_); at_builtin; refine Kd.R_append_rows k59 (w0 := w) w.heap.size rfl (.tmp 82) (.tmp 87) 24 59 (.agg #[(.string ⟨#[]⟩), (.int .i64 0)]) 24 rfl Try.underlying24 info59 rfl sq1 sq0 (.slice Ao28 x11_2.length co28) x11_2 y309 _ _ _ (fun k_ => some k_ ≠ (u12 : Value).ownBlock ∧ some k_ ≠ (.slice Ao54 y309.length co54 : Value).ownBlock ∧ k_ ≠ gb289) (fun _ => False) rfl rfl ?aO ?aR (fun _ _ h => h) (fun _ h => h.elim) ?aF ?aB ?aS ?aL ?_; (case aR => repeat (first | exact (Kd.R_reads' HO311.out).2.2 | (with_reducible refine Kd.C_alloc ?_ _) | (with_reducible refine Kd.C_drewN ?_ _) | (with_reducible refine Kd.C_drew ?_))); (case aB => exact sq79); (case aF => exact (fun k_ hk => ⟨Kd.fresh' (Kd.R_lt sq25) k_ hk, Kd.fresh' (Kd.R_lt (by (with_reducible repeat (first | apply Kd.R_alloc | apply Kd.R_drewN | apply Kd.R_drew)); exact HO311.out)) k_ hk, Kd.freshB (g := gb289) (o := .cells #[.string a2_0, .int .i64 a2_1] 59 (0, 0)) sq45 k_ hk⟩)); (case aO => exact (by (with_reducible repeat (first | apply Kd.R_alloc | apply Kd.R_drewN | apply Kd.R_drew)); exact Kd.R_mono HO_11.out (fun _ hk => ⟨hk.1.1, ⟨hk.2, hk.1.2⟩⟩))); (case aS => exact (below_size sq79)); (case aL => have := LMc50.out; omega); intro v313 w53 ho hb hg hat; rw [← Ny312.out] at ho; have n0_ := Aside0.mk (Kd.R_over' sq16 (Kd.R_typed sq24) sq1 hg); have n1_ := Aside0.mk (Kd.R_after (ok := (fun k_ => some k_ ≠ (.slice Ao54 y309.length co54 : Value).ownBlock ∧ k_ ≠ gb289)) (by (with_reducible repeat (first | apply Kd.R_alloc | apply Kd.R_drewN | apply Kd.R_drew)); exact Kd.R_mono HO_12.out (fun _ hk => ⟨⟨hk.2, hk.1.2.2⟩, hk.1.1⟩)) hg hat); have n2_ := Aside0.mk (blk_grown (g := gb289) (o := .cells #[.string a2_0, .int .i64 a2_1] 59 (0, 0)) sq45 hg (Kd.R_away HO_11.out (fun _ hk => hk.1.2))); have n3_ := Aside0.mk (blk_grown (g := gb294) (o := .cells #[.int .i64 t292, .int .i64 t293] 28 (0, 0)) sq46 hg (Kd.R_ne HO_11.out BK294.out sq1)); have n4_ := Aside0.mk (Kd.R_after (ok := (fun k_ => some k_ ≠ (u12 : Value).ownBlock ∧ k_ ≠ gb289)) (by (with_reducible repeat (first | apply Kd.R_alloc | apply Kd.R_drewN | apply Kd.R_drew)); exact Kd.R_mono HO311.out (fun _ hk => ⟨⟨hk.1.1.2, hk.2⟩, hk.1.1.1.2⟩)) hg hat); have n5_ := Aside0.mk (hb); have n6_ := Aside0.mk (ho); clear HO_9; clear HO_12; clear BK289; clear BK294; clear HO311; clear HB; clear HO_11; have HO_9 := n0_; have HO_12 := n1_; have BK289 := n2_; have BK294 := n3_; have HO311 := n4_; have HB := n5_; have HO314 := n6_; clear n0_ n1_ n2_ n3_ n4_ n5_ n6_; clear ho hb hg hat; obtain ⟨Ao55, co55, eo55⟩ := Kd.R_slice HO_9.out; subst eo55))
            go_loopg [12, 91] k3 (fun kq v12 v91 w' => ∃ (x12_4 : List (S59)) (x91_4 : Int), v91 = .int .i64 x91_4 ∧ Aside0 (tontinelaw18_KindWords.l2 kq l0 l1 t291 t295 y312 x12_4 x13_2 t295 (t295.length : Int) x91_4 a2_0 a2_1 t292 t293 = some r) ∧ Aside0 (kq ≤ k3) ∧ Aside0 (Kd.R Kd.string 9 w' w.heap.size (fun _ => True) (.slice Ao55 t295.length co55) t295) ∧ Aside0 (Kd.R k59 59 w' w.heap.size (fun k_ => some k_ ≠ (v12 : Value).ownBlock ∧ k_ ≠ gb289) v313 y312) ∧ Aside0 (Kd.R k59 59 w' w.heap.size (fun k_ => some k_ ≠ (v313 : Value).ownBlock ∧ k_ ≠ gb289) v12 x12_4) ∧ Aside0 (Kd.R Kd.string 9 w' w.heap.size (fun _ => True) (.slice Ao55 t295.length co55) t295) ∧ Aside0 (w'.heap[gb289]? = some (.cells #[.string a2_0, .int .i64 a2_1] 59 (0, 0))) ∧ Aside0 (w'.heap[gb294]? = some (.cells #[.int .i64 t292, .int .i64 t293] 28 (0, 0))) ∧ Aside0 (Below w.heap.size w w'))
            case atStart => exact ⟨(x12_2), (0), sq5, H', ⟨Nat.le_refl _⟩, ⟨sq16⟩, ⟨by (with_reducible repeat (first | apply Kd.R_alloc | apply Kd.R_drewN | apply Kd.R_drew)); exact Kd.R_mono HO314.out (fun _ hk => ⟨hk.1, hk.2.2⟩)⟩, ⟨by (with_reducible repeat (first | apply Kd.R_alloc | apply Kd.R_drewN | apply Kd.R_drew)); exact Kd.R_mono HO_12.out (fun _ hk => ⟨hk.2, hk.1.2⟩)⟩, ⟨sq16⟩, ⟨sq45⟩, ⟨sq46⟩, ⟨sq79⟩⟩
            case round =>
             clear H'
             try clear c1; try clear c2; try clear p2; try clear c3; try clear p3; try clear q3; try clear hx3; try clear c4; try clear c5; try clear p6; try clear c10; try clear c13; try clear c16; try clear c16b0; try clear c16b1; try clear c17; try clear c17b0; try clear c17b1; try clear c18; try clear c20; try clear c22; try clear c27; try clear c27b0; try clear c29; try clear c29b0; try clear c30; try clear c30b0; try clear p30; try clear q30; try clear hx30; try clear c31; try clear c31b0; try clear c32; try clear c34; try clear c35; try clear c39; try clear c39b0; try clear c40; try clear c40b0; try clear c42; try clear c43; try clear c47; try clear c48; try clear c48b0; try clear c49; try clear c49b0; try clear c50; try clear hcz14_0; try clear hcz14_1; try clear hcz19_0; try clear hcz19_1; try clear hcz21_0; try clear hcz21_1; try clear hcz36_0; try clear hcz36_1; try clear hcz44_0; try clear hcz44_1; try clear hfz14_0; try clear hfz14_1; try clear hfz19_0; try clear hfz19_1; try clear hfz21_0; try clear hfz21_1; try clear hfz36_0; try clear hfz36_1; try clear hfz44_0; try clear hfz44_1; try clear hx305_0; try clear hx305_1; try clear hx307_0; try clear hx307_1; try clear hx308_0; try clear hx308_1; try clear p2; try clear p305; try clear p307; try clear p308; try clear p6; try clear q305; try clear q307; try clear q308
             obtain ⟨x12_4, x91_4, rfl, HA, HK4, HO_9, HO_11, HO_12, HO_89, BK289, BK294, HB⟩ := hrel
             cases gk with
             | zero => exact absurd HA.out (by simp [tontinelaw18_KindWords.l2])
             | succ k4 =>
              have H := HA.out
              clear HA
              simp only [tontinelaw18_KindWords.l2] at H
              by_cases c56 : x91_4 < (t295.length : Int)
              ·rw [if_pos c56] at H
               have c56b0 : decide (x91_4 < (t295.length : Int)) = true := decide_eq_true c56; clear c56
               by_cases c57 : 0 ≤ x91_4
               ·rw [if_pos c57] at H
                have c57b0 : decide (0 ≤ x91_4) = true := decide_eq_true c57; clear c57
                by_cases c58 : x91_4 < (t295.length : Int)
                ·rw [if_pos c58] at H
                 have c58b0 : decide (x91_4 < (t295.length : Int)) = true := decide_eq_true c58; clear c58
                 by_cases c59 : 0 ≤ x13_2
                 ·rw [if_pos c59] at H
                  have c59b0 : decide (0 ≤ x13_2) = true := decide_eq_true c59; clear c59
                  by_cases c60 : x13_2 < (l1.length : Int)
                  ·rw [if_pos c60] at H
                   have c60b0 : decide (x13_2 < (l1.length : Int)) = true := decide_eq_true c60; clear c60
                   by_cases c61 : (rdOf ByteArray.empty t295 x91_4).toList = ((rd_T59 l1 x13_2).f0).toList
                   ·rw [if_pos c61] at H
                    have c61b0 : ((rdOf ByteArray.empty t295 x91_4).toList == ((rd_T59 l1 x13_2).f0).toList) = true := beq_iff_eq.mpr c61
                    have c61b1 : ((rdOf ByteArray.empty t295 x91_4).toList != ((rd_T59 l1 x13_2).f0).toList) = false := bne_eq_false_iff_eq.mpr c61
                    clear c61
                    obtain ⟨y318, hy318⟩ : ∃ y_ : List (S59), y_ = (([(⟨(rd_T59 l1 x13_2).f0, (rd_T59 l1 x13_2).f1⟩ : S59)] : List (S59))) := ⟨_, rfl⟩
                    replace H : (if x12_4.length + y318.length < 5864062014805 then (tontinelaw18_KindWords.l2 k4 l0 l1 t291 t295 y312 (x12_4 ++ y318) x13_2 t295 (t295.length : Int) (wrap64 (x91_4 + 1)) a2_0 a2_1 t292 t293) else (none)) = some r := by first | (rw [hy318]; with_reducible exact H) | (have H2_ := (Option.bind_some _ _).symm.trans H; rw [hy318]; with_reducible exact H2_) | (have H2_ := (Option.bind_some _ _).symm.trans H; with_reducible exact H2_) | with_reducible exact H | (rw [hy318]; exact H) | exact H
                    have Ny318 := Aside0.mk hy318
                    clear hy318
                    by_cases c62 : x12_4.length + y318.length < 5864062014805
                    ·rw [if_pos c62] at H
                     have LMc62 := Aside0.mk c62
                     clear c62
                     obtain ⟨y321, hy321⟩ : ∃ y_ : List (S59), y_ = (x12_4 ++ y318) := ⟨_, rfl⟩
                     replace H : (tontinelaw18_KindWords.l2 k4 l0 l1 t291 t295 y312 y321 x13_2 t295 (t295.length : Int) (wrap64 (x91_4 + 1)) a2_0 a2_1 t292 t293) = some r := by first | (rw [hy321]; with_reducible exact H) | (have H2_ := (Option.bind_some _ _).symm.trans H; rw [hy321]; with_reducible exact H2_) | (have H2_ := (Option.bind_some _ _).symm.trans H; with_reducible exact H2_) | with_reducible exact H | (rw [hy321]; exact H) | exact H
                     have Ny321 := Aside0.mk hy321
                     clear hy321
                     have H' := Aside0.mk H
                     clear H
                     have p315 : 0 ≤ (x91_4 : Int) := of_decide_eq_true sq6
                     have q315 : x91_4 < (t295.length : Int) := of_decide_eq_true sq6
                     obtain ⟨ad315, e315, hx315_0⟩ := Kd.at_string (Kd.R_reads' HO_89.out).2.2 x91_4 p315 q315
                     cases e315
                     replace p315 := eq_true p315
                     replace q315 := eq_true q315
                     have p316 : 0 ≤ (x13_2 : Int) := of_decide_eq_true sq6
                     have q316 : x13_2 < (l1.length : Int) := of_decide_eq_true sq6
                     obtain ⟨ad316, e316, hx316_0, hx316_1⟩ := at_T59 HR1.out x13_2 p316 q316
                     obtain rfl : ad308 = ad316 := (by injection e316)
                     try replace hx316_0 := (HB.out.cell (World.block_lt_of_cell? w _ hx316_0)).trans hx316_0
                     try replace hx316_1 := (HB.out.cell (World.block_lt_of_cell? w _ hx316_1)).trans hx316_1
                     replace p316 := eq_true p316
                     replace q316 := eq_true q316
                     have p317 : 0 ≤ (x13_2 : Int) := of_decide_eq_true sq6
                     have q317 : x13_2 < (l1.length : Int) := of_decide_eq_true sq6
                     obtain ⟨ad317, e317, hx317_0, hx317_1⟩ := at_T59 HR1.out x13_2 p317 q317
                     obtain rfl : ad308 = ad317 := (by injection e317)
                     try replace hx317_0 := (HB.out.cell (World.block_lt_of_cell? w _ hx317_0)).trans hx317_0
                     try replace hx317_1 := (HB.out.cell (World.block_lt_of_cell? w _ hx317_1)).trans hx317_1
                     replace p317 := eq_true p317
                     replace q317 := eq_true q317
                     go_wp2_with (first | ((with_reducible refine gate_dst (N := 107) rfl ?_); refine Kd.R_lit k59 _ 59 ?hg (N := 107) ?hd (xs := ([(⟨(rd_T59 l1 x13_2).f0, (rd_T59 l1 x13_2).f1⟩ : S59)] : List (S59))) (inner := [.string ((rd_T59 l1 x13_2).f0), .int .i64 ((rd_T59 l1 x13_2).f1)]) (ok := fun _ => True) (okp := fun _ => True) ?hr ?hp (fun _ hk => hk) trivial (Below.refl _ _) (Nat.le_refl _) (by simp) ?_; (case hd => rfl); (case hg => rfl); (case hr => first | (go_simp; done) | (go_simp; rfl)); (case hp => exact (Reps.c2 (show Kd.M k59 _ _ _ (⟨(rd_T59 l1 x13_2).f0, (rd_T59 l1 x13_2).f1⟩ : S59) [.string ((rd_T59 l1 x13_2).f0), .int .i64 ((rd_T59 l1 x13_2).f1)] from (k59_mkM _ _ _ (⟨(rd_T59 l1 x13_2).f0, (rd_T59 l1 x13_2).f1⟩ : S59) )) (Reps.none _ _))); intro v319 w63 ho64 hb hg_ hnew_; clear hg_ hnew_; (first | rw [← Ny318.out] at ho64 | (simp only [Int.reduceToNat] at ho64; rw [← Ny318.out] at ho64)); have n0_ := Aside0.mk (Kd.R_below sq16 hb); have n1_ := Aside0.mk (Kd.R_elder' sq24 (Kd.R_base ho64) hb); have n2_ := Aside0.mk (Kd.R_elder' sq25 (Kd.R_base ho64) hb); have n3_ := Aside0.mk (Kd.R_below sq27 hb); have n4_ := Aside0.mk (Kd.R_lower (Kd.R_newB (Kd.R_new' (Kd.R_new' ho64 (Kd.R_lt sq24)) (Kd.R_lt sq25)) (g := gb289) (o := .cells #[.string a2_0, .int .i64 a2_1] 59 (0, 0)) sq45) (below_size sq79)); have n5_ := Aside0.mk (blk_below (g := gb289) (o := .cells #[.string a2_0, .int .i64 a2_1] 59 (0, 0)) sq45 hb); have n6_ := Aside0.mk (blk_below (g := gb294) (o := .cells #[.int .i64 t292, .int .i64 t293] 28 (0, 0)) sq46 hb); have n7_ := Aside0.mk (below_step sq79 hb); clear HO_9; clear HO_11; clear HO_12; clear HO_89; clear BK289; clear BK294; clear HB; have HO_9 := n0_; have HO_11 := n1_; have HO_12 := n2_; have HO_89 := n3_; have HO320 := n4_; have BK289 := n5_; have BK294 := n6_; have HB := n7_; clear n0_ n1_ n2_ n3_ n4_ n5_ n6_ n7_; clear hb ho64; obtain ⟨Ao66, co66, eo66⟩ := Kd.R_slice HO320.out; subst eo66) | ((with_reducible refine gate_builtin (b := .append) (xs := #[.tmp 102, .tmp 107]) rfl ?_); at_builtin; refine Kd.R_append_rows k59 (w0 := w) w.heap.size rfl (.tmp 102) (.tmp 107) 24 59 (.agg #[(.string ⟨#[]⟩), (.int .i64 0)]) 24 rfl Try.underlying24 info59 rfl sq1 sq0 u12 x12_4 y318 _ _ _ (fun k_ => some k_ ≠ (v313 : Value).ownBlock ∧ some k_ ≠ (.slice Ao66 y318.length co66 : Value).ownBlock ∧ k_ ≠ gb289) (fun _ => False) rfl rfl ?aO ?aR (fun _ _ h => h) (fun _ h => h.elim) ?aF ?aB ?aS ?aL ?_; (case aR => repeat (first | exact (Kd.R_reads' HO320.out).2.2 | (with_reducible refine Kd.C_alloc ?_ _) | (with_reducible refine Kd.C_drewN ?_ _) | (with_reducible refine Kd.C_drew ?_))); (case aB => exact sq79); (case aF => exact (fun k_ hk => ⟨Kd.fresh' (Kd.R_lt sq24) k_ hk, Kd.fresh' (Kd.R_lt (by (with_reducible repeat (first | apply Kd.R_alloc | apply Kd.R_drewN | apply Kd.R_drew)); exact HO320.out)) k_ hk, Kd.freshB (g := gb289) (o := .cells #[.string a2_0, .int .i64 a2_1] 59 (0, 0)) sq45 k_ hk⟩)); (case aO => exact (by (with_reducible repeat (first | apply Kd.R_alloc | apply Kd.R_drewN | apply Kd.R_drew)); exact Kd.R_mono HO_12.out (fun _ hk => ⟨hk.1.1, ⟨hk.2, hk.1.2⟩⟩))); (case aS => exact (below_size sq79)); (case aL => have := LMc62.out; omega); intro v322 w65 ho hb hg hat; rw [← Ny321.out] at ho; have n0_ := Aside0.mk (Kd.R_over' sq16 (Kd.R_typed sq25) sq1 hg); have n1_ := Aside0.mk (Kd.R_after (ok := (fun k_ => some k_ ≠ (.slice Ao66 y318.length co66 : Value).ownBlock ∧ k_ ≠ gb289)) (by (with_reducible repeat (first | apply Kd.R_alloc | apply Kd.R_drewN | apply Kd.R_drew)); exact Kd.R_mono HO_11.out (fun _ hk => ⟨⟨hk.2, hk.1.2⟩, hk.1.1⟩)) hg hat); have n2_ := Aside0.mk (Kd.R_over' sq27 (Kd.R_typed sq25) sq1 hg); have n3_ := Aside0.mk (blk_grown (g := gb289) (o := .cells #[.string a2_0, .int .i64 a2_1] 59 (0, 0)) sq45 hg (Kd.R_away HO_12.out (fun _ hk => hk.1.2))); have n4_ := Aside0.mk (blk_grown (g := gb294) (o := .cells #[.int .i64 t292, .int .i64 t293] 28 (0, 0)) sq46 hg (Kd.R_ne HO_12.out BK294.out sq1)); have n5_ := Aside0.mk (Kd.R_after (ok := (fun k_ => some k_ ≠ (v313 : Value).ownBlock ∧ k_ ≠ gb289)) (by (with_reducible repeat (first | apply Kd.R_alloc | apply Kd.R_drewN | apply Kd.R_drew)); exact Kd.R_mono HO320.out (fun _ hk => ⟨⟨hk.1.1.2, hk.2⟩, hk.1.2⟩)) hg hat); have n6_ := Aside0.mk (hb); have n7_ := Aside0.mk (ho); clear HO_9; clear HO_11; clear HO_89; clear BK289; clear BK294; clear HO320; clear HB; clear HO_12; have HO_9 := n0_; have HO_11 := n1_; have HO_89 := n2_; have BK289 := n3_; have BK294 := n4_; have HO320 := n5_; have HB := n6_; have HO323 := n7_; clear n0_ n1_ n2_ n3_ n4_ n5_ n6_ n7_; clear ho hb hg hat))
                     go_roundg k4
                     case measure => have := HJ7.out; have := HK2.out; have := HK3.out; have := HK4.out; omega
                     case rel => exact ⟨(y321), (wrap64 (x91_4 + 1)), sq5, H', ⟨by have := HJ7.out; have := HK2.out; have := HK3.out; have := HK4.out; omega⟩, ⟨sq16⟩, ⟨by (with_reducible repeat (first | apply Kd.R_alloc | apply Kd.R_drewN | apply Kd.R_drew)); exact Kd.R_mono HO_11.out (fun _ hk => ⟨hk.2, hk.1.2⟩)⟩, ⟨by (with_reducible repeat (first | apply Kd.R_alloc | apply Kd.R_drewN | apply Kd.R_drew)); exact Kd.R_mono HO323.out (fun _ hk => ⟨hk.1, hk.2.2⟩)⟩, ⟨sq27⟩, ⟨sq45⟩, ⟨sq46⟩, ⟨sq79⟩⟩
                    rw [if_neg c62] at H
                    exact absurd H (by simp)
                   rw [if_neg c61] at H
                   have c61b0 : ((rdOf ByteArray.empty t295 x91_4).toList == ((rd_T59 l1 x13_2).f0).toList) = false := beq_eq_false_iff_ne.mpr c61
                   have c61b1 : ((rdOf ByteArray.empty t295 x91_4).toList != ((rd_T59 l1 x13_2).f0).toList) = true := bne_iff_ne.mpr c61
                   have H' := Aside0.mk H
                   clear H
                   have p315 : 0 ≤ (x91_4 : Int) := of_decide_eq_true sq6
                   have q315 : x91_4 < (t295.length : Int) := of_decide_eq_true sq6
                   obtain ⟨ad315, e315, hx315_0⟩ := Kd.at_string (Kd.R_reads' HO_89.out).2.2 x91_4 p315 q315
                   cases e315
                   replace p315 := eq_true p315
                   replace q315 := eq_true q315
                   have p316 : 0 ≤ (x13_2 : Int) := of_decide_eq_true sq6
                   have q316 : x13_2 < (l1.length : Int) := of_decide_eq_true sq6
                   obtain ⟨ad316, e316, hx316_0, hx316_1⟩ := at_T59 HR1.out x13_2 p316 q316
                   obtain rfl : ad308 = ad316 := (by injection e316)
                   try replace hx316_0 := (HB.out.cell (World.block_lt_of_cell? w _ hx316_0)).trans hx316_0
                   try replace hx316_1 := (HB.out.cell (World.block_lt_of_cell? w _ hx316_1)).trans hx316_1
                   replace p316 := eq_true p316
                   replace q316 := eq_true q316
                   go_wp2
                   go_roundg k4
                   case measure => have := HJ7.out; have := HK2.out; have := HK3.out; have := HK4.out; omega
                   case rel => exact ⟨(x12_4), (wrap64 (x91_4 + 1)), sq5, H', ⟨by have := HJ7.out; have := HK2.out; have := HK3.out; have := HK4.out; omega⟩, ⟨sq16⟩, ⟨sq24⟩, ⟨sq25⟩, ⟨sq27⟩, ⟨sq45⟩, ⟨sq46⟩, ⟨sq79⟩⟩
                  rw [if_neg c60] at H
                  exact absurd H (by simp)
                 rw [if_neg c59] at H
                 exact absurd H (by simp)
                rw [if_neg c58] at H
                exact absurd H (by simp)
               rw [if_neg c57] at H
               exact absurd H (by simp)
              rw [if_neg c56] at H
              have c56b0 : decide (x91_4 < (t295.length : Int)) = false := decide_eq_false c56; clear c56
              have H' := Aside0.mk H
              clear H
              go_wp2
              go_roundg k4
              case measure => have := HJ7.out; have := HK2.out; have := HK3.out; have := HK4.out; omega
              case rel => exact ⟨(y312), (x12_4), (wrap64 (x13_2 - 1)), sq5, H', ⟨by have := HJ7.out; have := HK2.out; have := HK3.out; have := HK4.out; omega⟩, ⟨sq16⟩, ⟨sq24⟩, ⟨sq25⟩, ⟨sq45⟩, ⟨sq46⟩, ⟨sq79⟩⟩
           rw [if_neg c50] at H
           exact absurd H (by simp)
          rw [if_neg c49] at H
          exact absurd H (by simp)
         rw [if_neg c48] at H
         exact absurd H (by simp)
      rw [if_neg c27] at H
      have c27b0 : decide (0 ≤ x13_2) = false := decide_eq_false c27; clear c27
      replace H := Option.bind_eq_some_iff.mp H
      obtain ⟨⟨t324, t325, t326⟩, A670, H⟩ := H
      replace H : ((kind_Of.f k2 l0 x12_2).bind fun bt328 => (if t291 = t324 then (if (!(t292 == t325) || (!(t293 == t326))) = true then (tontinelaw18_KindWords.j4 k2 l0 l1 t291 t295 true a2_0 a2_1 t292 t293) else (if t291 = bt328.1 then (tontinelaw18_KindWords.j4 k2 l0 l1 t291 t295 (!(t292 == bt328.2.1) || (!(t293 == bt328.2.2))) a2_0 a2_1 t292 t293) else (tontinelaw18_KindWords.j4 k2 l0 l1 t291 t295 true a2_0 a2_1 t292 t293))) else (tontinelaw18_KindWords.j4 k2 l0 l1 t291 t295 true a2_0 a2_1 t292 t293))) = some r := H
      have A67 := Aside0.mk A670
      clear A670
      replace H := Option.bind_eq_some_iff.mp H
      obtain ⟨⟨t328, t329, t330⟩, A680, H⟩ := H
      replace H : (if t291 = t324 then (if (!(t292 == t325) || (!(t293 == t326))) = true then (tontinelaw18_KindWords.j4 k2 l0 l1 t291 t295 true a2_0 a2_1 t292 t293) else (if t291 = t328 then (tontinelaw18_KindWords.j4 k2 l0 l1 t291 t295 (!(t292 == t329) || (!(t293 == t330))) a2_0 a2_1 t292 t293) else (tontinelaw18_KindWords.j4 k2 l0 l1 t291 t295 true a2_0 a2_1 t292 t293))) else (tontinelaw18_KindWords.j4 k2 l0 l1 t291 t295 true a2_0 a2_1 t292 t293)) = some r := H
      have A68 := Aside0.mk A680
      clear A680
      have HC69 := Aside0.mk H
      clear H
      obtain ⟨Ao70, co70, eo70⟩ := Kd.R_slice HO_11.out
      subst eo70
      go_upto_region 27 with (first | ((with_reducible refine gate_callee (f := 10) rfl ?_); refine goesL_ (some 113) rfl rfl Try.func10 sq2 rfl #[.slice A0 l0.length c0, .slice Ao70 x11_2.length co70] rfl sq51 ?_; (with_reducible refine (kind_Of.calls k2 _ _ l0 _ _ x11_2 t324 t325 t326 _ ?side5 ?side1 ?side2 ?side3 ?side4 A67.out).mono ?_); (case side1 => repeat (first | exact (Kd.C_below HR0.out HB.out) | (with_reducible refine Kd.C_alloc ?_ _) | (with_reducible refine Kd.C_drewN ?_ _) | (with_reducible refine Kd.C_drew ?_))); (case side2 => exact HC0.out); (case side3 => repeat (first | exact (Kd.R_reads' HO_11.out).2.2 | (with_reducible refine Kd.C_alloc ?_ _) | (with_reducible refine Kd.C_drewN ?_ _) | (with_reducible refine Kd.C_drew ?_))); (case side4 => exact (Kd.R_reads' HO_11.out).2.1); (case side5 => exact Glob.below HG.out sq79); rintro e w71 ⟨rfl, hb⟩; refine ⟨_, rfl, ?_⟩; have n0_ := Aside0.mk (Kd.R_below sq16 hb); have n1_ := Aside0.mk (Kd.R_below sq24 hb); have n2_ := Aside0.mk (Kd.R_below sq25 hb); have n3_ := Aside0.mk (blk_below (g := gb289) (o := .cells #[.string a2_0, .int .i64 a2_1] 59 (0, 0)) sq45 hb); have n4_ := Aside0.mk (blk_below (g := gb294) (o := .cells #[.int .i64 t292, .int .i64 t293] 28 (0, 0)) sq46 hb); have n5_ := Aside0.mk (below_step sq79 hb); clear HO_9; clear HO_11; clear HO_12; clear BK289; clear BK294; clear HB; have HO_9 := n0_; have HO_11 := n1_; have HO_12 := n2_; have BK289 := n3_; have BK294 := n4_; have HB := n5_; clear n0_ n1_ n2_ n3_ n4_ n5_; (try clear hb); (try clear hb2); (try clear hk); (try clear hi)) | ((with_reducible refine gate_dst (N := 20) rfl ?_); refine box_event ?hg (N := 20) ?hd (cs := #[.int .i64 0, .int .i64 0]) (t := 28) ?hr ?_; (case hd => rfl); (case hg => rfl); (case hr => first | (go_simp; done) | (go_simp; rfl)); intro gb327 hg w72 hbox hb; have n0_ := Aside0.mk (Kd.R_below sq16 hb); have n1_ := Aside0.mk (Kd.R_below sq24 hb); have n2_ := Aside0.mk (Kd.R_below sq25 hb); have n3_ := Aside0.mk (blk_below (g := gb289) (o := .cells #[.string a2_0, .int .i64 a2_1] 59 (0, 0)) sq45 hb); have n4_ := Aside0.mk (blk_below (g := gb294) (o := .cells #[.int .i64 t292, .int .i64 t293] 28 (0, 0)) sq46 hb); have n5_ := Aside0.mk (below_step sq79 hb); have n6_ := Aside0.mk (hbox); have n7_ := Aside0.mk ((by rw [hg]; exact (below_size sq79) : w.heap.size ≤ gb327)); have n8_ := Aside0.mk ((by rw [hg]; exact (below_size sq79) : w.heap.size ≤ gb327)); have n9_ := Aside0.mk ((by rw [hg]; exact Nat.ne_of_lt (blk_lt (g := gb289) (o := .cells #[.string a2_0, .int .i64 a2_1] 59 (0, 0)) sq45) : gb289 ≠ gb327)); have n10_ := Aside0.mk ((by rw [hg]; exact Nat.ne_of_gt (blk_lt (g := gb289) (o := .cells #[.string a2_0, .int .i64 a2_1] 59 (0, 0)) sq45) : gb327 ≠ gb289)); have n11_ := Aside0.mk ((by rw [hg]; exact Nat.ne_of_lt (blk_lt (g := gb294) (o := .cells #[.int .i64 t292, .int .i64 t293] 28 (0, 0)) sq46) : gb294 ≠ gb327)); have n12_ := Aside0.mk ((by rw [hg]; exact Nat.ne_of_gt (blk_lt (g := gb294) (o := .cells #[.int .i64 t292, .int .i64 t293] 28 (0, 0)) sq46) : gb327 ≠ gb294)); clear HO_9; clear HO_11; clear HO_12; clear BK289; clear BK294; clear HB; have HO_9 := n0_; have HO_11 := n1_; have HO_12 := n2_; have BK289 := n3_; have BK294 := n4_; have HB := n5_; have BK327 := n6_; have GW327 := n7_; have GE327 := n8_; have NB289_327 := n9_; have NB327_289 := n10_; have NB294_327 := n11_; have NB327_294 := n12_; clear n0_ n1_ n2_ n3_ n4_ n5_ n6_ n7_ n8_ n9_ n10_ n11_ n12_; clear hb hbox hg; have hnb73 := NB327_289.out; have hnc73 := NB289_327.out; have hnb74 := NB327_294.out; have hnc74 := NB294_327.out; have hcz75_0 : w72.cell? ⟨gb327, 0, none⟩ = some (.int .i64 0) := (blk_cell BK327.out 0).trans rfl; have hcz75_1 : w72.cell? ⟨gb327, 1, none⟩ = some (.int .i64 0) := (blk_cell BK327.out 1).trans rfl; have hfz75_0 := blk_frozen BK327.out 0; have hfz75_1 := blk_frozen BK327.out 1; obtain ⟨Ao76, co76, eo76⟩ := Kd.R_slice HO_12.out; subst eo76) | ((with_reducible refine gate_callee (f := 10) rfl ?_); refine goesL_ (some 119) rfl rfl Try.func10 sq2 rfl #[.slice A0 l0.length c0, .slice Ao76 x12_2.length co76] rfl sq51 ?_; (with_reducible refine (kind_Of.calls k2 _ _ l0 _ _ x12_2 t328 t329 t330 _ ?side5 ?side1 ?side2 ?side3 ?side4 A68.out).mono ?_); (case side1 => exact Kd.C_below HR0.out sq87); (case side2 => exact HC0.out); (case side3 => refine (Kd.R_reads' (e := 59) (base := w.heap.size) (ok := fun k_ => (some k_ ≠ (.slice Ao70 x11_2.length co70 : Value).ownBlock ∧ k_ ≠ gb289)) (n := x12_2.length) (c := co76) ?_).2.2; exact sq97); (case side4 => exact (Kd.R_reads' HO_12.out).2.1); (case side5 => exact Glob.below HG.out sq87); rintro e w77 ⟨rfl, hb⟩; refine ⟨_, rfl, ?_⟩; have n0_ := Aside0.mk (Kd.R_below (by (with_reducible repeat (first | apply Kd.R_alloc | apply Kd.R_drewN | apply Kd.R_drew)); exact (Kd.R_mono (Kd.R_far (p := ⟨gb327, 1, none⟩) (Kd.R_far (p := ⟨gb327, 0, none⟩) (Kd.R_types HO_9.out BK327.out sq1) (fun _ hk => hk.2) (.int .i64 t325)) (fun _ hk => hk.2) (.int .i64 t326)) (fun _ h_ => h_.1))) hb); have n1_ := Aside0.mk (Kd.R_below (by (with_reducible repeat (first | apply Kd.R_alloc | apply Kd.R_drewN | apply Kd.R_drew)); exact (Kd.R_mono (Kd.R_far (p := ⟨gb327, 1, none⟩) (Kd.R_far (p := ⟨gb327, 0, none⟩) (Kd.R_types HO_11.out BK327.out sq1) (fun _ hk => hk.2) (.int .i64 t325)) (fun _ hk => hk.2) (.int .i64 t326)) (fun _ h_ => h_.1))) hb); have n2_ := Aside0.mk (Kd.R_below sq97 hb); have n3_ := Aside0.mk (blk_below (g := gb289) (o := .cells #[.string a2_0, .int .i64 a2_1] 59 (0, 0)) (by (with_reducible repeat (first | refine blk_drewN ?_ _ | refine blk_drew ?_ | refine blk_alloc ?_ _)); refine blk_far ?_ NB289_327.out _; (with_reducible repeat (first | refine blk_drewN ?_ _ | refine blk_drew ?_ | refine blk_alloc ?_ _)); refine blk_far ?_ NB289_327.out _; (with_reducible repeat (first | refine blk_drewN ?_ _ | refine blk_drew ?_ | refine blk_alloc ?_ _)); exact BK289.out) hb); have n4_ := Aside0.mk (blk_below (g := gb294) (o := .cells #[.int .i64 t292, .int .i64 t293] 28 (0, 0)) (by (with_reducible repeat (first | refine blk_drewN ?_ _ | refine blk_drew ?_ | refine blk_alloc ?_ _)); refine blk_far ?_ NB294_327.out _; (with_reducible repeat (first | refine blk_drewN ?_ _ | refine blk_drew ?_ | refine blk_alloc ?_ _)); refine blk_far ?_ NB294_327.out _; (with_reducible repeat (first | refine blk_drewN ?_ _ | refine blk_drew ?_ | refine blk_alloc ?_ _)); exact BK294.out) hb); have n5_ := Aside0.mk (blk_below (g := gb327) (o := .cells #[.int .i64 t325, .int .i64 t326] 28 (0, 0)) (by (with_reducible repeat (first | refine blk_drewN ?_ _ | refine blk_drew ?_ | refine blk_alloc ?_ _)); refine blk_put (cs := #[.int .i64 t325, .int .i64 0]) ?_ 1 _ rfl; (with_reducible repeat (first | refine blk_drewN ?_ _ | refine blk_drew ?_ | refine blk_alloc ?_ _)); refine blk_put (cs := #[.int .i64 0, .int .i64 0]) ?_ 0 _ rfl; (with_reducible repeat (first | refine blk_drewN ?_ _ | refine blk_drew ?_ | refine blk_alloc ?_ _)); exact BK327.out) hb); have n6_ := Aside0.mk (below_step sq87 hb); clear HO_9; clear HO_11; clear HO_12; clear BK289; clear BK294; clear BK327; clear HB; have HO_9 := n0_; have HO_11 := n1_; have HO_12 := n2_; have BK289 := n3_; have BK294 := n4_; have BK327 := n5_; have HB := n6_; clear n0_ n1_ n2_ n3_ n4_ n5_ n6_; (try clear hb); (try clear hb2); (try clear hk); (try clear hi)) | ((with_reducible refine gate_dst (N := 22) rfl ?_); refine box_event ?hg (N := 22) ?hd (cs := #[.int .i64 0, .int .i64 0]) (t := 28) ?hr ?_; (case hd => rfl); (case hg => rfl); (case hr => first | (go_simp; done) | (go_simp; rfl)); intro gb331 hg w78 hbox hb; have n0_ := Aside0.mk (Kd.R_below sq16 hb); have n1_ := Aside0.mk (Kd.R_below sq24 hb); have n2_ := Aside0.mk (Kd.R_below sq25 hb); have n3_ := Aside0.mk (blk_below (g := gb289) (o := .cells #[.string a2_0, .int .i64 a2_1] 59 (0, 0)) sq45 hb); have n4_ := Aside0.mk (blk_below (g := gb294) (o := .cells #[.int .i64 t292, .int .i64 t293] 28 (0, 0)) sq46 hb); have n5_ := Aside0.mk (blk_below (g := gb327) (o := .cells #[.int .i64 t325, .int .i64 t326] 28 (0, 0)) sq47 hb); have n6_ := Aside0.mk (below_step sq87 hb); have n7_ := Aside0.mk (hbox); have n8_ := Aside0.mk ((by rw [hg]; exact (below_size sq87) : w.heap.size ≤ gb331)); have n9_ := Aside0.mk ((by rw [hg]; exact (below_size sq87) : w.heap.size ≤ gb331)); have n10_ := Aside0.mk ((by rw [hg]; exact Nat.ne_of_lt (blk_lt (g := gb289) (o := .cells #[.string a2_0, .int .i64 a2_1] 59 (0, 0)) sq45) : gb289 ≠ gb331)); have n11_ := Aside0.mk ((by rw [hg]; exact Nat.ne_of_gt (blk_lt (g := gb289) (o := .cells #[.string a2_0, .int .i64 a2_1] 59 (0, 0)) sq45) : gb331 ≠ gb289)); have n12_ := Aside0.mk ((by rw [hg]; exact Nat.ne_of_lt (blk_lt (g := gb294) (o := .cells #[.int .i64 t292, .int .i64 t293] 28 (0, 0)) sq46) : gb294 ≠ gb331)); have n13_ := Aside0.mk ((by rw [hg]; exact Nat.ne_of_gt (blk_lt (g := gb294) (o := .cells #[.int .i64 t292, .int .i64 t293] 28 (0, 0)) sq46) : gb331 ≠ gb294)); have n14_ := Aside0.mk ((by rw [hg]; exact Nat.ne_of_lt (blk_lt (g := gb327) (o := .cells #[.int .i64 t325, .int .i64 t326] 28 (0, 0)) sq47) : gb327 ≠ gb331)); have n15_ := Aside0.mk ((by rw [hg]; exact Nat.ne_of_gt (blk_lt (g := gb327) (o := .cells #[.int .i64 t325, .int .i64 t326] 28 (0, 0)) sq47) : gb331 ≠ gb327)); clear HO_9; clear HO_11; clear HO_12; clear BK289; clear BK294; clear BK327; clear HB; have HO_9 := n0_; have HO_11 := n1_; have HO_12 := n2_; have BK289 := n3_; have BK294 := n4_; have BK327 := n5_; have HB := n6_; have BK331 := n7_; have GW331 := n8_; have GE331 := n9_; have NB289_331 := n10_; have NB331_289 := n11_; have NB294_331 := n12_; have NB331_294 := n13_; have NB327_331 := n14_; have NB331_327 := n15_; clear n0_ n1_ n2_ n3_ n4_ n5_ n6_ n7_ n8_ n9_ n10_ n11_ n12_ n13_ n14_ n15_; clear hb hbox hg; have hnb79 := NB331_289.out; have hnc79 := NB289_331.out; have hnb80 := NB331_294.out; have hnc80 := NB294_331.out; have hnb81 := NB331_327.out; have hnc81 := NB327_331.out; have hcz82_0 : w78.cell? ⟨gb331, 0, none⟩ = some (.int .i64 0) := (blk_cell BK331.out 0).trans rfl; have hcz82_1 : w78.cell? ⟨gb331, 1, none⟩ = some (.int .i64 0) := (blk_cell BK331.out 1).trans rfl; have hfz82_0 := blk_frozen BK331.out 0; have hfz82_1 := blk_frozen BK331.out 1))
      (try simp only [Act.put, List.setIfInBounds_toArray, List.set_cons_zero, List.set_cons_succ])
      go_cut [139] (fun v139 wc => ∃ (kq : Nat) (x139_68 : Bool), v139 = .bool x139_68 ∧ Aside0 (tontinelaw18_KindWords.j4 kq l0 l1 t291 t295 x139_68 a2_0 a2_1 t292 t293 = some r) ∧ Aside0 (kq ≤ k2) ∧ Aside0 (Kd.R Kd.string 9 wc w.heap.size (fun _ => True) v297 t295) ∧ Aside0 (wc.heap[gb289]? = some (.cells #[.string a2_0, .int .i64 a2_1] 59 (0, 0))) ∧ Aside0 (wc.heap[gb294]? = some (.cells #[.int .i64 t292, .int .i64 t293] 28 (0, 0))) ∧ Aside0 (wc.heap[gb327]? = some (.cells #[.int .i64 t325, .int .i64 t326] 28 (0, 0))) ∧ Aside0 (wc.heap[gb331]? = some (.cells #[.int .i64 t329, .int .i64 t330] 28 (0, 0))) ∧ Aside0 (Below w.heap.size w wc))
      case first =>
       have H := HC69.out
       clear HC69
       by_cases c83 : t291 = t324
       ·rw [if_pos c83] at H
        have c83b0 : (t291 == t324) = true := beq_iff_eq.mpr c83
        have c83b1 : (t291 != t324) = false := bne_eq_false_iff_eq.mpr c83
        clear c83
        (first | rw [c83b0] | (simp only [i64_w, i32_w]; rw [c83b0]) | skip)
        by_cases c84 : (!(t292 == t325) || (!(t293 == t326))) = true
        ·rw [if_pos c84] at H
         have c84b0 : (!(t292 == t325) || (!(t293 == t326))) = true := c84
         clear c84
         have H' := Aside0.mk H
         clear H
         have hnb85 := NB294_289.out
         have hnc85 := NB289_294.out
         have hnb86 := NB294_327.out
         have hnc86 := NB327_294.out
         have hnb87 := NB294_331.out
         have hnc87 := NB331_294.out
         have hcz88_0 : w78.cell? ⟨gb294, 0, none⟩ = some (.int .i64 t292) := (blk_cell BK294.out 0).trans rfl
         have hcz88_1 : w78.cell? ⟨gb294, 1, none⟩ = some (.int .i64 t293) := (blk_cell BK294.out 1).trans rfl
         have hfz88_0 := blk_frozen BK294.out 0
         have hfz88_1 := blk_frozen BK294.out 1
         have hnb89 := NB327_289.out
         have hnc89 := NB289_327.out
         have hnb90 := NB327_331.out
         have hnc90 := NB331_327.out
         have hcz91_0 : w78.cell? ⟨gb327, 0, none⟩ = some (.int .i64 t325) := (blk_cell BK327.out 0).trans rfl
         have hcz91_1 : w78.cell? ⟨gb327, 1, none⟩ = some (.int .i64 t326) := (blk_cell BK327.out 1).trans rfl
         have hfz91_0 := blk_frozen BK327.out 0
         have hfz91_1 := blk_frozen BK327.out 1
         go_wp2
         go_meet
         case rel => exact ⟨_, (true), sq5, H', ⟨by have := HJ7.out; have := HK2.out; first | omega | exact Nat.le_refl _⟩, ⟨sq98⟩, ⟨sq111⟩, ⟨sq112⟩, ⟨sq113⟩, ⟨sq127⟩, ⟨sq89⟩⟩
        rw [if_neg c84] at H
        have c84b0 : (!(t292 == t325) || (!(t293 == t326))) = false := by simpa using c84
        clear c84
        by_cases c92 : t291 = t328
        ·rw [if_pos c92] at H
         have c92b0 : (t291 == t328) = true := beq_iff_eq.mpr c92
         have c92b1 : (t291 != t328) = false := bne_eq_false_iff_eq.mpr c92
         clear c92
         have H' := Aside0.mk H
         clear H
         have hnb93 := NB294_289.out
         have hnc93 := NB289_294.out
         have hnb94 := NB294_327.out
         have hnc94 := NB327_294.out
         have hnb95 := NB294_331.out
         have hnc95 := NB331_294.out
         have hcz96_0 : w78.cell? ⟨gb294, 0, none⟩ = some (.int .i64 t292) := (blk_cell BK294.out 0).trans rfl
         have hcz96_1 : w78.cell? ⟨gb294, 1, none⟩ = some (.int .i64 t293) := (blk_cell BK294.out 1).trans rfl
         have hfz96_0 := blk_frozen BK294.out 0
         have hfz96_1 := blk_frozen BK294.out 1
         have hnb97 := NB327_289.out
         have hnc97 := NB289_327.out
         have hnb98 := NB327_331.out
         have hnc98 := NB331_327.out
         have hcz99_0 : w78.cell? ⟨gb327, 0, none⟩ = some (.int .i64 t325) := (blk_cell BK327.out 0).trans rfl
         have hcz99_1 : w78.cell? ⟨gb327, 1, none⟩ = some (.int .i64 t326) := (blk_cell BK327.out 1).trans rfl
         have hfz99_0 := blk_frozen BK327.out 0
         have hfz99_1 := blk_frozen BK327.out 1
         have hnb100 := NB331_289.out
         have hnc100 := NB289_331.out
         have hcz101_0 : w78.cell? ⟨gb331, 0, none⟩ = some (.int .i64 0) := (blk_cell BK331.out 0).trans rfl
         have hcz101_1 : w78.cell? ⟨gb331, 1, none⟩ = some (.int .i64 0) := (blk_cell BK331.out 1).trans rfl
         have hfz101_0 := blk_frozen BK331.out 0
         have hfz101_1 := blk_frozen BK331.out 1
         go_wp2
         go_meet
         case rel => exact ⟨_, ((!(t292 == t329) || (!(t293 == t330)))), sq5, H', ⟨by have := HJ7.out; have := HK2.out; first | omega | exact Nat.le_refl _⟩, ⟨sq98⟩, ⟨sq111⟩, ⟨sq112⟩, ⟨sq113⟩, ⟨sq127⟩, ⟨sq89⟩⟩
        rw [if_neg c92] at H
        have c92b0 : (t291 == t328) = false := beq_eq_false_iff_ne.mpr c92
        have c92b1 : (t291 != t328) = true := bne_iff_ne.mpr c92
        have H' := Aside0.mk H
        clear H
        have hnb102 := NB294_289.out
        have hnc102 := NB289_294.out
        have hnb103 := NB294_327.out
        have hnc103 := NB327_294.out
        have hnb104 := NB294_331.out
        have hnc104 := NB331_294.out
        have hcz105_0 : w78.cell? ⟨gb294, 0, none⟩ = some (.int .i64 t292) := (blk_cell BK294.out 0).trans rfl
        have hcz105_1 : w78.cell? ⟨gb294, 1, none⟩ = some (.int .i64 t293) := (blk_cell BK294.out 1).trans rfl
        have hfz105_0 := blk_frozen BK294.out 0
        have hfz105_1 := blk_frozen BK294.out 1
        have hnb106 := NB327_289.out
        have hnc106 := NB289_327.out
        have hnb107 := NB327_331.out
        have hnc107 := NB331_327.out
        have hcz108_0 : w78.cell? ⟨gb327, 0, none⟩ = some (.int .i64 t325) := (blk_cell BK327.out 0).trans rfl
        have hcz108_1 : w78.cell? ⟨gb327, 1, none⟩ = some (.int .i64 t326) := (blk_cell BK327.out 1).trans rfl
        have hfz108_0 := blk_frozen BK327.out 0
        have hfz108_1 := blk_frozen BK327.out 1
        go_wp2
        go_meet
        case rel => exact ⟨_, (true), sq5, H', ⟨by have := HJ7.out; have := HK2.out; first | omega | exact Nat.le_refl _⟩, ⟨sq98⟩, ⟨sq111⟩, ⟨sq112⟩, ⟨sq113⟩, ⟨sq127⟩, ⟨sq89⟩⟩
       rw [if_neg c83] at H
       have c83b0 : (t291 == t324) = false := beq_eq_false_iff_ne.mpr c83
       have c83b1 : (t291 != t324) = true := bne_iff_ne.mpr c83
       (first | rw [c83b0] | (simp only [i64_w, i32_w]; rw [c83b0]) | skip)
       have H' := Aside0.mk H
       clear H
       go_wp2
       go_meet
       case rel => exact ⟨_, (true), sq5, H', ⟨by have := HJ7.out; have := HK2.out; first | omega | exact Nat.le_refl _⟩, ⟨sq98⟩, ⟨sq111⟩, ⟨sq112⟩, ⟨sq113⟩, ⟨sq127⟩, ⟨sq89⟩⟩
      case rest =>
       clear HC69; try clear c1; try clear c2; try clear p2; try clear c3; try clear p3; try clear q3; try clear hx3; try clear c4; try clear c5; try clear c6; try clear p6; try clear c7; try clear c8; try clear c9; try clear c10; try clear c13; try clear c16; try clear c16b0; try clear c16b1; try clear c17; try clear c17b0; try clear c17b1; try clear c18; try clear c20; try clear c22; try clear c27; try clear c27b0; try clear c29; try clear c29b0; try clear c30; try clear c30b0; try clear p30; try clear q30; try clear hx30; try clear c31; try clear c31b0; try clear p31; try clear q31; try clear hx31; try clear c32; try clear c34; try clear c35; try clear c39; try clear c39b0; try clear c40; try clear c40b0; try clear c42; try clear c43; try clear c47; try clear c48; try clear c48b0; try clear c49; try clear c49b0; try clear c50; try clear c56; try clear c56b0; try clear c57; try clear c57b0; try clear c58; try clear c58b0; try clear c59; try clear c59b0; try clear c60; try clear c60b0; try clear c61; try clear c61b0; try clear c61b1; try clear c62; try clear p64; try clear c73; try clear c74; try clear c79; try clear c80; try clear c81; try clear c83; try clear c83b0; try clear c83b1; try clear c84; try clear c84b0; try clear c85; try clear c86; try clear c87; try clear c89; try clear c90; try clear c92; try clear c92b0; try clear c92b1; try clear c93; try clear c94; try clear c95; try clear c97; try clear c98; try clear c100; try clear c102; try clear c103; try clear c104; try clear c106; try clear c107; try clear hcz101_0; try clear hcz101_1; try clear hcz105_0; try clear hcz105_1; try clear hcz108_0; try clear hcz108_1; try clear hcz14_0; try clear hcz14_1; try clear hcz19_0; try clear hcz19_1; try clear hcz21_0; try clear hcz21_1; try clear hcz36_0; try clear hcz36_1; try clear hcz44_0; try clear hcz44_1; try clear hcz75_0; try clear hcz75_1; try clear hcz82_0; try clear hcz82_1; try clear hcz88_0; try clear hcz88_1; try clear hcz91_0; try clear hcz91_1; try clear hcz96_0; try clear hcz96_1; try clear hcz99_0; try clear hcz99_1; try clear hfz101_0; try clear hfz101_1; try clear hfz105_0; try clear hfz105_1; try clear hfz108_0; try clear hfz108_1; try clear hfz14_0; try clear hfz14_1; try clear hfz19_0; try clear hfz19_1; try clear hfz21_0; try clear hfz21_1; try clear hfz36_0; try clear hfz36_1; try clear hfz44_0; try clear hfz44_1; try clear hfz75_0; try clear hfz75_1; try clear hfz82_0; try clear hfz82_1; try clear hfz88_0; try clear hfz88_1; try clear hfz91_0; try clear hfz91_1; try clear hfz96_0; try clear hfz96_1; try clear hfz99_0; try clear hfz99_1; try clear hx305_0; try clear hx305_1; try clear hx307_0; try clear hx307_1; try clear hx308_0; try clear hx308_1; try clear hx315_0; try clear hx316_0; try clear hx316_1; try clear hx317_0; try clear hx317_1; try clear p2; try clear p3; try clear p30; try clear p305; try clear p307; try clear p308; try clear p315; try clear p316; try clear p317; try clear p6; try clear q3; try clear q30; try clear q305; try clear q307; try clear q308; try clear q315; try clear q316; try clear q317
       obtain ⟨kq, x139_68, rfl, HA, HJ68, HO_9, BK289, BK294, BK327, BK331, HB⟩ := hcut
       cases kq with
       | zero => exact absurd HA.out (by simp [tontinelaw18_KindWords.j4])
       | succ kj68 =>
        have H := HA.out
        clear HA
        simp only [tontinelaw18_KindWords.j4] at H
        by_cases c109 : x139_68 = true
        ·subst c109
         replace H := (itT_ _ _).symm.trans H
         obtain rfl := Option.some.inj H
         go_wp2
         go_ret
         exact ⟨sq11, sq89⟩
        replace c109 := Bool.eq_false_iff.mpr c109
        subst c109
        replace H := (itF_ _ _).symm.trans H
        have H' := Aside0.mk H
        clear H
        obtain ⟨Ao110, co110, eo110⟩ := Kd.R_slice HO_9.out
        subst eo110
        go_wp2
        go_loopg [142] kj68 (fun kq v142 w' => ∃ (x142_4 : Int), v142 = .int .i64 x142_4 ∧ Aside0 (tontinelaw18_KindWords.l3 kq l0 l1 t291 t295 (t295.length : Int) x142_4 a2_0 a2_1 t292 t293 = some r) ∧ Aside0 (kq ≤ kj68) ∧ Aside0 (Kd.R Kd.string 9 w' w.heap.size (fun _ => True) (.slice Ao110 t295.length co110) t295) ∧ Aside0 (w'.heap[gb289]? = some (.cells #[.string a2_0, .int .i64 a2_1] 59 (0, 0))) ∧ Aside0 (w'.heap[gb294]? = some (.cells #[.int .i64 t292, .int .i64 t293] 28 (0, 0))) ∧ Aside0 (w'.heap[gb327]? = some (.cells #[.int .i64 t325, .int .i64 t326] 28 (0, 0))) ∧ Aside0 (w'.heap[gb331]? = some (.cells #[.int .i64 t329, .int .i64 t330] 28 (0, 0))) ∧ Aside0 (Below w.heap.size w w'))
        case atStart => exact ⟨(0), sq5, H', ⟨Nat.le_refl _⟩, ⟨sq16⟩, ⟨sq45⟩, ⟨sq46⟩, ⟨sq47⟩, ⟨sq48⟩, ⟨sq89⟩⟩
        case round =>
         clear H'
         try clear c1; try clear c2; try clear p2; try clear c3; try clear p3; try clear q3; try clear hx3; try clear c4; try clear c5; try clear c6; try clear p6; try clear c7; try clear c8; try clear c9; try clear c10; try clear c13; try clear c16; try clear c16b0; try clear c16b1; try clear c17; try clear c17b0; try clear c17b1; try clear c18; try clear c20; try clear c22; try clear c27; try clear c27b0; try clear c29; try clear c29b0; try clear c30; try clear c30b0; try clear p30; try clear q30; try clear hx30; try clear c31; try clear c31b0; try clear p31; try clear q31; try clear hx31; try clear c32; try clear c34; try clear c35; try clear c39; try clear c39b0; try clear c40; try clear c40b0; try clear c42; try clear c43; try clear c47; try clear c48; try clear c48b0; try clear c49; try clear c49b0; try clear c50; try clear c56; try clear c56b0; try clear c57; try clear c57b0; try clear c58; try clear c58b0; try clear c59; try clear c59b0; try clear c60; try clear c60b0; try clear c61; try clear c61b0; try clear c61b1; try clear c62; try clear p64; try clear c73; try clear c74; try clear c79; try clear c80; try clear c81; try clear c83; try clear c83b0; try clear c83b1; try clear c84; try clear c84b0; try clear c85; try clear c86; try clear c87; try clear c89; try clear c90; try clear c92; try clear c92b0; try clear c92b1; try clear c93; try clear c94; try clear c95; try clear c97; try clear c98; try clear c100; try clear c102; try clear c103; try clear c104; try clear c106; try clear c107; try clear c109; try clear hcz101_0; try clear hcz101_1; try clear hcz105_0; try clear hcz105_1; try clear hcz108_0; try clear hcz108_1; try clear hcz14_0; try clear hcz14_1; try clear hcz19_0; try clear hcz19_1; try clear hcz21_0; try clear hcz21_1; try clear hcz36_0; try clear hcz36_1; try clear hcz44_0; try clear hcz44_1; try clear hcz75_0; try clear hcz75_1; try clear hcz82_0; try clear hcz82_1; try clear hcz88_0; try clear hcz88_1; try clear hcz91_0; try clear hcz91_1; try clear hcz96_0; try clear hcz96_1; try clear hcz99_0; try clear hcz99_1; try clear hfz101_0; try clear hfz101_1; try clear hfz105_0; try clear hfz105_1; try clear hfz108_0; try clear hfz108_1; try clear hfz14_0; try clear hfz14_1; try clear hfz19_0; try clear hfz19_1; try clear hfz21_0; try clear hfz21_1; try clear hfz36_0; try clear hfz36_1; try clear hfz44_0; try clear hfz44_1; try clear hfz75_0; try clear hfz75_1; try clear hfz82_0; try clear hfz82_1; try clear hfz88_0; try clear hfz88_1; try clear hfz91_0; try clear hfz91_1; try clear hfz96_0; try clear hfz96_1; try clear hfz99_0; try clear hfz99_1; try clear hx305_0; try clear hx305_1; try clear hx307_0; try clear hx307_1; try clear hx308_0; try clear hx308_1; try clear hx315_0; try clear hx316_0; try clear hx316_1; try clear hx317_0; try clear hx317_1; try clear p2; try clear p3; try clear p30; try clear p305; try clear p307; try clear p308; try clear p31; try clear p315; try clear p316; try clear p317; try clear p6; try clear p64; try clear q3; try clear q30; try clear q305; try clear q307; try clear q308; try clear q31; try clear q315; try clear q316; try clear q317
         obtain ⟨x142_4, rfl, HA, HK4, HO_140, BK289, BK294, BK327, BK331, HB⟩ := hrel
         cases gk with
         | zero => exact absurd HA.out (by simp [tontinelaw18_KindWords.l3])
         | succ k4 =>
          have H := HA.out
          clear HA
          simp only [tontinelaw18_KindWords.l3] at H
          by_cases c111 : x142_4 < (t295.length : Int)
          ·rw [if_pos c111] at H
           have c111b0 : decide (x142_4 < (t295.length : Int)) = true := decide_eq_true c111; clear c111
           by_cases c112 : 0 ≤ x142_4
           ·rw [if_pos c112] at H
            have c112b0 : decide (0 ≤ x142_4) = true := decide_eq_true c112; clear c112
            by_cases c113 : x142_4 < (t295.length : Int)
            ·rw [if_pos c113] at H
             have c113b0 : decide (x142_4 < (t295.length : Int)) = true := decide_eq_true c113; clear c113
             by_cases c114 : (rdOf ByteArray.empty t295 x142_4).toList = a2_0.toList
             ·rw [if_pos c114] at H
              have c114b0 : ((rdOf ByteArray.empty t295 x142_4).toList == a2_0.toList) = true := beq_iff_eq.mpr c114
              have c114b1 : ((rdOf ByteArray.empty t295 x142_4).toList != a2_0.toList) = false := bne_eq_false_iff_eq.mpr c114
              clear c114
              obtain rfl := Option.some.inj H
              have p332 : 0 ≤ (x142_4 : Int) := of_decide_eq_true sq6
              have q332 : x142_4 < (t295.length : Int) := of_decide_eq_true sq6
              obtain ⟨ad332, e332, hx332_0⟩ := Kd.at_string (Kd.R_reads' HO_140.out).2.2 x142_4 p332 q332
              cases e332
              replace p332 := eq_true p332
              replace q332 := eq_true q332
              have hnb115 := NB289_294.out
              have hnc115 := NB294_289.out
              have hnb116 := NB289_327.out
              have hnc116 := NB327_289.out
              have hnb117 := NB289_331.out
              have hnc117 := NB331_289.out
              have hcz118_0 : wr.cell? ⟨gb289, 0, none⟩ = some (.string a2_0) := (blk_cell BK289.out 0).trans rfl
              have hcz118_1 : wr.cell? ⟨gb289, 1, none⟩ = some (.int .i64 a2_1) := (blk_cell BK289.out 1).trans rfl
              have hfz118_0 := blk_frozen BK289.out 0
              have hfz118_1 := blk_frozen BK289.out 1
              go_wp2
              go_ret
              exact ⟨sq11, sq89⟩
             rw [if_neg c114] at H
             have c114b0 : ((rdOf ByteArray.empty t295 x142_4).toList == a2_0.toList) = false := beq_eq_false_iff_ne.mpr c114
             have c114b1 : ((rdOf ByteArray.empty t295 x142_4).toList != a2_0.toList) = true := bne_iff_ne.mpr c114
             have H' := Aside0.mk H
             clear H
             have p332 : 0 ≤ (x142_4 : Int) := of_decide_eq_true sq6
             have q332 : x142_4 < (t295.length : Int) := of_decide_eq_true sq6
             obtain ⟨ad332, e332, hx332_0⟩ := Kd.at_string (Kd.R_reads' HO_140.out).2.2 x142_4 p332 q332
             cases e332
             replace p332 := eq_true p332
             replace q332 := eq_true q332
             have hnb119 := NB289_294.out
             have hnc119 := NB294_289.out
             have hnb120 := NB289_327.out
             have hnc120 := NB327_289.out
             have hnb121 := NB289_331.out
             have hnc121 := NB331_289.out
             have hcz122_0 : wr.cell? ⟨gb289, 0, none⟩ = some (.string a2_0) := (blk_cell BK289.out 0).trans rfl
             have hcz122_1 : wr.cell? ⟨gb289, 1, none⟩ = some (.int .i64 a2_1) := (blk_cell BK289.out 1).trans rfl
             have hfz122_0 := blk_frozen BK289.out 0
             have hfz122_1 := blk_frozen BK289.out 1
             go_wp2
             go_roundg k4
             case measure => have := HJ7.out; have := HK2.out; have := HJ68.out; have := HK4.out; omega
             case rel => exact ⟨(wrap64 (x142_4 + 1)), sq5, H', ⟨by have := HJ7.out; have := HK2.out; have := HJ68.out; have := HK4.out; omega⟩, ⟨sq32⟩, ⟨sq45⟩, ⟨sq46⟩, ⟨sq47⟩, ⟨sq48⟩, ⟨sq89⟩⟩
            rw [if_neg c113] at H
            exact absurd H (by simp)
           rw [if_neg c112] at H
           exact absurd H (by simp)
          rw [if_neg c111] at H
          have c111b0 : decide (x142_4 < (t295.length : Int)) = false := decide_eq_false c111; clear c111
          obtain ⟨y333, hy333⟩ : ∃ y_ : List (S59), y_ = (([] : List (S59))) := ⟨_, rfl⟩
          replace H : (if y333.length + l1.length < 5864062014805 then ((some (y333 ++ l1 : List (S59))).bind fun y336 => ((some (([(⟨a2_0, a2_1⟩ : S59)] : List (S59)) : List (S59))).bind fun y339 => (if y336.length + y339.length < 5864062014805 then ((kind_Of.f k4 l0 (y336 ++ y339)).bind fun bt345 => (if t291 = bt345.1 then (if (t292 == bt345.2.1 && (t293 == bt345.2.2)) = true then (some true) else (if bt345.1 = 0 then (if bt345.2.2 = 5 then (some true) else (some (bt345.2.2 == 3))) else (some false))) else (if bt345.1 = 0 then (if bt345.2.2 = 5 then (some true) else (some (bt345.2.2 == 3))) else (some false)))) else (none)))) else (none)) = some r := by first | (rw [hy333]; with_reducible exact H) | (have H2_ := (Option.bind_some _ _).symm.trans H; rw [hy333]; with_reducible exact H2_) | (have H2_ := (Option.bind_some _ _).symm.trans H; with_reducible exact H2_) | with_reducible exact H | (rw [hy333]; exact H) | exact H
          have Ny333 := Aside0.mk hy333
          clear hy333
          by_cases c123 : y333.length + l1.length < 5864062014805
          ·rw [if_pos c123] at H
           have LMc123 := Aside0.mk c123
           clear c123
           obtain ⟨y336, hy336⟩ : ∃ y_ : List (S59), y_ = (y333 ++ l1) := ⟨_, rfl⟩
           replace H : ((some (([(⟨a2_0, a2_1⟩ : S59)] : List (S59)) : List (S59))).bind fun y339 => (if y336.length + y339.length < 5864062014805 then ((kind_Of.f k4 l0 (y336 ++ y339)).bind fun bt345 => (if t291 = bt345.1 then (if (t292 == bt345.2.1 && (t293 == bt345.2.2)) = true then (some true) else (if bt345.1 = 0 then (if bt345.2.2 = 5 then (some true) else (some (bt345.2.2 == 3))) else (some false))) else (if bt345.1 = 0 then (if bt345.2.2 = 5 then (some true) else (some (bt345.2.2 == 3))) else (some false)))) else (none))) = some r := by first | (rw [hy336]; with_reducible exact H) | (have H2_ := (Option.bind_some _ _).symm.trans H; rw [hy336]; with_reducible exact H2_) | (have H2_ := (Option.bind_some _ _).symm.trans H; with_reducible exact H2_) | with_reducible exact H | (rw [hy336]; exact H) | exact H
           have Ny336 := Aside0.mk hy336
           clear hy336
           obtain ⟨y339, hy339⟩ : ∃ y_ : List (S59), y_ = (([(⟨a2_0, a2_1⟩ : S59)] : List (S59))) := ⟨_, rfl⟩
           replace H : (if y336.length + y339.length < 5864062014805 then ((kind_Of.f k4 l0 (y336 ++ y339)).bind fun bt345 => (if t291 = bt345.1 then (if (t292 == bt345.2.1 && (t293 == bt345.2.2)) = true then (some true) else (if bt345.1 = 0 then (if bt345.2.2 = 5 then (some true) else (some (bt345.2.2 == 3))) else (some false))) else (if bt345.1 = 0 then (if bt345.2.2 = 5 then (some true) else (some (bt345.2.2 == 3))) else (some false)))) else (none)) = some r := by first | (rw [hy339]; with_reducible exact H) | (have H2_ := (Option.bind_some _ _).symm.trans H; rw [hy339]; with_reducible exact H2_) | (have H2_ := (Option.bind_some _ _).symm.trans H; with_reducible exact H2_) | with_reducible exact H | (rw [hy339]; exact H) | exact H
           have Ny339 := Aside0.mk hy339
           clear hy339
           by_cases c124 : y336.length + y339.length < 5864062014805
           ·rw [if_pos c124] at H
            have LMc124 := Aside0.mk c124
            clear c124
            obtain ⟨y342, hy342⟩ : ∃ y_ : List (S59), y_ = (y336 ++ y339) := ⟨_, rfl⟩
            replace H : ((kind_Of.f k4 l0 y342).bind fun bt345 => (if t291 = bt345.1 then (if (t292 == bt345.2.1 && (t293 == bt345.2.2)) = true then (some true) else (if bt345.1 = 0 then (if bt345.2.2 = 5 then (some true) else (some (bt345.2.2 == 3))) else (some false))) else (if bt345.1 = 0 then (if bt345.2.2 = 5 then (some true) else (some (bt345.2.2 == 3))) else (some false)))) = some r := by first | (rw [hy342]; with_reducible exact H) | (have H2_ := (Option.bind_some _ _).symm.trans H; rw [hy342]; with_reducible exact H2_) | (have H2_ := (Option.bind_some _ _).symm.trans H; with_reducible exact H2_) | with_reducible exact H | (rw [hy342]; exact H) | exact H
            have Ny342 := Aside0.mk hy342
            clear hy342
            replace H := Option.bind_eq_some_iff.mp H
            obtain ⟨⟨t345, t346, t347⟩, A1250, H⟩ := H
            replace H : (if t291 = t345 then (if (t292 == t346 && (t293 == t347)) = true then (some true) else (if t345 = 0 then (if t347 = 5 then (some true) else (some (t347 == 3))) else (some false))) else (if t345 = 0 then (if t347 = 5 then (some true) else (some (t347 == 3))) else (some false))) = some r := H
            have A125 := Aside0.mk A1250
            clear A1250
            have HX_ := Aside0.mk H
            clear H
            try go_wp2
            have n0_ := Aside0.mk (Kd.R_drew HO_140.out)
            have n1_ := Aside0.mk (blk_drew BK289.out)
            have n2_ := Aside0.mk (blk_drew BK294.out)
            have n3_ := Aside0.mk (blk_drew BK327.out)
            have n4_ := Aside0.mk (blk_drew BK331.out)
            have n5_ := Aside0.mk (below_drew1 HB.out)
            clear HO_140; clear BK289; clear BK294; clear BK327; clear BK331; clear HB
            have HO_140 := n0_
            have BK289 := n1_
            have BK294 := n2_
            have BK327 := n3_
            have BK331 := n4_
            have HB := n5_
            clear n0_ n1_ n2_ n3_ n4_ n5_
            refine start_ (n := 14) (S := fun w' => w'.cell? ⟨gb289, 0, none⟩ = some (.string a2_0) ∧ w'.cell? ⟨gb289, 1, none⟩ = some (.int .i64 a2_1)) (ds := []) #[false, false, false, false, false, false, false, false, false, false, false, false, false, false] sq2 rfl rfl ⟨(blk_cell BK289.out 0).trans rfl, (blk_cell BK289.out 1).trans rfl⟩ (fun hHeld => ?_); refine with_tabW tontinelaw18_KindWords.tab35 tontinelaw18_KindWords.bits35 (fun HT_ HW_ => ?_)
            generalize wr.drew = w128 at HO_140 BK289 BK294 BK327 BK331 HB hHeld ⊢
            refine pure_ (i := 0) (N := some 152) (v := ?_) (a' := ?_) #[true, false, false, false, false, false, false, false, false, false, false, false, false, false] rfl rfl (any_of HT_.out sq2) (fun _ _ _ h => h) (Or.inl ⟨by rfl, ?_⟩) ?_ ?_
            rotate_left
            ·intro w'
             go_simp
             with_reducible rfl
            rotate_left
            ·simp only [Act.put, List.setIfInBounds_toArray, List.set_cons_zero, List.set_cons_succ, i64_w, i32_w]
             rfl
            refine pure_ (i := 2) (N := some 154) (v := ?_) (a' := ?_) #[true, false, true, false, false, false, false, false, false, false, false, false, false, false] rfl rfl (any_of HT_.out sq2) (fun _ _ _ h => h) (Or.inl ⟨by rfl, ?_⟩) ?_ ?_
            rotate_left
            ·intro w'
             go_simp
             with_reducible rfl
            rotate_left
            ·simp only [Act.put, List.setIfInBounds_toArray, List.set_cons_zero, List.set_cons_succ, i64_w, i32_w]
             rfl
            refine take_ (i := 4) (N := some 156) (v := ?_) (a' := ?_) #[true, false, true, false, true, false, false, false, false, false, false, false, false, false] rfl rfl (take_ofW HT_.out HW_.out sq2) (fun _ _ _ h => h) (Or.inl ⟨by rfl, ?_⟩) hHeld ?_ ?_
            rotate_left
            ·rintro w' ⟨s0, s1⟩
             go_simp
             with_reducible rfl
            rotate_left
            ·simp only [Act.put, List.setIfInBounds_toArray, List.set_cons_zero, List.set_cons_succ, i64_w, i32_w]
             rfl
            refine join_ (σ := Value × Value × Value × Value × Nat) 2 #[true, true, true, true, true, true, true, true, true, true, true, true, false, false] (fun s_ => [(153, s_.1), (155, s_.2.1), (157, s_.2.2.1), (158, s_.2.2.2.1), (159, .tuple #[.int .i64 t345, .agg #[.int .i64 t346, .int .i64 t347]]), (26, .pointer (some ⟨s_.2.2.2.2, 0, none⟩)), (151, .tuple #[.int .i64 t345, .agg #[.int .i64 t346, .int .i64 t347]]), (160, .int .i64 t345), (161, .agg #[.int .i64 t346, .int .i64 t347])]) (fun s_ w' => (w'.cell? ⟨gb289, 0, none⟩ = some (.string a2_0) ∧ w'.cell? ⟨gb289, 1, none⟩ = some (.int .i64 a2_1)) ∧ (Kd.R k59 59 w' w.heap.size (fun k_ => some k_ ≠ (s_.2.2.2.1 : Value).ownBlock ∧ k_ ≠ gb289) s_.2.2.1 y339) ∧ (Kd.R k59 59 w' w.heap.size (fun k_ => some k_ ≠ (s_.2.2.1 : Value).ownBlock ∧ k_ ≠ gb289) s_.2.2.2.1 y342) ∧ (Kd.R Kd.string 9 w' w.heap.size (fun _ => True) (.slice Ao110 t295.length co110) t295) ∧ (w'.heap[gb289]? = some (.cells #[.string a2_0, .int .i64 a2_1] 59 (0, 0))) ∧ (w'.heap[gb294]? = some (.cells #[.int .i64 t292, .int .i64 t293] 28 (0, 0))) ∧ (w'.heap[gb327]? = some (.cells #[.int .i64 t325, .int .i64 t326] 28 (0, 0))) ∧ (w'.heap[gb331]? = some (.cells #[.int .i64 t329, .int .i64 t330] 28 (0, 0))) ∧ (w'.heap[s_.2.2.2.2]? = some (.cells #[.int .i64 0, .int .i64 0] 28 (0, 0))) ∧ (w.heap.size ≤ s_.2.2.2.2) ∧ (w.heap.size ≤ s_.2.2.2.2) ∧ (gb289 ≠ s_.2.2.2.2) ∧ (s_.2.2.2.2 ≠ gb289) ∧ (gb294 ≠ s_.2.2.2.2) ∧ (s_.2.2.2.2 ≠ gb294) ∧ (gb327 ≠ s_.2.2.2.2) ∧ (s_.2.2.2.2 ≠ gb327) ∧ (gb331 ≠ s_.2.2.2.2) ∧ (s_.2.2.2.2 ≠ gb331) ∧ (Below w.heap.size w w')) ?_ ?_
            rotate_left
            ·intro hJ1_3_5_6_7_11
             refine join_ (σ := Value × Value × Value × Value) 3 #[true, true, true, true, true, true, true, true, true, true, true, false, false, false] (fun s_ => [(153, s_.1), (155, s_.2.1), (157, s_.2.2.1), (158, s_.2.2.2), (159, .tuple #[.int .i64 t345, .agg #[.int .i64 t346, .int .i64 t347]]), (151, .tuple #[.int .i64 t345, .agg #[.int .i64 t346, .int .i64 t347]]), (160, .int .i64 t345), (161, .agg #[.int .i64 t346, .int .i64 t347])]) (fun s_ w' => (w'.cell? ⟨gb289, 0, none⟩ = some (.string a2_0) ∧ w'.cell? ⟨gb289, 1, none⟩ = some (.int .i64 a2_1)) ∧ (Kd.R k59 59 w' w.heap.size (fun k_ => some k_ ≠ (s_.2.2.2 : Value).ownBlock ∧ k_ ≠ gb289) s_.2.2.1 y339) ∧ (Kd.R k59 59 w' w.heap.size (fun k_ => some k_ ≠ (s_.2.2.1 : Value).ownBlock ∧ k_ ≠ gb289) s_.2.2.2 y342) ∧ (Kd.R Kd.string 9 w' w.heap.size (fun _ => True) (.slice Ao110 t295.length co110) t295) ∧ (w'.heap[gb289]? = some (.cells #[.string a2_0, .int .i64 a2_1] 59 (0, 0))) ∧ (w'.heap[gb294]? = some (.cells #[.int .i64 t292, .int .i64 t293] 28 (0, 0))) ∧ (w'.heap[gb327]? = some (.cells #[.int .i64 t325, .int .i64 t326] 28 (0, 0))) ∧ (w'.heap[gb331]? = some (.cells #[.int .i64 t329, .int .i64 t330] 28 (0, 0))) ∧ (Below w.heap.size w w')) ?_ ?_
             rotate_left
             ·intro hJ1_3_5_6_7
              refine join_ (σ := Value × Value × Value × Value × Nat) 6 #[true, true, true, true, true, true, true, false, false, false, false, true, false, false] (fun s_ => [(153, s_.1), (155, s_.2.1), (157, s_.2.2.1), (158, s_.2.2.2.1), (26, .pointer (some ⟨s_.2.2.2.2, 0, none⟩))]) (fun s_ w' => (w'.cell? ⟨gb289, 0, none⟩ = some (.string a2_0) ∧ w'.cell? ⟨gb289, 1, none⟩ = some (.int .i64 a2_1)) ∧ (Kd.R k59 59 w' w.heap.size (fun k_ => some k_ ≠ (s_.2.2.2.1 : Value).ownBlock ∧ k_ ≠ gb289) s_.2.2.1 y339) ∧ (Kd.R k59 59 w' w.heap.size (fun k_ => some k_ ≠ (s_.2.2.1 : Value).ownBlock ∧ k_ ≠ gb289) s_.2.2.2.1 y342) ∧ (Kd.R Kd.string 9 w' w.heap.size (fun _ => True) (.slice Ao110 t295.length co110) t295) ∧ (w'.heap[gb289]? = some (.cells #[.string a2_0, .int .i64 a2_1] 59 (0, 0))) ∧ (w'.heap[gb294]? = some (.cells #[.int .i64 t292, .int .i64 t293] 28 (0, 0))) ∧ (w'.heap[gb327]? = some (.cells #[.int .i64 t325, .int .i64 t326] 28 (0, 0))) ∧ (w'.heap[gb331]? = some (.cells #[.int .i64 t329, .int .i64 t330] 28 (0, 0))) ∧ (w'.heap[s_.2.2.2.2]? = some (.cells #[.int .i64 0, .int .i64 0] 28 (0, 0))) ∧ (w.heap.size ≤ s_.2.2.2.2) ∧ (w.heap.size ≤ s_.2.2.2.2) ∧ (gb289 ≠ s_.2.2.2.2) ∧ (s_.2.2.2.2 ≠ gb289) ∧ (gb294 ≠ s_.2.2.2.2) ∧ (s_.2.2.2.2 ≠ gb294) ∧ (gb327 ≠ s_.2.2.2.2) ∧ (s_.2.2.2.2 ≠ gb327) ∧ (gb331 ≠ s_.2.2.2.2) ∧ (s_.2.2.2.2 ≠ gb331) ∧ (Below w.heap.size w w')) ?_ ?_
              rotate_left
              ·intro hJ1_3_5_6_11
               refine join_ (σ := Value × Value × Value × Value) 7 #[true, true, true, true, true, true, true, false, false, false, false, false, false, false] (fun s_ => [(153, s_.1), (155, s_.2.1), (157, s_.2.2.1), (158, s_.2.2.2)]) (fun s_ w' => (w'.cell? ⟨gb289, 0, none⟩ = some (.string a2_0) ∧ w'.cell? ⟨gb289, 1, none⟩ = some (.int .i64 a2_1)) ∧ (Kd.R k59 59 w' w.heap.size (fun k_ => some k_ ≠ (s_.2.2.2 : Value).ownBlock ∧ k_ ≠ gb289) s_.2.2.1 y339) ∧ (Kd.R k59 59 w' w.heap.size (fun k_ => some k_ ≠ (s_.2.2.1 : Value).ownBlock ∧ k_ ≠ gb289) s_.2.2.2 y342) ∧ (Kd.R Kd.string 9 w' w.heap.size (fun _ => True) (.slice Ao110 t295.length co110) t295) ∧ (w'.heap[gb289]? = some (.cells #[.string a2_0, .int .i64 a2_1] 59 (0, 0))) ∧ (w'.heap[gb294]? = some (.cells #[.int .i64 t292, .int .i64 t293] 28 (0, 0))) ∧ (w'.heap[gb327]? = some (.cells #[.int .i64 t325, .int .i64 t326] 28 (0, 0))) ∧ (w'.heap[gb331]? = some (.cells #[.int .i64 t329, .int .i64 t330] 28 (0, 0))) ∧ (Below w.heap.size w w')) ?_ ?_
               rotate_left
               ·intro hJ1_3_5_6
                refine join_ (σ := Value × Value × Value × Nat) 7 #[true, true, true, true, true, true, false, false, false, false, false, true, false, false] (fun s_ => [(153, s_.1), (155, s_.2.1), (157, s_.2.2.1), (26, .pointer (some ⟨s_.2.2.2, 0, none⟩))]) (fun s_ w' => (w'.cell? ⟨gb289, 0, none⟩ = some (.string a2_0) ∧ w'.cell? ⟨gb289, 1, none⟩ = some (.int .i64 a2_1)) ∧ (Kd.R k59 59 w' w.heap.size (fun k_ => some k_ ≠ (s_.2.2.1 : Value).ownBlock ∧ k_ ≠ gb289) s_.2.1 y336) ∧ (Kd.R k59 59 w' w.heap.size (fun k_ => some k_ ≠ (s_.2.1 : Value).ownBlock ∧ k_ ≠ gb289) s_.2.2.1 y339) ∧ (Kd.R Kd.string 9 w' w.heap.size (fun _ => True) (.slice Ao110 t295.length co110) t295) ∧ (w'.heap[gb289]? = some (.cells #[.string a2_0, .int .i64 a2_1] 59 (0, 0))) ∧ (w'.heap[gb294]? = some (.cells #[.int .i64 t292, .int .i64 t293] 28 (0, 0))) ∧ (w'.heap[gb327]? = some (.cells #[.int .i64 t325, .int .i64 t326] 28 (0, 0))) ∧ (w'.heap[gb331]? = some (.cells #[.int .i64 t329, .int .i64 t330] 28 (0, 0))) ∧ (w'.heap[s_.2.2.2]? = some (.cells #[.int .i64 0, .int .i64 0] 28 (0, 0))) ∧ (w.heap.size ≤ s_.2.2.2) ∧ (w.heap.size ≤ s_.2.2.2) ∧ (gb289 ≠ s_.2.2.2) ∧ (s_.2.2.2 ≠ gb289) ∧ (gb294 ≠ s_.2.2.2) ∧ (s_.2.2.2 ≠ gb294) ∧ (gb327 ≠ s_.2.2.2) ∧ (s_.2.2.2 ≠ gb327) ∧ (gb331 ≠ s_.2.2.2) ∧ (s_.2.2.2 ≠ gb331) ∧ (Below w.heap.size w w')) ?_ ?_
                rotate_left
                ·intro hJ1_3_5_11
                 refine join_ (σ := Value × Value × Value) 8 #[true, true, true, true, true, true, false, false, false, false, false, false, false, false] (fun s_ => [(153, s_.1), (155, s_.2.1), (157, s_.2.2)]) (fun s_ w' => (w'.cell? ⟨gb289, 0, none⟩ = some (.string a2_0) ∧ w'.cell? ⟨gb289, 1, none⟩ = some (.int .i64 a2_1)) ∧ (Kd.R k59 59 w' w.heap.size (fun k_ => some k_ ≠ (s_.2.2 : Value).ownBlock ∧ k_ ≠ gb289) s_.2.1 y336) ∧ (Kd.R k59 59 w' w.heap.size (fun k_ => some k_ ≠ (s_.2.1 : Value).ownBlock ∧ k_ ≠ gb289) s_.2.2 y339) ∧ (Kd.R Kd.string 9 w' w.heap.size (fun _ => True) (.slice Ao110 t295.length co110) t295) ∧ (w'.heap[gb289]? = some (.cells #[.string a2_0, .int .i64 a2_1] 59 (0, 0))) ∧ (w'.heap[gb294]? = some (.cells #[.int .i64 t292, .int .i64 t293] 28 (0, 0))) ∧ (w'.heap[gb327]? = some (.cells #[.int .i64 t325, .int .i64 t326] 28 (0, 0))) ∧ (w'.heap[gb331]? = some (.cells #[.int .i64 t329, .int .i64 t330] 28 (0, 0))) ∧ (Below w.heap.size w w')) ?_ ?_
                 rotate_left
                 ·intro hJ1_3_5
                  refine join_ (σ := Value × Value × Nat) 8 #[true, true, true, true, true, false, false, false, false, false, false, true, false, false] (fun s_ => [(153, s_.1), (155, s_.2.1), (26, .pointer (some ⟨s_.2.2, 0, none⟩))]) (fun s_ w' => (w'.cell? ⟨gb289, 0, none⟩ = some (.string a2_0) ∧ w'.cell? ⟨gb289, 1, none⟩ = some (.int .i64 a2_1)) ∧ (Kd.R k59 59 w' w.heap.size (fun k_ => k_ ≠ gb289) s_.2.1 y336) ∧ (Kd.R Kd.string 9 w' w.heap.size (fun _ => True) (.slice Ao110 t295.length co110) t295) ∧ (w'.heap[gb289]? = some (.cells #[.string a2_0, .int .i64 a2_1] 59 (0, 0))) ∧ (w'.heap[gb294]? = some (.cells #[.int .i64 t292, .int .i64 t293] 28 (0, 0))) ∧ (w'.heap[gb327]? = some (.cells #[.int .i64 t325, .int .i64 t326] 28 (0, 0))) ∧ (w'.heap[gb331]? = some (.cells #[.int .i64 t329, .int .i64 t330] 28 (0, 0))) ∧ (w'.heap[s_.2.2]? = some (.cells #[.int .i64 0, .int .i64 0] 28 (0, 0))) ∧ (w.heap.size ≤ s_.2.2) ∧ (w.heap.size ≤ s_.2.2) ∧ (gb289 ≠ s_.2.2) ∧ (s_.2.2 ≠ gb289) ∧ (gb294 ≠ s_.2.2) ∧ (s_.2.2 ≠ gb294) ∧ (gb327 ≠ s_.2.2) ∧ (s_.2.2 ≠ gb327) ∧ (gb331 ≠ s_.2.2) ∧ (s_.2.2 ≠ gb331) ∧ (Below w.heap.size w w')) ?_ ?_
                  rotate_left
                  ·intro hJ1_3_11
                   refine join_ (σ := Value × Value × Nat) 8 #[true, true, true, false, true, true, false, false, false, false, false, true, false, false] (fun s_ => [(153, s_.1), (157, s_.2.1), (26, .pointer (some ⟨s_.2.2, 0, none⟩))]) (fun s_ w' => (w'.cell? ⟨gb289, 0, none⟩ = some (.string a2_0) ∧ w'.cell? ⟨gb289, 1, none⟩ = some (.int .i64 a2_1)) ∧ (Kd.R k59 59 w' w.heap.size (fun k_ => some k_ ≠ (s_.2.1 : Value).ownBlock ∧ k_ ≠ gb289) s_.1 y333) ∧ (Kd.R k59 59 w' w.heap.size (fun k_ => some k_ ≠ (s_.1 : Value).ownBlock ∧ k_ ≠ gb289) s_.2.1 y339) ∧ (Kd.R Kd.string 9 w' w.heap.size (fun _ => True) (.slice Ao110 t295.length co110) t295) ∧ (w'.heap[gb289]? = some (.cells #[.string a2_0, .int .i64 a2_1] 59 (0, 0))) ∧ (w'.heap[gb294]? = some (.cells #[.int .i64 t292, .int .i64 t293] 28 (0, 0))) ∧ (w'.heap[gb327]? = some (.cells #[.int .i64 t325, .int .i64 t326] 28 (0, 0))) ∧ (w'.heap[gb331]? = some (.cells #[.int .i64 t329, .int .i64 t330] 28 (0, 0))) ∧ (w'.heap[s_.2.2]? = some (.cells #[.int .i64 0, .int .i64 0] 28 (0, 0))) ∧ (w.heap.size ≤ s_.2.2) ∧ (w.heap.size ≤ s_.2.2) ∧ (gb289 ≠ s_.2.2) ∧ (s_.2.2 ≠ gb289) ∧ (gb294 ≠ s_.2.2) ∧ (s_.2.2 ≠ gb294) ∧ (gb327 ≠ s_.2.2) ∧ (s_.2.2 ≠ gb327) ∧ (gb331 ≠ s_.2.2) ∧ (s_.2.2 ≠ gb331) ∧ (Below w.heap.size w w')) ?_ ?_
                   rotate_left
                   ·intro hJ1_5_11
                    refine join_ (σ := Value × Value) 9 #[true, true, true, true, true, false, false, false, false, false, false, false, false, false] (fun s_ => [(153, s_.1), (155, s_.2)]) (fun s_ w' => (w'.cell? ⟨gb289, 0, none⟩ = some (.string a2_0) ∧ w'.cell? ⟨gb289, 1, none⟩ = some (.int .i64 a2_1)) ∧ (Kd.R k59 59 w' w.heap.size (fun k_ => k_ ≠ gb289) s_.2 y336) ∧ (Kd.R Kd.string 9 w' w.heap.size (fun _ => True) (.slice Ao110 t295.length co110) t295) ∧ (w'.heap[gb289]? = some (.cells #[.string a2_0, .int .i64 a2_1] 59 (0, 0))) ∧ (w'.heap[gb294]? = some (.cells #[.int .i64 t292, .int .i64 t293] 28 (0, 0))) ∧ (w'.heap[gb327]? = some (.cells #[.int .i64 t325, .int .i64 t326] 28 (0, 0))) ∧ (w'.heap[gb331]? = some (.cells #[.int .i64 t329, .int .i64 t330] 28 (0, 0))) ∧ (Below w.heap.size w w')) ?_ ?_
                    rotate_left
                    ·intro hJ1_3
                     refine join_ (σ := Value × Value) 9 #[true, true, true, false, true, true, false, false, false, false, false, false, false, false] (fun s_ => [(153, s_.1), (157, s_.2)]) (fun s_ w' => (w'.cell? ⟨gb289, 0, none⟩ = some (.string a2_0) ∧ w'.cell? ⟨gb289, 1, none⟩ = some (.int .i64 a2_1)) ∧ (Kd.R k59 59 w' w.heap.size (fun k_ => some k_ ≠ (s_.2 : Value).ownBlock ∧ k_ ≠ gb289) s_.1 y333) ∧ (Kd.R k59 59 w' w.heap.size (fun k_ => some k_ ≠ (s_.1 : Value).ownBlock ∧ k_ ≠ gb289) s_.2 y339) ∧ (Kd.R Kd.string 9 w' w.heap.size (fun _ => True) (.slice Ao110 t295.length co110) t295) ∧ (w'.heap[gb289]? = some (.cells #[.string a2_0, .int .i64 a2_1] 59 (0, 0))) ∧ (w'.heap[gb294]? = some (.cells #[.int .i64 t292, .int .i64 t293] 28 (0, 0))) ∧ (w'.heap[gb327]? = some (.cells #[.int .i64 t325, .int .i64 t326] 28 (0, 0))) ∧ (w'.heap[gb331]? = some (.cells #[.int .i64 t329, .int .i64 t330] 28 (0, 0))) ∧ (Below w.heap.size w w')) ?_ ?_
                     rotate_left
                     ·intro hJ1_5
                      refine join_ (σ := Value × Nat) 9 #[true, true, true, false, true, false, false, false, false, false, false, true, false, false] (fun s_ => [(153, s_.1), (26, .pointer (some ⟨s_.2, 0, none⟩))]) (fun s_ w' => (w'.cell? ⟨gb289, 0, none⟩ = some (.string a2_0) ∧ w'.cell? ⟨gb289, 1, none⟩ = some (.int .i64 a2_1)) ∧ (Kd.R k59 59 w' w.heap.size (fun k_ => k_ ≠ gb289) s_.1 y333) ∧ (Kd.R Kd.string 9 w' w.heap.size (fun _ => True) (.slice Ao110 t295.length co110) t295) ∧ (w'.heap[gb289]? = some (.cells #[.string a2_0, .int .i64 a2_1] 59 (0, 0))) ∧ (w'.heap[gb294]? = some (.cells #[.int .i64 t292, .int .i64 t293] 28 (0, 0))) ∧ (w'.heap[gb327]? = some (.cells #[.int .i64 t325, .int .i64 t326] 28 (0, 0))) ∧ (w'.heap[gb331]? = some (.cells #[.int .i64 t329, .int .i64 t330] 28 (0, 0))) ∧ (w'.heap[s_.2]? = some (.cells #[.int .i64 0, .int .i64 0] 28 (0, 0))) ∧ (w.heap.size ≤ s_.2) ∧ (w.heap.size ≤ s_.2) ∧ (gb289 ≠ s_.2) ∧ (s_.2 ≠ gb289) ∧ (gb294 ≠ s_.2) ∧ (s_.2 ≠ gb294) ∧ (gb327 ≠ s_.2) ∧ (s_.2 ≠ gb327) ∧ (gb331 ≠ s_.2) ∧ (s_.2 ≠ gb331) ∧ (Below w.heap.size w w')) ?_ ?_
                      rotate_left
                      ·intro hJ1_11
                       refine join_ (σ := Value × Nat) 9 #[true, false, true, false, true, true, false, false, false, false, false, true, false, false] (fun s_ => [(157, s_.1), (26, .pointer (some ⟨s_.2, 0, none⟩))]) (fun s_ w' => (w'.cell? ⟨gb289, 0, none⟩ = some (.string a2_0) ∧ w'.cell? ⟨gb289, 1, none⟩ = some (.int .i64 a2_1)) ∧ (Kd.R k59 59 w' w.heap.size (fun k_ => k_ ≠ gb289) s_.1 y339) ∧ (Kd.R Kd.string 9 w' w.heap.size (fun _ => True) (.slice Ao110 t295.length co110) t295) ∧ (w'.heap[gb289]? = some (.cells #[.string a2_0, .int .i64 a2_1] 59 (0, 0))) ∧ (w'.heap[gb294]? = some (.cells #[.int .i64 t292, .int .i64 t293] 28 (0, 0))) ∧ (w'.heap[gb327]? = some (.cells #[.int .i64 t325, .int .i64 t326] 28 (0, 0))) ∧ (w'.heap[gb331]? = some (.cells #[.int .i64 t329, .int .i64 t330] 28 (0, 0))) ∧ (w'.heap[s_.2]? = some (.cells #[.int .i64 0, .int .i64 0] 28 (0, 0))) ∧ (w.heap.size ≤ s_.2) ∧ (w.heap.size ≤ s_.2) ∧ (gb289 ≠ s_.2) ∧ (s_.2 ≠ gb289) ∧ (gb294 ≠ s_.2) ∧ (s_.2 ≠ gb294) ∧ (gb327 ≠ s_.2) ∧ (s_.2 ≠ gb327) ∧ (gb331 ≠ s_.2) ∧ (s_.2 ≠ gb331) ∧ (Below w.heap.size w w')) ?_ ?_
                       rotate_left
                       ·intro hJ5_11
                        refine join_ (σ := Value) 10 #[true, true, true, false, true, false, false, false, false, false, false, false, false, false] (fun s_ => [(153, s_)]) (fun s_ w' => (w'.cell? ⟨gb289, 0, none⟩ = some (.string a2_0) ∧ w'.cell? ⟨gb289, 1, none⟩ = some (.int .i64 a2_1)) ∧ (Kd.R k59 59 w' w.heap.size (fun k_ => k_ ≠ gb289) s_ y333) ∧ (Kd.R Kd.string 9 w' w.heap.size (fun _ => True) (.slice Ao110 t295.length co110) t295) ∧ (w'.heap[gb289]? = some (.cells #[.string a2_0, .int .i64 a2_1] 59 (0, 0))) ∧ (w'.heap[gb294]? = some (.cells #[.int .i64 t292, .int .i64 t293] 28 (0, 0))) ∧ (w'.heap[gb327]? = some (.cells #[.int .i64 t325, .int .i64 t326] 28 (0, 0))) ∧ (w'.heap[gb331]? = some (.cells #[.int .i64 t329, .int .i64 t330] 28 (0, 0))) ∧ (Below w.heap.size w w')) ?_ ?_
                        rotate_left
                        ·intro hJ1
                         refine join_ (σ := Value) 10 #[true, false, true, false, true, true, false, false, false, false, false, false, false, false] (fun s_ => [(157, s_)]) (fun s_ w' => (w'.cell? ⟨gb289, 0, none⟩ = some (.string a2_0) ∧ w'.cell? ⟨gb289, 1, none⟩ = some (.int .i64 a2_1)) ∧ (Kd.R k59 59 w' w.heap.size (fun k_ => k_ ≠ gb289) s_ y339) ∧ (Kd.R Kd.string 9 w' w.heap.size (fun _ => True) (.slice Ao110 t295.length co110) t295) ∧ (w'.heap[gb289]? = some (.cells #[.string a2_0, .int .i64 a2_1] 59 (0, 0))) ∧ (w'.heap[gb294]? = some (.cells #[.int .i64 t292, .int .i64 t293] 28 (0, 0))) ∧ (w'.heap[gb327]? = some (.cells #[.int .i64 t325, .int .i64 t326] 28 (0, 0))) ∧ (w'.heap[gb331]? = some (.cells #[.int .i64 t329, .int .i64 t330] 28 (0, 0))) ∧ (Below w.heap.size w w')) ?_ ?_
                         rotate_left
                         ·intro hJ5
                          refine join_ (σ := Nat) 10 #[true, false, true, false, true, false, false, false, false, false, false, true, false, false] (fun s_ => [(26, .pointer (some ⟨s_, 0, none⟩))]) (fun s_ w' => (w'.cell? ⟨gb289, 0, none⟩ = some (.string a2_0) ∧ w'.cell? ⟨gb289, 1, none⟩ = some (.int .i64 a2_1)) ∧ (Kd.R Kd.string 9 w' w.heap.size (fun _ => True) (.slice Ao110 t295.length co110) t295) ∧ (w'.heap[gb289]? = some (.cells #[.string a2_0, .int .i64 a2_1] 59 (0, 0))) ∧ (w'.heap[gb294]? = some (.cells #[.int .i64 t292, .int .i64 t293] 28 (0, 0))) ∧ (w'.heap[gb327]? = some (.cells #[.int .i64 t325, .int .i64 t326] 28 (0, 0))) ∧ (w'.heap[gb331]? = some (.cells #[.int .i64 t329, .int .i64 t330] 28 (0, 0))) ∧ (w'.heap[s_]? = some (.cells #[.int .i64 0, .int .i64 0] 28 (0, 0))) ∧ (w.heap.size ≤ s_) ∧ (w.heap.size ≤ s_) ∧ (gb289 ≠ s_) ∧ (s_ ≠ gb289) ∧ (gb294 ≠ s_) ∧ (s_ ≠ gb294) ∧ (gb327 ≠ s_) ∧ (s_ ≠ gb327) ∧ (gb331 ≠ s_) ∧ (s_ ≠ gb331) ∧ (Below w.heap.size w w')) ?_ ?_
                          rotate_left
                          ·intro hJ11
                           refine three_ (i := 1) (j := 5) (k := 11) (Ni := some 153) (Nj := some 157) (Nk := some 26) #[true, true, true, false, true, false, false, false, false, false, false, false, false, false] #[true, false, true, false, true, true, false, false, false, false, false, false, false, false] #[true, false, true, false, true, false, false, false, false, false, false, true, false, false] rfl rfl rfl rfl rfl rfl (three_of HT_.out sq2) sq1 sq1 sq1 (fun K hK => ?_) (fun K hK => ?_) (fun K hK => ?_)
                           ·skip
                            refine Kd.R_lit_step k59 _ 59 ?hg (N := 153) ?hd (xs := ([] : List (S59))) (inner := []) (ok := fun _ => True) (okp := fun _ => True) ?hr ?hp (fun _ hk => hk) trivial (Below.refl _ _) (Nat.le_refl _) (by simp) ?_; (case hd => rfl); (case hg => rfl); (case hr => first | (go_simp; done) | (go_simp; rfl)); (case hp => exact (Reps.none _ _))
                            intro v334 w129 ho130 hb hg_ hnew_
                            clear hg_ hnew_
                            (first | rw [← Ny333.out] at ho130 | (simp only [Int.reduceToNat] at ho130; rw [← Ny333.out] at ho130))
                            have n0_ := Aside0.mk (Kd.R_below sq32 hb)
                            have n1_ := Aside0.mk (Kd.R_lower (Kd.R_newB ho130 (g := gb289) (o := .cells #[.string a2_0, .int .i64 a2_1] 59 (0, 0)) sq45) (below_size sq89))
                            have n2_ := Aside0.mk (blk_below (g := gb289) (o := .cells #[.string a2_0, .int .i64 a2_1] 59 (0, 0)) sq45 hb)
                            have n3_ := Aside0.mk (blk_below (g := gb294) (o := .cells #[.int .i64 t292, .int .i64 t293] 28 (0, 0)) sq46 hb)
                            have n4_ := Aside0.mk (blk_below (g := gb327) (o := .cells #[.int .i64 t325, .int .i64 t326] 28 (0, 0)) sq47 hb)
                            have n5_ := Aside0.mk (blk_below (g := gb331) (o := .cells #[.int .i64 t329, .int .i64 t330] 28 (0, 0)) sq48 hb)
                            have n6_ := Aside0.mk (below_step sq89 hb)
                            clear HO_140; clear BK289; clear BK294; clear BK327; clear BK331; clear HB
                            have HO_140 := n0_
                            have HO335 := n1_
                            have BK289 := n2_
                            have BK294 := n3_
                            have BK327 := n4_
                            have BK331 := n5_
                            have HB := n6_
                            clear n0_ n1_ n2_ n3_ n4_ n5_ n6_
                            clear hb ho130
                            refine hK.out _ _ ⟨(blk_cell BK289.out 0).trans rfl, (blk_cell BK289.out 1).trans rfl⟩ (fun hHeld => ?_)
                            clear hK K
                            refine norm_ (a' := ?_) ?_ ?_
                            rotate_left
                            ·show Act.put _ (some 153) _ = _
                             simp only [Act.put, List.setIfInBounds_toArray, List.set_cons_zero, List.set_cons_succ, i64_w, i32_w]
                             rfl
                            exact norm_ sq84 (hJ1 (v334) _ ⟨hHeld, (by (with_reducible repeat (first | apply Kd.R_alloc | apply Kd.R_drewN | apply Kd.R_drew)); exact Kd.R_mono HO335.out (fun _ hk => hk.2)), sq32, sq45, sq46, sq47, sq48, sq89⟩)
                           ·skip
                            refine Kd.R_lit_step k59 _ 59 ?hg (N := 157) ?hd (xs := ([(⟨a2_0, a2_1⟩ : S59)] : List (S59))) (inner := [.string a2_0, .int .i64 a2_1]) (ok := fun _ => True) (okp := fun _ => True) ?hr ?hp (fun _ hk => hk) trivial (Below.refl _ _) (Nat.le_refl _) (by simp) ?_; (case hd => rfl); (case hg => rfl); (case hr => first | (go_simp; done) | (go_simp; rfl)); (case hp => exact (Reps.c2 (show Kd.M k59 _ _ _ (⟨a2_0, a2_1⟩ : S59) [.string a2_0, .int .i64 a2_1] from (k59_mkM _ _ _ (⟨a2_0, a2_1⟩ : S59) )) (Reps.none _ _)))
                            intro v340 w129 ho130 hb hg_ hnew_
                            clear hg_ hnew_
                            (first | rw [← Ny339.out] at ho130 | (simp only [Int.reduceToNat] at ho130; rw [← Ny339.out] at ho130))
                            have n0_ := Aside0.mk (Kd.R_below sq32 hb)
                            have n1_ := Aside0.mk (Kd.R_lower (Kd.R_newB ho130 (g := gb289) (o := .cells #[.string a2_0, .int .i64 a2_1] 59 (0, 0)) sq45) (below_size sq89))
                            have n2_ := Aside0.mk (blk_below (g := gb289) (o := .cells #[.string a2_0, .int .i64 a2_1] 59 (0, 0)) sq45 hb)
                            have n3_ := Aside0.mk (blk_below (g := gb294) (o := .cells #[.int .i64 t292, .int .i64 t293] 28 (0, 0)) sq46 hb)
                            have n4_ := Aside0.mk (blk_below (g := gb327) (o := .cells #[.int .i64 t325, .int .i64 t326] 28 (0, 0)) sq47 hb)
                            have n5_ := Aside0.mk (blk_below (g := gb331) (o := .cells #[.int .i64 t329, .int .i64 t330] 28 (0, 0)) sq48 hb)
                            have n6_ := Aside0.mk (below_step sq89 hb)
                            clear HO_140; clear BK289; clear BK294; clear BK327; clear BK331; clear HB
                            have HO_140 := n0_
                            have HO341 := n1_
                            have BK289 := n2_
                            have BK294 := n3_
                            have BK327 := n4_
                            have BK331 := n5_
                            have HB := n6_
                            clear n0_ n1_ n2_ n3_ n4_ n5_ n6_
                            clear hb ho130
                            refine hK.out _ _ ⟨(blk_cell BK289.out 0).trans rfl, (blk_cell BK289.out 1).trans rfl⟩ (fun hHeld => ?_)
                            clear hK K
                            refine norm_ (a' := ?_) ?_ ?_
                            rotate_left
                            ·show Act.put _ (some 157) _ = _
                             simp only [Act.put, List.setIfInBounds_toArray, List.set_cons_zero, List.set_cons_succ, i64_w, i32_w]
                             rfl
                            exact norm_ sq84 (hJ5 (v340) _ ⟨hHeld, (by (with_reducible repeat (first | apply Kd.R_alloc | apply Kd.R_drewN | apply Kd.R_drew)); exact Kd.R_mono HO341.out (fun _ hk => hk.2)), sq32, sq45, sq46, sq47, sq48, sq89⟩)
                           skip
                           refine box_step ?hg (N := 26) ?hd (cs := #[.int .i64 0, .int .i64 0]) (t := 28) ?hr ?_; (case hd => rfl); (case hg => rfl); (case hr => first | (go_simp; done) | (go_simp; rfl))
                           intro gb348 hg w129 hbox hb
                           have n0_ := Aside0.mk (Kd.R_below sq32 hb)
                           have n1_ := Aside0.mk (blk_below (g := gb289) (o := .cells #[.string a2_0, .int .i64 a2_1] 59 (0, 0)) sq45 hb)
                           have n2_ := Aside0.mk (blk_below (g := gb294) (o := .cells #[.int .i64 t292, .int .i64 t293] 28 (0, 0)) sq46 hb)
                           have n3_ := Aside0.mk (blk_below (g := gb327) (o := .cells #[.int .i64 t325, .int .i64 t326] 28 (0, 0)) sq47 hb)
                           have n4_ := Aside0.mk (blk_below (g := gb331) (o := .cells #[.int .i64 t329, .int .i64 t330] 28 (0, 0)) sq48 hb)
                           have n5_ := Aside0.mk (below_step sq89 hb)
                           have n6_ := Aside0.mk (hbox)
                           have n7_ := Aside0.mk ((by rw [hg]; exact (below_size sq89) : w.heap.size ≤ gb348))
                           have n8_ := Aside0.mk ((by rw [hg]; exact (below_size sq89) : w.heap.size ≤ gb348))
                           have n9_ := Aside0.mk ((by rw [hg]; exact Nat.ne_of_lt (blk_lt (g := gb289) (o := .cells #[.string a2_0, .int .i64 a2_1] 59 (0, 0)) sq45) : gb289 ≠ gb348))
                           have n10_ := Aside0.mk ((by rw [hg]; exact Nat.ne_of_gt (blk_lt (g := gb289) (o := .cells #[.string a2_0, .int .i64 a2_1] 59 (0, 0)) sq45) : gb348 ≠ gb289))
                           have n11_ := Aside0.mk ((by rw [hg]; exact Nat.ne_of_lt (blk_lt (g := gb294) (o := .cells #[.int .i64 t292, .int .i64 t293] 28 (0, 0)) sq46) : gb294 ≠ gb348))
                           have n12_ := Aside0.mk ((by rw [hg]; exact Nat.ne_of_gt (blk_lt (g := gb294) (o := .cells #[.int .i64 t292, .int .i64 t293] 28 (0, 0)) sq46) : gb348 ≠ gb294))
                           have n13_ := Aside0.mk ((by rw [hg]; exact Nat.ne_of_lt (blk_lt (g := gb327) (o := .cells #[.int .i64 t325, .int .i64 t326] 28 (0, 0)) sq47) : gb327 ≠ gb348))
                           have n14_ := Aside0.mk ((by rw [hg]; exact Nat.ne_of_gt (blk_lt (g := gb327) (o := .cells #[.int .i64 t325, .int .i64 t326] 28 (0, 0)) sq47) : gb348 ≠ gb327))
                           have n15_ := Aside0.mk ((by rw [hg]; exact Nat.ne_of_lt (blk_lt (g := gb331) (o := .cells #[.int .i64 t329, .int .i64 t330] 28 (0, 0)) sq48) : gb331 ≠ gb348))
                           have n16_ := Aside0.mk ((by rw [hg]; exact Nat.ne_of_gt (blk_lt (g := gb331) (o := .cells #[.int .i64 t329, .int .i64 t330] 28 (0, 0)) sq48) : gb348 ≠ gb331))
                           clear HO_140; clear BK289; clear BK294; clear BK327; clear BK331; clear HB
                           have HO_140 := n0_
                           have BK289 := n1_
                           have BK294 := n2_
                           have BK327 := n3_
                           have BK331 := n4_
                           have HB := n5_
                           have BK348 := n6_
                           have GW348 := n7_
                           have GE348 := n8_
                           have NB289_348 := n9_
                           have NB348_289 := n10_
                           have NB294_348 := n11_
                           have NB348_294 := n12_
                           have NB327_348 := n13_
                           have NB348_327 := n14_
                           have NB331_348 := n15_
                           have NB348_331 := n16_
                           clear n0_ n1_ n2_ n3_ n4_ n5_ n6_ n7_ n8_ n9_ n10_ n11_ n12_ n13_ n14_ n15_ n16_
                           clear hb hbox hg
                           refine hK.out _ _ ⟨(blk_cell BK289.out 0).trans rfl, (blk_cell BK289.out 1).trans rfl⟩ (fun hHeld => ?_)
                           clear hK K
                           refine norm_ (a' := ?_) ?_ ?_
                           rotate_left
                           ·show Act.put _ (some 26) _ = _
                            simp only [Act.put, List.setIfInBounds_toArray, List.set_cons_zero, List.set_cons_succ, i64_w, i32_w]
                            rfl
                           exact norm_ sq84 (hJ11 (gb348) _ ⟨hHeld, sq32, sq45, sq46, sq47, sq48, sq49, GW348.out, GE348.out, NB289_348.out, NB348_289.out, NB294_348.out, NB348_294.out, NB327_348.out, NB348_327.out, NB331_348.out, NB348_331.out, sq91⟩)
                          skip
                          rintro gb348 w130 ⟨hS_, h0_, h1_, h2_, h3_, h4_, h5_, h6_, h7_, h8_, h9_, h10_, h11_, h12_, h13_, h14_, h15_, h16_⟩
                          have n0_ : Aside0 (Kd.R Kd.string 9 w130 w.heap.size (fun _ => True) (.slice Ao110 t295.length co110) t295) := ⟨h0_⟩
                          have n1_ : Aside0 (w130.heap[gb289]? = some (.cells #[.string a2_0, .int .i64 a2_1] 59 (0, 0))) := ⟨h1_⟩
                          have n2_ : Aside0 (w130.heap[gb294]? = some (.cells #[.int .i64 t292, .int .i64 t293] 28 (0, 0))) := ⟨h2_⟩
                          have n3_ : Aside0 (w130.heap[gb327]? = some (.cells #[.int .i64 t325, .int .i64 t326] 28 (0, 0))) := ⟨h3_⟩
                          have n4_ : Aside0 (w130.heap[gb331]? = some (.cells #[.int .i64 t329, .int .i64 t330] 28 (0, 0))) := ⟨h4_⟩
                          have n5_ : Aside0 (w130.heap[gb348]? = some (.cells #[.int .i64 0, .int .i64 0] 28 (0, 0))) := ⟨h5_⟩
                          have n6_ : Aside0 (w.heap.size ≤ gb348) := ⟨h6_⟩
                          have n7_ : Aside0 (w.heap.size ≤ gb348) := ⟨h7_⟩
                          have n8_ : Aside0 (gb289 ≠ gb348) := ⟨h8_⟩
                          have n9_ : Aside0 (gb348 ≠ gb289) := ⟨h9_⟩
                          have n10_ : Aside0 (gb294 ≠ gb348) := ⟨h10_⟩
                          have n11_ : Aside0 (gb348 ≠ gb294) := ⟨h11_⟩
                          have n12_ : Aside0 (gb327 ≠ gb348) := ⟨h12_⟩
                          have n13_ : Aside0 (gb348 ≠ gb327) := ⟨h13_⟩
                          have n14_ : Aside0 (gb331 ≠ gb348) := ⟨h14_⟩
                          have n15_ : Aside0 (gb348 ≠ gb331) := ⟨h15_⟩
                          have n16_ : Aside0 (Below w.heap.size w w130) := ⟨h16_⟩
                          clear HO_140; clear BK289; clear BK294; clear BK327; clear BK331; clear HB
                          clear h0_ h1_ h2_ h3_ h4_ h5_ h6_ h7_ h8_ h9_ h10_ h11_ h12_ h13_ h14_ h15_ h16_
                          have HO_140 := n0_
                          have BK289 := n1_
                          have BK294 := n2_
                          have BK327 := n3_
                          have BK331 := n4_
                          have BK348 := n5_
                          have GW348 := n6_
                          have GE348 := n7_
                          have NB289_348 := n8_
                          have NB348_289 := n9_
                          have NB294_348 := n10_
                          have NB348_294 := n11_
                          have NB327_348 := n12_
                          have NB348_327 := n13_
                          have NB331_348 := n14_
                          have NB348_331 := n15_
                          have HB := n16_
                          clear n0_ n1_ n2_ n3_ n4_ n5_ n6_ n7_ n8_ n9_ n10_ n11_ n12_ n13_ n14_ n15_ n16_
                          have hHeld : w130.cell? ⟨gb289, 0, none⟩ = some (.string a2_0) ∧ w130.cell? ⟨gb289, 1, none⟩ = some (.int .i64 a2_1) := hS_
                          refine norm_ (a' := ?_) ?_ ?_
                          rotate_left
                          ·simp only [putAll, Act.put, List.setIfInBounds_toArray, List.set_cons_zero, List.set_cons_succ]
                           rfl
                          refine two_ (i := 1) (j := 5) (Ni := some 153) (Nj := some 157) #[true, true, true, false, true, false, false, false, false, false, false, true, false, false] #[true, false, true, false, true, true, false, false, false, false, false, true, false, false] rfl rfl rfl rfl (two_of HT_.out sq2) sq1 sq1 (fun K hK => ?_) (fun K hK => ?_)
                          ·skip
                           refine Kd.R_lit_step k59 _ 59 ?hg (N := 153) ?hd (xs := ([] : List (S59))) (inner := []) (ok := fun _ => True) (okp := fun _ => True) ?hr ?hp (fun _ hk => hk) trivial (Below.refl _ _) (Nat.le_refl _) (by simp) ?_; (case hd => rfl); (case hg => rfl); (case hr => first | (go_simp; done) | (go_simp; rfl)); (case hp => exact (Reps.none _ _))
                           intro v334 w131 ho132 hb hg_ hnew_
                           clear hg_ hnew_
                           (first | rw [← Ny333.out] at ho132 | (simp only [Int.reduceToNat] at ho132; rw [← Ny333.out] at ho132))
                           have n0_ := Aside0.mk (Kd.R_below sq32 hb)
                           have n1_ := Aside0.mk (Kd.R_lower (Kd.R_newB ho132 (g := gb289) (o := .cells #[.string a2_0, .int .i64 a2_1] 59 (0, 0)) sq45) (below_size sq91))
                           have n2_ := Aside0.mk (blk_below (g := gb289) (o := .cells #[.string a2_0, .int .i64 a2_1] 59 (0, 0)) sq45 hb)
                           have n3_ := Aside0.mk (blk_below (g := gb294) (o := .cells #[.int .i64 t292, .int .i64 t293] 28 (0, 0)) sq46 hb)
                           have n4_ := Aside0.mk (blk_below (g := gb327) (o := .cells #[.int .i64 t325, .int .i64 t326] 28 (0, 0)) sq47 hb)
                           have n5_ := Aside0.mk (blk_below (g := gb331) (o := .cells #[.int .i64 t329, .int .i64 t330] 28 (0, 0)) sq48 hb)
                           have n6_ := Aside0.mk (blk_below (g := gb348) (o := .cells #[.int .i64 0, .int .i64 0] 28 (0, 0)) sq49 hb)
                           have n7_ := Aside0.mk (below_step sq91 hb)
                           clear HO_140; clear BK289; clear BK294; clear BK327; clear BK331; clear BK348; clear HB
                           have HO_140 := n0_
                           have HO335 := n1_
                           have BK289 := n2_
                           have BK294 := n3_
                           have BK327 := n4_
                           have BK331 := n5_
                           have BK348 := n6_
                           have HB := n7_
                           clear n0_ n1_ n2_ n3_ n4_ n5_ n6_ n7_
                           clear hb ho132
                           refine hK.out _ _ ⟨(blk_cell BK289.out 0).trans rfl, (blk_cell BK289.out 1).trans rfl⟩ (fun hHeld => ?_)
                           clear hK K
                           refine norm_ (a' := ?_) ?_ ?_
                           rotate_left
                           ·show Act.put _ (some 153) _ = _
                            simp only [Act.put, List.setIfInBounds_toArray, List.set_cons_zero, List.set_cons_succ, i64_w, i32_w]
                            rfl
                           exact norm_ sq84 (hJ1_11 (v334, gb348) _ ⟨hHeld, (by (with_reducible repeat (first | apply Kd.R_alloc | apply Kd.R_drewN | apply Kd.R_drew)); exact Kd.R_mono HO335.out (fun _ hk => hk.2)), sq32, sq45, sq46, sq47, sq48, sq49, GW348.out, GE348.out, NB289_348.out, NB348_289.out, NB294_348.out, NB348_294.out, NB327_348.out, NB348_327.out, NB331_348.out, NB348_331.out, sq91⟩)
                          skip
                          refine Kd.R_lit_step k59 _ 59 ?hg (N := 157) ?hd (xs := ([(⟨a2_0, a2_1⟩ : S59)] : List (S59))) (inner := [.string a2_0, .int .i64 a2_1]) (ok := fun _ => True) (okp := fun _ => True) ?hr ?hp (fun _ hk => hk) trivial (Below.refl _ _) (Nat.le_refl _) (by simp) ?_; (case hd => rfl); (case hg => rfl); (case hr => first | (go_simp; done) | (go_simp; rfl)); (case hp => exact (Reps.c2 (show Kd.M k59 _ _ _ (⟨a2_0, a2_1⟩ : S59) [.string a2_0, .int .i64 a2_1] from (k59_mkM _ _ _ (⟨a2_0, a2_1⟩ : S59) )) (Reps.none _ _)))
                          intro v340 w131 ho132 hb hg_ hnew_
                          clear hg_ hnew_
                          (first | rw [← Ny339.out] at ho132 | (simp only [Int.reduceToNat] at ho132; rw [← Ny339.out] at ho132))
                          have n0_ := Aside0.mk (Kd.R_below sq32 hb)
                          have n1_ := Aside0.mk (Kd.R_lower (Kd.R_newB ho132 (g := gb289) (o := .cells #[.string a2_0, .int .i64 a2_1] 59 (0, 0)) sq45) (below_size sq91))
                          have n2_ := Aside0.mk (blk_below (g := gb289) (o := .cells #[.string a2_0, .int .i64 a2_1] 59 (0, 0)) sq45 hb)
                          have n3_ := Aside0.mk (blk_below (g := gb294) (o := .cells #[.int .i64 t292, .int .i64 t293] 28 (0, 0)) sq46 hb)
                          have n4_ := Aside0.mk (blk_below (g := gb327) (o := .cells #[.int .i64 t325, .int .i64 t326] 28 (0, 0)) sq47 hb)
                          have n5_ := Aside0.mk (blk_below (g := gb331) (o := .cells #[.int .i64 t329, .int .i64 t330] 28 (0, 0)) sq48 hb)
                          have n6_ := Aside0.mk (blk_below (g := gb348) (o := .cells #[.int .i64 0, .int .i64 0] 28 (0, 0)) sq49 hb)
                          have n7_ := Aside0.mk (below_step sq91 hb)
                          clear HO_140; clear BK289; clear BK294; clear BK327; clear BK331; clear BK348; clear HB
                          have HO_140 := n0_
                          have HO341 := n1_
                          have BK289 := n2_
                          have BK294 := n3_
                          have BK327 := n4_
                          have BK331 := n5_
                          have BK348 := n6_
                          have HB := n7_
                          clear n0_ n1_ n2_ n3_ n4_ n5_ n6_ n7_
                          clear hb ho132
                          refine hK.out _ _ ⟨(blk_cell BK289.out 0).trans rfl, (blk_cell BK289.out 1).trans rfl⟩ (fun hHeld => ?_)
                          clear hK K
                          refine norm_ (a' := ?_) ?_ ?_
                          rotate_left
                          ·show Act.put _ (some 157) _ = _
                           simp only [Act.put, List.setIfInBounds_toArray, List.set_cons_zero, List.set_cons_succ, i64_w, i32_w]
                           rfl
                          exact norm_ sq84 (hJ5_11 (v340, gb348) _ ⟨hHeld, (by (with_reducible repeat (first | apply Kd.R_alloc | apply Kd.R_drewN | apply Kd.R_drew)); exact Kd.R_mono HO341.out (fun _ hk => hk.2)), sq32, sq45, sq46, sq47, sq48, sq49, GW348.out, GE348.out, NB289_348.out, NB348_289.out, NB294_348.out, NB348_294.out, NB327_348.out, NB348_327.out, NB331_348.out, NB348_331.out, sq91⟩)
                         skip
                         rintro v340 w131 ⟨hS_, h0_, h1_, h2_, h3_, h4_, h5_, h6_⟩
                         have n0_ : Aside0 (Kd.R k59 59 w131 w.heap.size (fun k_ => k_ ≠ gb289) v340 y339) := ⟨h0_⟩
                         have n1_ : Aside0 (Kd.R Kd.string 9 w131 w.heap.size (fun _ => True) (.slice Ao110 t295.length co110) t295) := ⟨h1_⟩
                         have n2_ : Aside0 (w131.heap[gb289]? = some (.cells #[.string a2_0, .int .i64 a2_1] 59 (0, 0))) := ⟨h2_⟩
                         have n3_ : Aside0 (w131.heap[gb294]? = some (.cells #[.int .i64 t292, .int .i64 t293] 28 (0, 0))) := ⟨h3_⟩
                         have n4_ : Aside0 (w131.heap[gb327]? = some (.cells #[.int .i64 t325, .int .i64 t326] 28 (0, 0))) := ⟨h4_⟩
                         have n5_ : Aside0 (w131.heap[gb331]? = some (.cells #[.int .i64 t329, .int .i64 t330] 28 (0, 0))) := ⟨h5_⟩
                         have n6_ : Aside0 (Below w.heap.size w w131) := ⟨h6_⟩
                         clear HO_140; clear BK289; clear BK294; clear BK327; clear BK331; clear HB
                         clear h0_ h1_ h2_ h3_ h4_ h5_ h6_
                         have HO341 := n0_
                         have HO_140 := n1_
                         have BK289 := n2_
                         have BK294 := n3_
                         have BK327 := n4_
                         have BK331 := n5_
                         have HB := n6_
                         clear n0_ n1_ n2_ n3_ n4_ n5_ n6_
                         have hHeld : w131.cell? ⟨gb289, 0, none⟩ = some (.string a2_0) ∧ w131.cell? ⟨gb289, 1, none⟩ = some (.int .i64 a2_1) := hS_
                         refine norm_ (a' := ?_) ?_ ?_
                         rotate_left
                         ·simp only [putAll, Act.put, List.setIfInBounds_toArray, List.set_cons_zero, List.set_cons_succ]
                          rfl
                         refine two_ (i := 1) (j := 11) (Ni := some 153) (Nj := some 26) #[true, true, true, false, true, true, false, false, false, false, false, false, false, false] #[true, false, true, false, true, true, false, false, false, false, false, true, false, false] rfl rfl rfl rfl (two_of HT_.out sq2) sq1 sq1 (fun K hK => ?_) (fun K hK => ?_)
                         ·skip
                          refine Kd.R_lit_step k59 _ 59 ?hg (N := 153) ?hd (xs := ([] : List (S59))) (inner := []) (ok := fun _ => True) (okp := fun _ => True) ?hr ?hp (fun _ hk => hk) trivial (Below.refl _ _) (Nat.le_refl _) (by simp) ?_; (case hd => rfl); (case hg => rfl); (case hr => first | (go_simp; done) | (go_simp; rfl)); (case hp => exact (Reps.none _ _))
                          intro v334 w132 ho133 hb hg_ hnew_
                          clear hg_ hnew_
                          (first | rw [← Ny333.out] at ho133 | (simp only [Int.reduceToNat] at ho133; rw [← Ny333.out] at ho133))
                          have n0_ := Aside0.mk (Kd.R_below sq32 hb)
                          have n1_ := Aside0.mk (Kd.R_elder' sq28 (Kd.R_base ho133) hb)
                          have n2_ := Aside0.mk (Kd.R_lower (Kd.R_newB (Kd.R_new' ho133 (Kd.R_lt sq28)) (g := gb289) (o := .cells #[.string a2_0, .int .i64 a2_1] 59 (0, 0)) sq45) (below_size sq89))
                          have n3_ := Aside0.mk (blk_below (g := gb289) (o := .cells #[.string a2_0, .int .i64 a2_1] 59 (0, 0)) sq45 hb)
                          have n4_ := Aside0.mk (blk_below (g := gb294) (o := .cells #[.int .i64 t292, .int .i64 t293] 28 (0, 0)) sq46 hb)
                          have n5_ := Aside0.mk (blk_below (g := gb327) (o := .cells #[.int .i64 t325, .int .i64 t326] 28 (0, 0)) sq47 hb)
                          have n6_ := Aside0.mk (blk_below (g := gb331) (o := .cells #[.int .i64 t329, .int .i64 t330] 28 (0, 0)) sq48 hb)
                          have n7_ := Aside0.mk (below_step sq89 hb)
                          clear HO_140; clear HO341; clear BK289; clear BK294; clear BK327; clear BK331; clear HB
                          have HO_140 := n0_
                          have HO341 := n1_
                          have HO335 := n2_
                          have BK289 := n3_
                          have BK294 := n4_
                          have BK327 := n5_
                          have BK331 := n6_
                          have HB := n7_
                          clear n0_ n1_ n2_ n3_ n4_ n5_ n6_ n7_
                          clear hb ho133
                          refine hK.out _ _ ⟨(blk_cell BK289.out 0).trans rfl, (blk_cell BK289.out 1).trans rfl⟩ (fun hHeld => ?_)
                          clear hK K
                          refine norm_ (a' := ?_) ?_ ?_
                          rotate_left
                          ·show Act.put _ (some 153) _ = _
                           simp only [Act.put, List.setIfInBounds_toArray, List.set_cons_zero, List.set_cons_succ, i64_w, i32_w]
                           rfl
                          exact norm_ sq84 (hJ1_5 (v334, v340) _ ⟨hHeld, (by (with_reducible repeat (first | apply Kd.R_alloc | apply Kd.R_drewN | apply Kd.R_drew)); exact Kd.R_mono HO335.out (fun _ hk => ⟨hk.1.2, hk.2⟩)), sq53, sq32, sq45, sq46, sq47, sq48, sq89⟩)
                         skip
                         refine box_step ?hg (N := 26) ?hd (cs := #[.int .i64 0, .int .i64 0]) (t := 28) ?hr ?_; (case hd => rfl); (case hg => rfl); (case hr => first | (go_simp; done) | (go_simp; rfl))
                         intro gb348 hg w132 hbox hb
                         have n0_ := Aside0.mk (Kd.R_below sq32 hb)
                         have n1_ := Aside0.mk (Kd.R_below sq28 hb)
                         have n2_ := Aside0.mk (blk_below (g := gb289) (o := .cells #[.string a2_0, .int .i64 a2_1] 59 (0, 0)) sq45 hb)
                         have n3_ := Aside0.mk (blk_below (g := gb294) (o := .cells #[.int .i64 t292, .int .i64 t293] 28 (0, 0)) sq46 hb)
                         have n4_ := Aside0.mk (blk_below (g := gb327) (o := .cells #[.int .i64 t325, .int .i64 t326] 28 (0, 0)) sq47 hb)
                         have n5_ := Aside0.mk (blk_below (g := gb331) (o := .cells #[.int .i64 t329, .int .i64 t330] 28 (0, 0)) sq48 hb)
                         have n6_ := Aside0.mk (below_step sq89 hb)
                         have n7_ := Aside0.mk (hbox)
                         have n8_ := Aside0.mk ((by rw [hg]; exact (below_size sq89) : w.heap.size ≤ gb348))
                         have n9_ := Aside0.mk ((by rw [hg]; exact (below_size sq89) : w.heap.size ≤ gb348))
                         have n10_ := Aside0.mk ((by rw [hg]; exact Nat.ne_of_lt (blk_lt (g := gb289) (o := .cells #[.string a2_0, .int .i64 a2_1] 59 (0, 0)) sq45) : gb289 ≠ gb348))
                         have n11_ := Aside0.mk ((by rw [hg]; exact Nat.ne_of_gt (blk_lt (g := gb289) (o := .cells #[.string a2_0, .int .i64 a2_1] 59 (0, 0)) sq45) : gb348 ≠ gb289))
                         have n12_ := Aside0.mk ((by rw [hg]; exact Nat.ne_of_lt (blk_lt (g := gb294) (o := .cells #[.int .i64 t292, .int .i64 t293] 28 (0, 0)) sq46) : gb294 ≠ gb348))
                         have n13_ := Aside0.mk ((by rw [hg]; exact Nat.ne_of_gt (blk_lt (g := gb294) (o := .cells #[.int .i64 t292, .int .i64 t293] 28 (0, 0)) sq46) : gb348 ≠ gb294))
                         have n14_ := Aside0.mk ((by rw [hg]; exact Nat.ne_of_lt (blk_lt (g := gb327) (o := .cells #[.int .i64 t325, .int .i64 t326] 28 (0, 0)) sq47) : gb327 ≠ gb348))
                         have n15_ := Aside0.mk ((by rw [hg]; exact Nat.ne_of_gt (blk_lt (g := gb327) (o := .cells #[.int .i64 t325, .int .i64 t326] 28 (0, 0)) sq47) : gb348 ≠ gb327))
                         have n16_ := Aside0.mk ((by rw [hg]; exact Nat.ne_of_lt (blk_lt (g := gb331) (o := .cells #[.int .i64 t329, .int .i64 t330] 28 (0, 0)) sq48) : gb331 ≠ gb348))
                         have n17_ := Aside0.mk ((by rw [hg]; exact Nat.ne_of_gt (blk_lt (g := gb331) (o := .cells #[.int .i64 t329, .int .i64 t330] 28 (0, 0)) sq48) : gb348 ≠ gb331))
                         clear HO_140; clear HO341; clear BK289; clear BK294; clear BK327; clear BK331; clear HB
                         have HO_140 := n0_
                         have HO341 := n1_
                         have BK289 := n2_
                         have BK294 := n3_
                         have BK327 := n4_
                         have BK331 := n5_
                         have HB := n6_
                         have BK348 := n7_
                         have GW348 := n8_
                         have GE348 := n9_
                         have NB289_348 := n10_
                         have NB348_289 := n11_
                         have NB294_348 := n12_
                         have NB348_294 := n13_
                         have NB327_348 := n14_
                         have NB348_327 := n15_
                         have NB331_348 := n16_
                         have NB348_331 := n17_
                         clear n0_ n1_ n2_ n3_ n4_ n5_ n6_ n7_ n8_ n9_ n10_ n11_ n12_ n13_ n14_ n15_ n16_ n17_
                         clear hb hbox hg
                         refine hK.out _ _ ⟨(blk_cell BK289.out 0).trans rfl, (blk_cell BK289.out 1).trans rfl⟩ (fun hHeld => ?_)
                         clear hK K
                         refine norm_ (a' := ?_) ?_ ?_
                         rotate_left
                         ·show Act.put _ (some 26) _ = _
                          simp only [Act.put, List.setIfInBounds_toArray, List.set_cons_zero, List.set_cons_succ, i64_w, i32_w]
                          rfl
                         exact norm_ sq84 (hJ5_11 (v340, gb348) _ ⟨hHeld, sq28, sq32, sq45, sq46, sq47, sq48, sq49, GW348.out, GE348.out, NB289_348.out, NB348_289.out, NB294_348.out, NB348_294.out, NB327_348.out, NB348_327.out, NB331_348.out, NB348_331.out, sq91⟩)
                        skip
                        rintro v334 w131 ⟨hS_, h0_, h1_, h2_, h3_, h4_, h5_, h6_⟩
                        have n0_ : Aside0 (Kd.R k59 59 w131 w.heap.size (fun k_ => k_ ≠ gb289) v334 y333) := ⟨h0_⟩
                        have n1_ : Aside0 (Kd.R Kd.string 9 w131 w.heap.size (fun _ => True) (.slice Ao110 t295.length co110) t295) := ⟨h1_⟩
                        have n2_ : Aside0 (w131.heap[gb289]? = some (.cells #[.string a2_0, .int .i64 a2_1] 59 (0, 0))) := ⟨h2_⟩
                        have n3_ : Aside0 (w131.heap[gb294]? = some (.cells #[.int .i64 t292, .int .i64 t293] 28 (0, 0))) := ⟨h3_⟩
                        have n4_ : Aside0 (w131.heap[gb327]? = some (.cells #[.int .i64 t325, .int .i64 t326] 28 (0, 0))) := ⟨h4_⟩
                        have n5_ : Aside0 (w131.heap[gb331]? = some (.cells #[.int .i64 t329, .int .i64 t330] 28 (0, 0))) := ⟨h5_⟩
                        have n6_ : Aside0 (Below w.heap.size w w131) := ⟨h6_⟩
                        clear HO_140; clear BK289; clear BK294; clear BK327; clear BK331; clear HB
                        clear h0_ h1_ h2_ h3_ h4_ h5_ h6_
                        have HO335 := n0_
                        have HO_140 := n1_
                        have BK289 := n2_
                        have BK294 := n3_
                        have BK327 := n4_
                        have BK331 := n5_
                        have HB := n6_
                        clear n0_ n1_ n2_ n3_ n4_ n5_ n6_
                        have hHeld : w131.cell? ⟨gb289, 0, none⟩ = some (.string a2_0) ∧ w131.cell? ⟨gb289, 1, none⟩ = some (.int .i64 a2_1) := hS_
                        refine norm_ (a' := ?_) ?_ ?_
                        rotate_left
                        ·simp only [putAll, Act.put, List.setIfInBounds_toArray, List.set_cons_zero, List.set_cons_succ]
                         rfl
                        refine three_ (i := 3) (j := 5) (k := 11) (Ni := some 155) (Nj := some 157) (Nk := some 26) #[true, true, true, true, true, false, false, false, false, false, false, false, false, false] #[true, true, true, false, true, true, false, false, false, false, false, false, false, false] #[true, true, true, false, true, false, false, false, false, false, false, true, false, false] rfl rfl rfl rfl rfl rfl (three_of HT_.out sq2) sq1 sq1 sq1 (fun K hK => ?_) (fun K hK => ?_) (fun K hK => ?_)
                        ·skip
                         refine Kd.R_append_rows_step k59 (w0 := w) w.heap.size (by rfl) (.tmp 153) (.tmp 154) 24 59 (.agg #[(.string ⟨#[]⟩), (.int .i64 0)]) 24 rfl Try.underlying24 info59 rfl sq1 sq0 v334 y333 l1 _ _ _ (fun k_ => k_ ≠ gb289) (fun _ => False) rfl rfl ?aO ?aR (fun _ _ h => h) (fun _ h => h.elim) ?aF ?aB ?aS ?aL ?_
                         (case aR => repeat (first | exact (Kd.C_below HR1.out HB.out) | (with_reducible refine Kd.C_alloc ?_ _) | (with_reducible refine Kd.C_drewN ?_ _) | (with_reducible refine Kd.C_drew ?_)))
                         (case aB => exact sq89)
                         (case aF => exact (fun k_ hk => Kd.freshB (g := gb289) (o := .cells #[.string a2_0, .int .i64 a2_1] 59 (0, 0)) sq45 k_ hk))
                         (case aO => exact sq29)
                         (case aS => exact (below_size sq89))
                         (case aL => have := LMc123.out; omega)
                         intro v337 w132 ho hb hg hat
                         rw [← Ny336.out] at ho
                         have n0_ := Aside0.mk (Kd.R_over' sq32 (Kd.R_typed sq29) sq1 hg)
                         have n1_ := Aside0.mk (blk_grown (g := gb289) (o := .cells #[.string a2_0, .int .i64 a2_1] 59 (0, 0)) sq45 hg (Kd.R_away HO335.out (fun _ hk => hk)))
                         have n2_ := Aside0.mk (blk_grown (g := gb294) (o := .cells #[.int .i64 t292, .int .i64 t293] 28 (0, 0)) sq46 hg (Kd.R_ne HO335.out BK294.out sq1))
                         have n3_ := Aside0.mk (blk_grown (g := gb327) (o := .cells #[.int .i64 t325, .int .i64 t326] 28 (0, 0)) sq47 hg (Kd.R_ne HO335.out BK327.out sq1))
                         have n4_ := Aside0.mk (blk_grown (g := gb331) (o := .cells #[.int .i64 t329, .int .i64 t330] 28 (0, 0)) sq48 hg (Kd.R_ne HO335.out BK331.out sq1))
                         have n5_ := Aside0.mk (hb)
                         have n6_ := Aside0.mk (ho)
                         clear HO_140; clear BK289; clear BK294; clear BK327; clear BK331; clear HB; clear HO335
                         have HO_140 := n0_
                         have BK289 := n1_
                         have BK294 := n2_
                         have BK327 := n3_
                         have BK331 := n4_
                         have HB := n5_
                         have HO338 := n6_
                         clear n0_ n1_ n2_ n3_ n4_ n5_ n6_
                         clear ho hb hg hat
                         refine hK.out _ _ ⟨(blk_cell BK289.out 0).trans rfl, (blk_cell BK289.out 1).trans rfl⟩ (fun hHeld => ?_)
                         clear hK K
                         refine norm_ (a' := ?_) ?_ ?_
                         rotate_left
                         ·show Act.put _ (some 155) _ = _
                          simp only [Act.put, List.setIfInBounds_toArray, List.set_cons_zero, List.set_cons_succ, i64_w, i32_w]
                          rfl
                         exact norm_ sq84 (hJ1_3 (v334, v337) _ ⟨hHeld, sq30, sq32, sq45, sq46, sq47, sq48, sq89⟩)
                        ·skip
                         refine Kd.R_lit_step k59 _ 59 ?hg (N := 157) ?hd (xs := ([(⟨a2_0, a2_1⟩ : S59)] : List (S59))) (inner := [.string a2_0, .int .i64 a2_1]) (ok := fun _ => True) (okp := fun _ => True) ?hr ?hp (fun _ hk => hk) trivial (Below.refl _ _) (Nat.le_refl _) (by simp) ?_; (case hd => rfl); (case hg => rfl); (case hr => first | (go_simp; done) | (go_simp; rfl)); (case hp => exact (Reps.c2 (show Kd.M k59 _ _ _ (⟨a2_0, a2_1⟩ : S59) [.string a2_0, .int .i64 a2_1] from (k59_mkM _ _ _ (⟨a2_0, a2_1⟩ : S59) )) (Reps.none _ _)))
                         intro v340 w132 ho133 hb hg_ hnew_
                         clear hg_ hnew_
                         (first | rw [← Ny339.out] at ho133 | (simp only [Int.reduceToNat] at ho133; rw [← Ny339.out] at ho133))
                         have n0_ := Aside0.mk (Kd.R_below sq32 hb)
                         have n1_ := Aside0.mk (Kd.R_elder' sq29 (Kd.R_base ho133) hb)
                         have n2_ := Aside0.mk (Kd.R_lower (Kd.R_newB (Kd.R_new' ho133 (Kd.R_lt sq29)) (g := gb289) (o := .cells #[.string a2_0, .int .i64 a2_1] 59 (0, 0)) sq45) (below_size sq89))
                         have n3_ := Aside0.mk (blk_below (g := gb289) (o := .cells #[.string a2_0, .int .i64 a2_1] 59 (0, 0)) sq45 hb)
                         have n4_ := Aside0.mk (blk_below (g := gb294) (o := .cells #[.int .i64 t292, .int .i64 t293] 28 (0, 0)) sq46 hb)
                         have n5_ := Aside0.mk (blk_below (g := gb327) (o := .cells #[.int .i64 t325, .int .i64 t326] 28 (0, 0)) sq47 hb)
                         have n6_ := Aside0.mk (blk_below (g := gb331) (o := .cells #[.int .i64 t329, .int .i64 t330] 28 (0, 0)) sq48 hb)
                         have n7_ := Aside0.mk (below_step sq89 hb)
                         clear HO_140; clear HO335; clear BK289; clear BK294; clear BK327; clear BK331; clear HB
                         have HO_140 := n0_
                         have HO335 := n1_
                         have HO341 := n2_
                         have BK289 := n3_
                         have BK294 := n4_
                         have BK327 := n5_
                         have BK331 := n6_
                         have HB := n7_
                         clear n0_ n1_ n2_ n3_ n4_ n5_ n6_ n7_
                         clear hb ho133
                         refine hK.out _ _ ⟨(blk_cell BK289.out 0).trans rfl, (blk_cell BK289.out 1).trans rfl⟩ (fun hHeld => ?_)
                         clear hK K
                         refine norm_ (a' := ?_) ?_ ?_
                         rotate_left
                         ·show Act.put _ (some 157) _ = _
                          simp only [Act.put, List.setIfInBounds_toArray, List.set_cons_zero, List.set_cons_succ, i64_w, i32_w]
                          rfl
                         exact norm_ sq84 (hJ1_5 (v334, v340) _ ⟨hHeld, (by (with_reducible repeat (first | apply Kd.R_alloc | apply Kd.R_drewN | apply Kd.R_drew)); exact Kd.R_mono HO335.out (fun _ hk => ⟨hk.2, hk.1⟩)), sq54, sq32, sq45, sq46, sq47, sq48, sq89⟩)
                        skip
                        refine box_step ?hg (N := 26) ?hd (cs := #[.int .i64 0, .int .i64 0]) (t := 28) ?hr ?_; (case hd => rfl); (case hg => rfl); (case hr => first | (go_simp; done) | (go_simp; rfl))
                        intro gb348 hg w132 hbox hb
                        have n0_ := Aside0.mk (Kd.R_below sq32 hb)
                        have n1_ := Aside0.mk (Kd.R_below sq29 hb)
                        have n2_ := Aside0.mk (blk_below (g := gb289) (o := .cells #[.string a2_0, .int .i64 a2_1] 59 (0, 0)) sq45 hb)
                        have n3_ := Aside0.mk (blk_below (g := gb294) (o := .cells #[.int .i64 t292, .int .i64 t293] 28 (0, 0)) sq46 hb)
                        have n4_ := Aside0.mk (blk_below (g := gb327) (o := .cells #[.int .i64 t325, .int .i64 t326] 28 (0, 0)) sq47 hb)
                        have n5_ := Aside0.mk (blk_below (g := gb331) (o := .cells #[.int .i64 t329, .int .i64 t330] 28 (0, 0)) sq48 hb)
                        have n6_ := Aside0.mk (below_step sq89 hb)
                        have n7_ := Aside0.mk (hbox)
                        have n8_ := Aside0.mk ((by rw [hg]; exact (below_size sq89) : w.heap.size ≤ gb348))
                        have n9_ := Aside0.mk ((by rw [hg]; exact (below_size sq89) : w.heap.size ≤ gb348))
                        have n10_ := Aside0.mk ((by rw [hg]; exact Nat.ne_of_lt (blk_lt (g := gb289) (o := .cells #[.string a2_0, .int .i64 a2_1] 59 (0, 0)) sq45) : gb289 ≠ gb348))
                        have n11_ := Aside0.mk ((by rw [hg]; exact Nat.ne_of_gt (blk_lt (g := gb289) (o := .cells #[.string a2_0, .int .i64 a2_1] 59 (0, 0)) sq45) : gb348 ≠ gb289))
                        have n12_ := Aside0.mk ((by rw [hg]; exact Nat.ne_of_lt (blk_lt (g := gb294) (o := .cells #[.int .i64 t292, .int .i64 t293] 28 (0, 0)) sq46) : gb294 ≠ gb348))
                        have n13_ := Aside0.mk ((by rw [hg]; exact Nat.ne_of_gt (blk_lt (g := gb294) (o := .cells #[.int .i64 t292, .int .i64 t293] 28 (0, 0)) sq46) : gb348 ≠ gb294))
                        have n14_ := Aside0.mk ((by rw [hg]; exact Nat.ne_of_lt (blk_lt (g := gb327) (o := .cells #[.int .i64 t325, .int .i64 t326] 28 (0, 0)) sq47) : gb327 ≠ gb348))
                        have n15_ := Aside0.mk ((by rw [hg]; exact Nat.ne_of_gt (blk_lt (g := gb327) (o := .cells #[.int .i64 t325, .int .i64 t326] 28 (0, 0)) sq47) : gb348 ≠ gb327))
                        have n16_ := Aside0.mk ((by rw [hg]; exact Nat.ne_of_lt (blk_lt (g := gb331) (o := .cells #[.int .i64 t329, .int .i64 t330] 28 (0, 0)) sq48) : gb331 ≠ gb348))
                        have n17_ := Aside0.mk ((by rw [hg]; exact Nat.ne_of_gt (blk_lt (g := gb331) (o := .cells #[.int .i64 t329, .int .i64 t330] 28 (0, 0)) sq48) : gb348 ≠ gb331))
                        clear HO_140; clear HO335; clear BK289; clear BK294; clear BK327; clear BK331; clear HB
                        have HO_140 := n0_
                        have HO335 := n1_
                        have BK289 := n2_
                        have BK294 := n3_
                        have BK327 := n4_
                        have BK331 := n5_
                        have HB := n6_
                        have BK348 := n7_
                        have GW348 := n8_
                        have GE348 := n9_
                        have NB289_348 := n10_
                        have NB348_289 := n11_
                        have NB294_348 := n12_
                        have NB348_294 := n13_
                        have NB327_348 := n14_
                        have NB348_327 := n15_
                        have NB331_348 := n16_
                        have NB348_331 := n17_
                        clear n0_ n1_ n2_ n3_ n4_ n5_ n6_ n7_ n8_ n9_ n10_ n11_ n12_ n13_ n14_ n15_ n16_ n17_
                        clear hb hbox hg
                        refine hK.out _ _ ⟨(blk_cell BK289.out 0).trans rfl, (blk_cell BK289.out 1).trans rfl⟩ (fun hHeld => ?_)
                        clear hK K
                        refine norm_ (a' := ?_) ?_ ?_
                        rotate_left
                        ·show Act.put _ (some 26) _ = _
                         simp only [Act.put, List.setIfInBounds_toArray, List.set_cons_zero, List.set_cons_succ, i64_w, i32_w]
                         rfl
                        exact norm_ sq84 (hJ1_11 (v334, gb348) _ ⟨hHeld, sq29, sq32, sq45, sq46, sq47, sq48, sq49, GW348.out, GE348.out, NB289_348.out, NB348_289.out, NB294_348.out, NB348_294.out, NB327_348.out, NB348_327.out, NB331_348.out, NB348_331.out, sq91⟩)
                       skip
                       rintro ⟨v340, gb348⟩ w132 ⟨hS_, h0_, h1_, h2_, h3_, h4_, h5_, h6_, h7_, h8_, h9_, h10_, h11_, h12_, h13_, h14_, h15_, h16_, h17_⟩
                       have n0_ : Aside0 (Kd.R k59 59 w132 w.heap.size (fun k_ => k_ ≠ gb289) v340 y339) := ⟨h0_⟩
                       have n1_ : Aside0 (Kd.R Kd.string 9 w132 w.heap.size (fun _ => True) (.slice Ao110 t295.length co110) t295) := ⟨h1_⟩
                       have n2_ : Aside0 (w132.heap[gb289]? = some (.cells #[.string a2_0, .int .i64 a2_1] 59 (0, 0))) := ⟨h2_⟩
                       have n3_ : Aside0 (w132.heap[gb294]? = some (.cells #[.int .i64 t292, .int .i64 t293] 28 (0, 0))) := ⟨h3_⟩
                       have n4_ : Aside0 (w132.heap[gb327]? = some (.cells #[.int .i64 t325, .int .i64 t326] 28 (0, 0))) := ⟨h4_⟩
                       have n5_ : Aside0 (w132.heap[gb331]? = some (.cells #[.int .i64 t329, .int .i64 t330] 28 (0, 0))) := ⟨h5_⟩
                       have n6_ : Aside0 (w132.heap[gb348]? = some (.cells #[.int .i64 0, .int .i64 0] 28 (0, 0))) := ⟨h6_⟩
                       have n7_ : Aside0 (w.heap.size ≤ gb348) := ⟨h7_⟩
                       have n8_ : Aside0 (w.heap.size ≤ gb348) := ⟨h8_⟩
                       have n9_ : Aside0 (gb289 ≠ gb348) := ⟨h9_⟩
                       have n10_ : Aside0 (gb348 ≠ gb289) := ⟨h10_⟩
                       have n11_ : Aside0 (gb294 ≠ gb348) := ⟨h11_⟩
                       have n12_ : Aside0 (gb348 ≠ gb294) := ⟨h12_⟩
                       have n13_ : Aside0 (gb327 ≠ gb348) := ⟨h13_⟩
                       have n14_ : Aside0 (gb348 ≠ gb327) := ⟨h14_⟩
                       have n15_ : Aside0 (gb331 ≠ gb348) := ⟨h15_⟩
                       have n16_ : Aside0 (gb348 ≠ gb331) := ⟨h16_⟩
                       have n17_ : Aside0 (Below w.heap.size w w132) := ⟨h17_⟩
                       clear HO_140; clear BK289; clear BK294; clear BK327; clear BK331; clear HB
                       clear h0_ h1_ h2_ h3_ h4_ h5_ h6_ h7_ h8_ h9_ h10_ h11_ h12_ h13_ h14_ h15_ h16_ h17_
                       have HO341 := n0_
                       have HO_140 := n1_
                       have BK289 := n2_
                       have BK294 := n3_
                       have BK327 := n4_
                       have BK331 := n5_
                       have BK348 := n6_
                       have GW348 := n7_
                       have GE348 := n8_
                       have NB289_348 := n9_
                       have NB348_289 := n10_
                       have NB294_348 := n11_
                       have NB348_294 := n12_
                       have NB327_348 := n13_
                       have NB348_327 := n14_
                       have NB331_348 := n15_
                       have NB348_331 := n16_
                       have HB := n17_
                       clear n0_ n1_ n2_ n3_ n4_ n5_ n6_ n7_ n8_ n9_ n10_ n11_ n12_ n13_ n14_ n15_ n16_ n17_
                       have hHeld : w132.cell? ⟨gb289, 0, none⟩ = some (.string a2_0) ∧ w132.cell? ⟨gb289, 1, none⟩ = some (.int .i64 a2_1) := hS_
                       refine norm_ (a' := ?_) ?_ ?_
                       rotate_left
                       ·simp only [putAll, Act.put, List.setIfInBounds_toArray, List.set_cons_zero, List.set_cons_succ]
                        rfl
                       refine one_ (i := 1) (N := some 153) #[true, true, true, false, true, true, false, false, false, false, false, true, false, false] rfl rfl (one_of HT_.out sq2) sq1 (fun K hK => ?_)
                       refine Kd.R_lit_step k59 _ 59 ?hg (N := 153) ?hd (xs := ([] : List (S59))) (inner := []) (ok := fun _ => True) (okp := fun _ => True) ?hr ?hp (fun _ hk => hk) trivial (Below.refl _ _) (Nat.le_refl _) (by simp) ?_; (case hd => rfl); (case hg => rfl); (case hr => first | (go_simp; done) | (go_simp; rfl)); (case hp => exact (Reps.none _ _))
                       intro v334 w133 ho134 hb hg_ hnew_
                       clear hg_ hnew_
                       (first | rw [← Ny333.out] at ho134 | (simp only [Int.reduceToNat] at ho134; rw [← Ny333.out] at ho134))
                       have n0_ := Aside0.mk (Kd.R_below sq32 hb)
                       have n1_ := Aside0.mk (Kd.R_elder' sq28 (Kd.R_base ho134) hb)
                       have n2_ := Aside0.mk (Kd.R_lower (Kd.R_newB (Kd.R_new' ho134 (Kd.R_lt sq28)) (g := gb289) (o := .cells #[.string a2_0, .int .i64 a2_1] 59 (0, 0)) sq45) (below_size sq91))
                       have n3_ := Aside0.mk (blk_below (g := gb289) (o := .cells #[.string a2_0, .int .i64 a2_1] 59 (0, 0)) sq45 hb)
                       have n4_ := Aside0.mk (blk_below (g := gb294) (o := .cells #[.int .i64 t292, .int .i64 t293] 28 (0, 0)) sq46 hb)
                       have n5_ := Aside0.mk (blk_below (g := gb327) (o := .cells #[.int .i64 t325, .int .i64 t326] 28 (0, 0)) sq47 hb)
                       have n6_ := Aside0.mk (blk_below (g := gb331) (o := .cells #[.int .i64 t329, .int .i64 t330] 28 (0, 0)) sq48 hb)
                       have n7_ := Aside0.mk (blk_below (g := gb348) (o := .cells #[.int .i64 0, .int .i64 0] 28 (0, 0)) sq49 hb)
                       have n8_ := Aside0.mk (below_step sq91 hb)
                       clear HO_140; clear HO341; clear BK289; clear BK294; clear BK327; clear BK331; clear BK348; clear HB
                       have HO_140 := n0_
                       have HO341 := n1_
                       have HO335 := n2_
                       have BK289 := n3_
                       have BK294 := n4_
                       have BK327 := n5_
                       have BK331 := n6_
                       have BK348 := n7_
                       have HB := n8_
                       clear n0_ n1_ n2_ n3_ n4_ n5_ n6_ n7_ n8_
                       clear hb ho134
                       refine hK.out _ _ ⟨(blk_cell BK289.out 0).trans rfl, (blk_cell BK289.out 1).trans rfl⟩ (fun hHeld => ?_)
                       clear hK K
                       refine norm_ (a' := ?_) ?_ ?_
                       rotate_left
                       ·show Act.put _ (some 153) _ = _
                        simp only [Act.put, List.setIfInBounds_toArray, List.set_cons_zero, List.set_cons_succ, i64_w, i32_w]
                        rfl
                       exact norm_ sq84 (hJ1_5_11 (v334, v340, gb348) _ ⟨hHeld, (by (with_reducible repeat (first | apply Kd.R_alloc | apply Kd.R_drewN | apply Kd.R_drew)); exact Kd.R_mono HO335.out (fun _ hk => ⟨hk.1.2, hk.2⟩)), sq53, sq32, sq45, sq46, sq47, sq48, sq49, GW348.out, GE348.out, NB289_348.out, NB348_289.out, NB294_348.out, NB348_294.out, NB327_348.out, NB348_327.out, NB331_348.out, NB348_331.out, sq91⟩)
                      skip
                      rintro ⟨v334, gb348⟩ w132 ⟨hS_, h0_, h1_, h2_, h3_, h4_, h5_, h6_, h7_, h8_, h9_, h10_, h11_, h12_, h13_, h14_, h15_, h16_, h17_⟩
                      have n0_ : Aside0 (Kd.R k59 59 w132 w.heap.size (fun k_ => k_ ≠ gb289) v334 y333) := ⟨h0_⟩
                      have n1_ : Aside0 (Kd.R Kd.string 9 w132 w.heap.size (fun _ => True) (.slice Ao110 t295.length co110) t295) := ⟨h1_⟩
                      have n2_ : Aside0 (w132.heap[gb289]? = some (.cells #[.string a2_0, .int .i64 a2_1] 59 (0, 0))) := ⟨h2_⟩
                      have n3_ : Aside0 (w132.heap[gb294]? = some (.cells #[.int .i64 t292, .int .i64 t293] 28 (0, 0))) := ⟨h3_⟩
                      have n4_ : Aside0 (w132.heap[gb327]? = some (.cells #[.int .i64 t325, .int .i64 t326] 28 (0, 0))) := ⟨h4_⟩
                      have n5_ : Aside0 (w132.heap[gb331]? = some (.cells #[.int .i64 t329, .int .i64 t330] 28 (0, 0))) := ⟨h5_⟩
                      have n6_ : Aside0 (w132.heap[gb348]? = some (.cells #[.int .i64 0, .int .i64 0] 28 (0, 0))) := ⟨h6_⟩
                      have n7_ : Aside0 (w.heap.size ≤ gb348) := ⟨h7_⟩
                      have n8_ : Aside0 (w.heap.size ≤ gb348) := ⟨h8_⟩
                      have n9_ : Aside0 (gb289 ≠ gb348) := ⟨h9_⟩
                      have n10_ : Aside0 (gb348 ≠ gb289) := ⟨h10_⟩
                      have n11_ : Aside0 (gb294 ≠ gb348) := ⟨h11_⟩
                      have n12_ : Aside0 (gb348 ≠ gb294) := ⟨h12_⟩
                      have n13_ : Aside0 (gb327 ≠ gb348) := ⟨h13_⟩
                      have n14_ : Aside0 (gb348 ≠ gb327) := ⟨h14_⟩
                      have n15_ : Aside0 (gb331 ≠ gb348) := ⟨h15_⟩
                      have n16_ : Aside0 (gb348 ≠ gb331) := ⟨h16_⟩
                      have n17_ : Aside0 (Below w.heap.size w w132) := ⟨h17_⟩
                      clear HO_140; clear BK289; clear BK294; clear BK327; clear BK331; clear HB
                      clear h0_ h1_ h2_ h3_ h4_ h5_ h6_ h7_ h8_ h9_ h10_ h11_ h12_ h13_ h14_ h15_ h16_ h17_
                      have HO335 := n0_
                      have HO_140 := n1_
                      have BK289 := n2_
                      have BK294 := n3_
                      have BK327 := n4_
                      have BK331 := n5_
                      have BK348 := n6_
                      have GW348 := n7_
                      have GE348 := n8_
                      have NB289_348 := n9_
                      have NB348_289 := n10_
                      have NB294_348 := n11_
                      have NB348_294 := n12_
                      have NB327_348 := n13_
                      have NB348_327 := n14_
                      have NB331_348 := n15_
                      have NB348_331 := n16_
                      have HB := n17_
                      clear n0_ n1_ n2_ n3_ n4_ n5_ n6_ n7_ n8_ n9_ n10_ n11_ n12_ n13_ n14_ n15_ n16_ n17_
                      have hHeld : w132.cell? ⟨gb289, 0, none⟩ = some (.string a2_0) ∧ w132.cell? ⟨gb289, 1, none⟩ = some (.int .i64 a2_1) := hS_
                      refine norm_ (a' := ?_) ?_ ?_
                      rotate_left
                      ·simp only [putAll, Act.put, List.setIfInBounds_toArray, List.set_cons_zero, List.set_cons_succ]
                       rfl
                      refine two_ (i := 3) (j := 5) (Ni := some 155) (Nj := some 157) #[true, true, true, true, true, false, false, false, false, false, false, true, false, false] #[true, true, true, false, true, true, false, false, false, false, false, true, false, false] rfl rfl rfl rfl (two_of HT_.out sq2) sq1 sq1 (fun K hK => ?_) (fun K hK => ?_)
                      ·skip
                       refine Kd.R_append_rows_step k59 (w0 := w) w.heap.size (by rfl) (.tmp 153) (.tmp 154) 24 59 (.agg #[(.string ⟨#[]⟩), (.int .i64 0)]) 24 rfl Try.underlying24 info59 rfl sq1 sq0 v334 y333 l1 _ _ _ (fun k_ => k_ ≠ gb289) (fun _ => False) rfl rfl ?aO ?aR (fun _ _ h => h) (fun _ h => h.elim) ?aF ?aB ?aS ?aL ?_
                       (case aR => repeat (first | exact (Kd.C_below HR1.out HB.out) | (with_reducible refine Kd.C_alloc ?_ _) | (with_reducible refine Kd.C_drewN ?_ _) | (with_reducible refine Kd.C_drew ?_)))
                       (case aB => exact sq91)
                       (case aF => exact (fun k_ hk => Kd.freshB (g := gb289) (o := .cells #[.string a2_0, .int .i64 a2_1] 59 (0, 0)) sq45 k_ hk))
                       (case aO => exact sq29)
                       (case aS => exact (below_size sq91))
                       (case aL => have := LMc123.out; omega)
                       intro v337 w133 ho hb hg hat
                       rw [← Ny336.out] at ho
                       have n0_ := Aside0.mk (Kd.R_over' sq32 (Kd.R_typed sq29) sq1 hg)
                       have n1_ := Aside0.mk (blk_grown (g := gb289) (o := .cells #[.string a2_0, .int .i64 a2_1] 59 (0, 0)) sq45 hg (Kd.R_away HO335.out (fun _ hk => hk)))
                       have n2_ := Aside0.mk (blk_grown (g := gb294) (o := .cells #[.int .i64 t292, .int .i64 t293] 28 (0, 0)) sq46 hg (Kd.R_ne HO335.out BK294.out sq1))
                       have n3_ := Aside0.mk (blk_grown (g := gb327) (o := .cells #[.int .i64 t325, .int .i64 t326] 28 (0, 0)) sq47 hg (Kd.R_ne HO335.out BK327.out sq1))
                       have n4_ := Aside0.mk (blk_grown (g := gb331) (o := .cells #[.int .i64 t329, .int .i64 t330] 28 (0, 0)) sq48 hg (Kd.R_ne HO335.out BK331.out sq1))
                       have n5_ := Aside0.mk (blk_grown (g := gb348) (o := .cells #[.int .i64 0, .int .i64 0] 28 (0, 0)) sq49 hg (Kd.R_ne HO335.out BK348.out sq1))
                       have n6_ := Aside0.mk (hb)
                       have n7_ := Aside0.mk (ho)
                       clear HO_140; clear BK289; clear BK294; clear BK327; clear BK331; clear BK348; clear HB; clear HO335
                       have HO_140 := n0_
                       have BK289 := n1_
                       have BK294 := n2_
                       have BK327 := n3_
                       have BK331 := n4_
                       have BK348 := n5_
                       have HB := n6_
                       have HO338 := n7_
                       clear n0_ n1_ n2_ n3_ n4_ n5_ n6_ n7_
                       clear ho hb hg hat
                       refine hK.out _ _ ⟨(blk_cell BK289.out 0).trans rfl, (blk_cell BK289.out 1).trans rfl⟩ (fun hHeld => ?_)
                       clear hK K
                       refine norm_ (a' := ?_) ?_ ?_
                       rotate_left
                       ·show Act.put _ (some 155) _ = _
                        simp only [Act.put, List.setIfInBounds_toArray, List.set_cons_zero, List.set_cons_succ, i64_w, i32_w]
                        rfl
                       exact norm_ sq84 (hJ1_3_11 (v334, v337, gb348) _ ⟨hHeld, sq30, sq32, sq45, sq46, sq47, sq48, sq49, GW348.out, GE348.out, NB289_348.out, NB348_289.out, NB294_348.out, NB348_294.out, NB327_348.out, NB348_327.out, NB331_348.out, NB348_331.out, sq91⟩)
                      skip
                      refine Kd.R_lit_step k59 _ 59 ?hg (N := 157) ?hd (xs := ([(⟨a2_0, a2_1⟩ : S59)] : List (S59))) (inner := [.string a2_0, .int .i64 a2_1]) (ok := fun _ => True) (okp := fun _ => True) ?hr ?hp (fun _ hk => hk) trivial (Below.refl _ _) (Nat.le_refl _) (by simp) ?_; (case hd => rfl); (case hg => rfl); (case hr => first | (go_simp; done) | (go_simp; rfl)); (case hp => exact (Reps.c2 (show Kd.M k59 _ _ _ (⟨a2_0, a2_1⟩ : S59) [.string a2_0, .int .i64 a2_1] from (k59_mkM _ _ _ (⟨a2_0, a2_1⟩ : S59) )) (Reps.none _ _)))
                      intro v340 w133 ho134 hb hg_ hnew_
                      clear hg_ hnew_
                      (first | rw [← Ny339.out] at ho134 | (simp only [Int.reduceToNat] at ho134; rw [← Ny339.out] at ho134))
                      have n0_ := Aside0.mk (Kd.R_below sq32 hb)
                      have n1_ := Aside0.mk (Kd.R_elder' sq29 (Kd.R_base ho134) hb)
                      have n2_ := Aside0.mk (Kd.R_lower (Kd.R_newB (Kd.R_new' ho134 (Kd.R_lt sq29)) (g := gb289) (o := .cells #[.string a2_0, .int .i64 a2_1] 59 (0, 0)) sq45) (below_size sq91))
                      have n3_ := Aside0.mk (blk_below (g := gb289) (o := .cells #[.string a2_0, .int .i64 a2_1] 59 (0, 0)) sq45 hb)
                      have n4_ := Aside0.mk (blk_below (g := gb294) (o := .cells #[.int .i64 t292, .int .i64 t293] 28 (0, 0)) sq46 hb)
                      have n5_ := Aside0.mk (blk_below (g := gb327) (o := .cells #[.int .i64 t325, .int .i64 t326] 28 (0, 0)) sq47 hb)
                      have n6_ := Aside0.mk (blk_below (g := gb331) (o := .cells #[.int .i64 t329, .int .i64 t330] 28 (0, 0)) sq48 hb)
                      have n7_ := Aside0.mk (blk_below (g := gb348) (o := .cells #[.int .i64 0, .int .i64 0] 28 (0, 0)) sq49 hb)
                      have n8_ := Aside0.mk (below_step sq91 hb)
                      clear HO_140; clear HO335; clear BK289; clear BK294; clear BK327; clear BK331; clear BK348; clear HB
                      have HO_140 := n0_
                      have HO335 := n1_
                      have HO341 := n2_
                      have BK289 := n3_
                      have BK294 := n4_
                      have BK327 := n5_
                      have BK331 := n6_
                      have BK348 := n7_
                      have HB := n8_
                      clear n0_ n1_ n2_ n3_ n4_ n5_ n6_ n7_ n8_
                      clear hb ho134
                      refine hK.out _ _ ⟨(blk_cell BK289.out 0).trans rfl, (blk_cell BK289.out 1).trans rfl⟩ (fun hHeld => ?_)
                      clear hK K
                      refine norm_ (a' := ?_) ?_ ?_
                      rotate_left
                      ·show Act.put _ (some 157) _ = _
                       simp only [Act.put, List.setIfInBounds_toArray, List.set_cons_zero, List.set_cons_succ, i64_w, i32_w]
                       rfl
                      exact norm_ sq84 (hJ1_5_11 (v334, v340, gb348) _ ⟨hHeld, (by (with_reducible repeat (first | apply Kd.R_alloc | apply Kd.R_drewN | apply Kd.R_drew)); exact Kd.R_mono HO335.out (fun _ hk => ⟨hk.2, hk.1⟩)), sq54, sq32, sq45, sq46, sq47, sq48, sq49, GW348.out, GE348.out, NB289_348.out, NB348_289.out, NB294_348.out, NB348_294.out, NB327_348.out, NB348_327.out, NB331_348.out, NB348_331.out, sq91⟩)
                     skip
                     rintro ⟨v334, v340⟩ w133 ⟨hS_, h0_, h1_, h2_, h3_, h4_, h5_, h6_, h7_⟩
                     have n0_ : Aside0 (Kd.R k59 59 w133 w.heap.size (fun k_ => some k_ ≠ (v340 : Value).ownBlock ∧ k_ ≠ gb289) v334 y333) := ⟨h0_⟩
                     have n1_ : Aside0 (Kd.R k59 59 w133 w.heap.size (fun k_ => some k_ ≠ (v334 : Value).ownBlock ∧ k_ ≠ gb289) v340 y339) := ⟨h1_⟩
                     have n2_ : Aside0 (Kd.R Kd.string 9 w133 w.heap.size (fun _ => True) (.slice Ao110 t295.length co110) t295) := ⟨h2_⟩
                     have n3_ : Aside0 (w133.heap[gb289]? = some (.cells #[.string a2_0, .int .i64 a2_1] 59 (0, 0))) := ⟨h3_⟩
                     have n4_ : Aside0 (w133.heap[gb294]? = some (.cells #[.int .i64 t292, .int .i64 t293] 28 (0, 0))) := ⟨h4_⟩
                     have n5_ : Aside0 (w133.heap[gb327]? = some (.cells #[.int .i64 t325, .int .i64 t326] 28 (0, 0))) := ⟨h5_⟩
                     have n6_ : Aside0 (w133.heap[gb331]? = some (.cells #[.int .i64 t329, .int .i64 t330] 28 (0, 0))) := ⟨h6_⟩
                     have n7_ : Aside0 (Below w.heap.size w w133) := ⟨h7_⟩
                     clear HO_140; clear BK289; clear BK294; clear BK327; clear BK331; clear HB
                     clear h0_ h1_ h2_ h3_ h4_ h5_ h6_ h7_
                     have HO335 := n0_
                     have HO341 := n1_
                     have HO_140 := n2_
                     have BK289 := n3_
                     have BK294 := n4_
                     have BK327 := n5_
                     have BK331 := n6_
                     have HB := n7_
                     clear n0_ n1_ n2_ n3_ n4_ n5_ n6_ n7_
                     have hHeld : w133.cell? ⟨gb289, 0, none⟩ = some (.string a2_0) ∧ w133.cell? ⟨gb289, 1, none⟩ = some (.int .i64 a2_1) := hS_
                     refine norm_ (a' := ?_) ?_ ?_
                     rotate_left
                     ·simp only [putAll, Act.put, List.setIfInBounds_toArray, List.set_cons_zero, List.set_cons_succ]
                      rfl
                     refine two_ (i := 3) (j := 11) (Ni := some 155) (Nj := some 26) #[true, true, true, true, true, true, false, false, false, false, false, false, false, false] #[true, true, true, false, true, true, false, false, false, false, false, true, false, false] rfl rfl rfl rfl (two_of HT_.out sq2) sq1 sq1 (fun K hK => ?_) (fun K hK => ?_)
                     ·skip
                      refine Kd.R_append_rows_step k59 (w0 := w) w.heap.size (by rfl) (.tmp 153) (.tmp 154) 24 59 (.agg #[(.string ⟨#[]⟩), (.int .i64 0)]) 24 rfl Try.underlying24 info59 rfl sq1 sq0 v334 y333 l1 _ _ _ (fun k_ => some k_ ≠ (v340 : Value).ownBlock ∧ k_ ≠ gb289) (fun _ => False) rfl rfl ?aO ?aR (fun _ _ h => h) (fun _ h => h.elim) ?aF ?aB ?aS ?aL ?_
                      (case aR => repeat (first | exact (Kd.C_below HR1.out HB.out) | (with_reducible refine Kd.C_alloc ?_ _) | (with_reducible refine Kd.C_drewN ?_ _) | (with_reducible refine Kd.C_drew ?_)))
                      (case aB => exact sq89)
                      (case aF => exact (fun k_ hk => ⟨Kd.fresh' (Kd.R_lt sq28) k_ hk, Kd.freshB (g := gb289) (o := .cells #[.string a2_0, .int .i64 a2_1] 59 (0, 0)) sq45 k_ hk⟩))
                      (case aO => exact sq29)
                      (case aS => exact (below_size sq89))
                      (case aL => have := LMc123.out; omega)
                      intro v337 w134 ho hb hg hat
                      rw [← Ny336.out] at ho
                      have n0_ := Aside0.mk (Kd.R_over' sq32 (Kd.R_typed sq29) sq1 hg)
                      have n1_ := Aside0.mk (blk_grown (g := gb289) (o := .cells #[.string a2_0, .int .i64 a2_1] 59 (0, 0)) sq45 hg (Kd.R_away HO335.out (fun _ hk => hk.2)))
                      have n2_ := Aside0.mk (blk_grown (g := gb294) (o := .cells #[.int .i64 t292, .int .i64 t293] 28 (0, 0)) sq46 hg (Kd.R_ne HO335.out BK294.out sq1))
                      have n3_ := Aside0.mk (blk_grown (g := gb327) (o := .cells #[.int .i64 t325, .int .i64 t326] 28 (0, 0)) sq47 hg (Kd.R_ne HO335.out BK327.out sq1))
                      have n4_ := Aside0.mk (blk_grown (g := gb331) (o := .cells #[.int .i64 t329, .int .i64 t330] 28 (0, 0)) sq48 hg (Kd.R_ne HO335.out BK331.out sq1))
                      have n5_ := Aside0.mk (Kd.R_after (ok := (fun k_ => k_ ≠ gb289)) sq53 hg hat)
                      have n6_ := Aside0.mk (hb)
                      have n7_ := Aside0.mk (ho)
                      clear HO_140; clear BK289; clear BK294; clear BK327; clear BK331; clear HO341; clear HB; clear HO335
                      have HO_140 := n0_
                      have BK289 := n1_
                      have BK294 := n2_
                      have BK327 := n3_
                      have BK331 := n4_
                      have HO341 := n5_
                      have HB := n6_
                      have HO338 := n7_
                      clear n0_ n1_ n2_ n3_ n4_ n5_ n6_ n7_
                      clear ho hb hg hat
                      refine hK.out _ _ ⟨(blk_cell BK289.out 0).trans rfl, (blk_cell BK289.out 1).trans rfl⟩ (fun hHeld => ?_)
                      clear hK K
                      refine norm_ (a' := ?_) ?_ ?_
                      rotate_left
                      ·show Act.put _ (some 155) _ = _
                       simp only [Act.put, List.setIfInBounds_toArray, List.set_cons_zero, List.set_cons_succ, i64_w, i32_w]
                       rfl
                      exact norm_ sq84 (hJ1_3_5 (v334, v337, v340) _ ⟨hHeld, sq30, sq53, sq32, sq45, sq46, sq47, sq48, sq89⟩)
                     skip
                     refine box_step ?hg (N := 26) ?hd (cs := #[.int .i64 0, .int .i64 0]) (t := 28) ?hr ?_; (case hd => rfl); (case hg => rfl); (case hr => first | (go_simp; done) | (go_simp; rfl))
                     intro gb348 hg w134 hbox hb
                     have n0_ := Aside0.mk (Kd.R_below sq32 hb)
                     have n1_ := Aside0.mk (Kd.R_below sq29 hb)
                     have n2_ := Aside0.mk (Kd.R_below sq28 hb)
                     have n3_ := Aside0.mk (blk_below (g := gb289) (o := .cells #[.string a2_0, .int .i64 a2_1] 59 (0, 0)) sq45 hb)
                     have n4_ := Aside0.mk (blk_below (g := gb294) (o := .cells #[.int .i64 t292, .int .i64 t293] 28 (0, 0)) sq46 hb)
                     have n5_ := Aside0.mk (blk_below (g := gb327) (o := .cells #[.int .i64 t325, .int .i64 t326] 28 (0, 0)) sq47 hb)
                     have n6_ := Aside0.mk (blk_below (g := gb331) (o := .cells #[.int .i64 t329, .int .i64 t330] 28 (0, 0)) sq48 hb)
                     have n7_ := Aside0.mk (below_step sq89 hb)
                     have n8_ := Aside0.mk (hbox)
                     have n9_ := Aside0.mk ((by rw [hg]; exact (below_size sq89) : w.heap.size ≤ gb348))
                     have n10_ := Aside0.mk ((by rw [hg]; exact (below_size sq89) : w.heap.size ≤ gb348))
                     have n11_ := Aside0.mk ((by rw [hg]; exact Nat.ne_of_lt (blk_lt (g := gb289) (o := .cells #[.string a2_0, .int .i64 a2_1] 59 (0, 0)) sq45) : gb289 ≠ gb348))
                     have n12_ := Aside0.mk ((by rw [hg]; exact Nat.ne_of_gt (blk_lt (g := gb289) (o := .cells #[.string a2_0, .int .i64 a2_1] 59 (0, 0)) sq45) : gb348 ≠ gb289))
                     have n13_ := Aside0.mk ((by rw [hg]; exact Nat.ne_of_lt (blk_lt (g := gb294) (o := .cells #[.int .i64 t292, .int .i64 t293] 28 (0, 0)) sq46) : gb294 ≠ gb348))
                     have n14_ := Aside0.mk ((by rw [hg]; exact Nat.ne_of_gt (blk_lt (g := gb294) (o := .cells #[.int .i64 t292, .int .i64 t293] 28 (0, 0)) sq46) : gb348 ≠ gb294))
                     have n15_ := Aside0.mk ((by rw [hg]; exact Nat.ne_of_lt (blk_lt (g := gb327) (o := .cells #[.int .i64 t325, .int .i64 t326] 28 (0, 0)) sq47) : gb327 ≠ gb348))
                     have n16_ := Aside0.mk ((by rw [hg]; exact Nat.ne_of_gt (blk_lt (g := gb327) (o := .cells #[.int .i64 t325, .int .i64 t326] 28 (0, 0)) sq47) : gb348 ≠ gb327))
                     have n17_ := Aside0.mk ((by rw [hg]; exact Nat.ne_of_lt (blk_lt (g := gb331) (o := .cells #[.int .i64 t329, .int .i64 t330] 28 (0, 0)) sq48) : gb331 ≠ gb348))
                     have n18_ := Aside0.mk ((by rw [hg]; exact Nat.ne_of_gt (blk_lt (g := gb331) (o := .cells #[.int .i64 t329, .int .i64 t330] 28 (0, 0)) sq48) : gb348 ≠ gb331))
                     clear HO_140; clear HO335; clear HO341; clear BK289; clear BK294; clear BK327; clear BK331; clear HB
                     have HO_140 := n0_
                     have HO335 := n1_
                     have HO341 := n2_
                     have BK289 := n3_
                     have BK294 := n4_
                     have BK327 := n5_
                     have BK331 := n6_
                     have HB := n7_
                     have BK348 := n8_
                     have GW348 := n9_
                     have GE348 := n10_
                     have NB289_348 := n11_
                     have NB348_289 := n12_
                     have NB294_348 := n13_
                     have NB348_294 := n14_
                     have NB327_348 := n15_
                     have NB348_327 := n16_
                     have NB331_348 := n17_
                     have NB348_331 := n18_
                     clear n0_ n1_ n2_ n3_ n4_ n5_ n6_ n7_ n8_ n9_ n10_ n11_ n12_ n13_ n14_ n15_ n16_ n17_ n18_
                     clear hb hbox hg
                     refine hK.out _ _ ⟨(blk_cell BK289.out 0).trans rfl, (blk_cell BK289.out 1).trans rfl⟩ (fun hHeld => ?_)
                     clear hK K
                     refine norm_ (a' := ?_) ?_ ?_
                     rotate_left
                     ·show Act.put _ (some 26) _ = _
                      simp only [Act.put, List.setIfInBounds_toArray, List.set_cons_zero, List.set_cons_succ, i64_w, i32_w]
                      rfl
                     exact norm_ sq84 (hJ1_5_11 (v334, v340, gb348) _ ⟨hHeld, sq29, sq28, sq32, sq45, sq46, sq47, sq48, sq49, GW348.out, GE348.out, NB289_348.out, NB348_289.out, NB294_348.out, NB348_294.out, NB327_348.out, NB348_327.out, NB331_348.out, NB348_331.out, sq91⟩)
                    skip
                    rintro ⟨v334, v337⟩ w132 ⟨hS_, h0_, h1_, h2_, h3_, h4_, h5_, h6_⟩
                    have n0_ : Aside0 (Kd.R k59 59 w132 w.heap.size (fun k_ => k_ ≠ gb289) v337 y336) := ⟨h0_⟩
                    have n1_ : Aside0 (Kd.R Kd.string 9 w132 w.heap.size (fun _ => True) (.slice Ao110 t295.length co110) t295) := ⟨h1_⟩
                    have n2_ : Aside0 (w132.heap[gb289]? = some (.cells #[.string a2_0, .int .i64 a2_1] 59 (0, 0))) := ⟨h2_⟩
                    have n3_ : Aside0 (w132.heap[gb294]? = some (.cells #[.int .i64 t292, .int .i64 t293] 28 (0, 0))) := ⟨h3_⟩
                    have n4_ : Aside0 (w132.heap[gb327]? = some (.cells #[.int .i64 t325, .int .i64 t326] 28 (0, 0))) := ⟨h4_⟩
                    have n5_ : Aside0 (w132.heap[gb331]? = some (.cells #[.int .i64 t329, .int .i64 t330] 28 (0, 0))) := ⟨h5_⟩
                    have n6_ : Aside0 (Below w.heap.size w w132) := ⟨h6_⟩
                    clear HO_140; clear BK289; clear BK294; clear BK327; clear BK331; clear HB
                    clear h0_ h1_ h2_ h3_ h4_ h5_ h6_
                    have HO338 := n0_
                    have HO_140 := n1_
                    have BK289 := n2_
                    have BK294 := n3_
                    have BK327 := n4_
                    have BK331 := n5_
                    have HB := n6_
                    clear n0_ n1_ n2_ n3_ n4_ n5_ n6_
                    have hHeld : w132.cell? ⟨gb289, 0, none⟩ = some (.string a2_0) ∧ w132.cell? ⟨gb289, 1, none⟩ = some (.int .i64 a2_1) := hS_
                    refine norm_ (a' := ?_) ?_ ?_
                    rotate_left
                    ·simp only [putAll, Act.put, List.setIfInBounds_toArray, List.set_cons_zero, List.set_cons_succ]
                     rfl
                    refine two_ (i := 5) (j := 11) (Ni := some 157) (Nj := some 26) #[true, true, true, true, true, true, false, false, false, false, false, false, false, false] #[true, true, true, true, true, false, false, false, false, false, false, true, false, false] rfl rfl rfl rfl (two_of HT_.out sq2) sq1 sq1 (fun K hK => ?_) (fun K hK => ?_)
                    ·skip
                     refine Kd.R_lit_step k59 _ 59 ?hg (N := 157) ?hd (xs := ([(⟨a2_0, a2_1⟩ : S59)] : List (S59))) (inner := [.string a2_0, .int .i64 a2_1]) (ok := fun _ => True) (okp := fun _ => True) ?hr ?hp (fun _ hk => hk) trivial (Below.refl _ _) (Nat.le_refl _) (by simp) ?_; (case hd => rfl); (case hg => rfl); (case hr => first | (go_simp; done) | (go_simp; rfl)); (case hp => exact (Reps.c2 (show Kd.M k59 _ _ _ (⟨a2_0, a2_1⟩ : S59) [.string a2_0, .int .i64 a2_1] from (k59_mkM _ _ _ (⟨a2_0, a2_1⟩ : S59) )) (Reps.none _ _)))
                     intro v340 w133 ho134 hb hg_ hnew_
                     clear hg_ hnew_
                     (first | rw [← Ny339.out] at ho134 | (simp only [Int.reduceToNat] at ho134; rw [← Ny339.out] at ho134))
                     have n0_ := Aside0.mk (Kd.R_below sq32 hb)
                     have n1_ := Aside0.mk (Kd.R_elder' sq30 (Kd.R_base ho134) hb)
                     have n2_ := Aside0.mk (Kd.R_lower (Kd.R_newB (Kd.R_new' ho134 (Kd.R_lt sq30)) (g := gb289) (o := .cells #[.string a2_0, .int .i64 a2_1] 59 (0, 0)) sq45) (below_size sq89))
                     have n3_ := Aside0.mk (blk_below (g := gb289) (o := .cells #[.string a2_0, .int .i64 a2_1] 59 (0, 0)) sq45 hb)
                     have n4_ := Aside0.mk (blk_below (g := gb294) (o := .cells #[.int .i64 t292, .int .i64 t293] 28 (0, 0)) sq46 hb)
                     have n5_ := Aside0.mk (blk_below (g := gb327) (o := .cells #[.int .i64 t325, .int .i64 t326] 28 (0, 0)) sq47 hb)
                     have n6_ := Aside0.mk (blk_below (g := gb331) (o := .cells #[.int .i64 t329, .int .i64 t330] 28 (0, 0)) sq48 hb)
                     have n7_ := Aside0.mk (below_step sq89 hb)
                     clear HO_140; clear HO338; clear BK289; clear BK294; clear BK327; clear BK331; clear HB
                     have HO_140 := n0_
                     have HO338 := n1_
                     have HO341 := n2_
                     have BK289 := n3_
                     have BK294 := n4_
                     have BK327 := n5_
                     have BK331 := n6_
                     have HB := n7_
                     clear n0_ n1_ n2_ n3_ n4_ n5_ n6_ n7_
                     clear hb ho134
                     refine hK.out _ _ ⟨(blk_cell BK289.out 0).trans rfl, (blk_cell BK289.out 1).trans rfl⟩ (fun hHeld => ?_)
                     clear hK K
                     refine norm_ (a' := ?_) ?_ ?_
                     rotate_left
                     ·show Act.put _ (some 157) _ = _
                      simp only [Act.put, List.setIfInBounds_toArray, List.set_cons_zero, List.set_cons_succ, i64_w, i32_w]
                      rfl
                     exact norm_ sq84 (hJ1_3_5 (v334, v337, v340) _ ⟨hHeld, (by (with_reducible repeat (first | apply Kd.R_alloc | apply Kd.R_drewN | apply Kd.R_drew)); exact Kd.R_mono HO338.out (fun _ hk => ⟨hk.2, hk.1⟩)), sq54, sq32, sq45, sq46, sq47, sq48, sq89⟩)
                    skip
                    refine box_step ?hg (N := 26) ?hd (cs := #[.int .i64 0, .int .i64 0]) (t := 28) ?hr ?_; (case hd => rfl); (case hg => rfl); (case hr => first | (go_simp; done) | (go_simp; rfl))
                    intro gb348 hg w133 hbox hb
                    have n0_ := Aside0.mk (Kd.R_below sq32 hb)
                    have n1_ := Aside0.mk (Kd.R_below sq30 hb)
                    have n2_ := Aside0.mk (blk_below (g := gb289) (o := .cells #[.string a2_0, .int .i64 a2_1] 59 (0, 0)) sq45 hb)
                    have n3_ := Aside0.mk (blk_below (g := gb294) (o := .cells #[.int .i64 t292, .int .i64 t293] 28 (0, 0)) sq46 hb)
                    have n4_ := Aside0.mk (blk_below (g := gb327) (o := .cells #[.int .i64 t325, .int .i64 t326] 28 (0, 0)) sq47 hb)
                    have n5_ := Aside0.mk (blk_below (g := gb331) (o := .cells #[.int .i64 t329, .int .i64 t330] 28 (0, 0)) sq48 hb)
                    have n6_ := Aside0.mk (below_step sq89 hb)
                    have n7_ := Aside0.mk (hbox)
                    have n8_ := Aside0.mk ((by rw [hg]; exact (below_size sq89) : w.heap.size ≤ gb348))
                    have n9_ := Aside0.mk ((by rw [hg]; exact (below_size sq89) : w.heap.size ≤ gb348))
                    have n10_ := Aside0.mk ((by rw [hg]; exact Nat.ne_of_lt (blk_lt (g := gb289) (o := .cells #[.string a2_0, .int .i64 a2_1] 59 (0, 0)) sq45) : gb289 ≠ gb348))
                    have n11_ := Aside0.mk ((by rw [hg]; exact Nat.ne_of_gt (blk_lt (g := gb289) (o := .cells #[.string a2_0, .int .i64 a2_1] 59 (0, 0)) sq45) : gb348 ≠ gb289))
                    have n12_ := Aside0.mk ((by rw [hg]; exact Nat.ne_of_lt (blk_lt (g := gb294) (o := .cells #[.int .i64 t292, .int .i64 t293] 28 (0, 0)) sq46) : gb294 ≠ gb348))
                    have n13_ := Aside0.mk ((by rw [hg]; exact Nat.ne_of_gt (blk_lt (g := gb294) (o := .cells #[.int .i64 t292, .int .i64 t293] 28 (0, 0)) sq46) : gb348 ≠ gb294))
                    have n14_ := Aside0.mk ((by rw [hg]; exact Nat.ne_of_lt (blk_lt (g := gb327) (o := .cells #[.int .i64 t325, .int .i64 t326] 28 (0, 0)) sq47) : gb327 ≠ gb348))
                    have n15_ := Aside0.mk ((by rw [hg]; exact Nat.ne_of_gt (blk_lt (g := gb327) (o := .cells #[.int .i64 t325, .int .i64 t326] 28 (0, 0)) sq47) : gb348 ≠ gb327))
                    have n16_ := Aside0.mk ((by rw [hg]; exact Nat.ne_of_lt (blk_lt (g := gb331) (o := .cells #[.int .i64 t329, .int .i64 t330] 28 (0, 0)) sq48) : gb331 ≠ gb348))
                    have n17_ := Aside0.mk ((by rw [hg]; exact Nat.ne_of_gt (blk_lt (g := gb331) (o := .cells #[.int .i64 t329, .int .i64 t330] 28 (0, 0)) sq48) : gb348 ≠ gb331))
                    clear HO_140; clear HO338; clear BK289; clear BK294; clear BK327; clear BK331; clear HB
                    have HO_140 := n0_
                    have HO338 := n1_
                    have BK289 := n2_
                    have BK294 := n3_
                    have BK327 := n4_
                    have BK331 := n5_
                    have HB := n6_
                    have BK348 := n7_
                    have GW348 := n8_
                    have GE348 := n9_
                    have NB289_348 := n10_
                    have NB348_289 := n11_
                    have NB294_348 := n12_
                    have NB348_294 := n13_
                    have NB327_348 := n14_
                    have NB348_327 := n15_
                    have NB331_348 := n16_
                    have NB348_331 := n17_
                    clear n0_ n1_ n2_ n3_ n4_ n5_ n6_ n7_ n8_ n9_ n10_ n11_ n12_ n13_ n14_ n15_ n16_ n17_
                    clear hb hbox hg
                    refine hK.out _ _ ⟨(blk_cell BK289.out 0).trans rfl, (blk_cell BK289.out 1).trans rfl⟩ (fun hHeld => ?_)
                    clear hK K
                    refine norm_ (a' := ?_) ?_ ?_
                    rotate_left
                    ·show Act.put _ (some 26) _ = _
                     simp only [Act.put, List.setIfInBounds_toArray, List.set_cons_zero, List.set_cons_succ, i64_w, i32_w]
                     rfl
                    exact norm_ sq84 (hJ1_3_11 (v334, v337, gb348) _ ⟨hHeld, sq30, sq32, sq45, sq46, sq47, sq48, sq49, GW348.out, GE348.out, NB289_348.out, NB348_289.out, NB294_348.out, NB348_294.out, NB327_348.out, NB348_327.out, NB331_348.out, NB348_331.out, sq91⟩)
                   skip
                   rintro ⟨v334, v340, gb348⟩ w134 ⟨hS_, h0_, h1_, h2_, h3_, h4_, h5_, h6_, h7_, h8_, h9_, h10_, h11_, h12_, h13_, h14_, h15_, h16_, h17_, h18_⟩
                   have n0_ : Aside0 (Kd.R k59 59 w134 w.heap.size (fun k_ => some k_ ≠ (v340 : Value).ownBlock ∧ k_ ≠ gb289) v334 y333) := ⟨h0_⟩
                   have n1_ : Aside0 (Kd.R k59 59 w134 w.heap.size (fun k_ => some k_ ≠ (v334 : Value).ownBlock ∧ k_ ≠ gb289) v340 y339) := ⟨h1_⟩
                   have n2_ : Aside0 (Kd.R Kd.string 9 w134 w.heap.size (fun _ => True) (.slice Ao110 t295.length co110) t295) := ⟨h2_⟩
                   have n3_ : Aside0 (w134.heap[gb289]? = some (.cells #[.string a2_0, .int .i64 a2_1] 59 (0, 0))) := ⟨h3_⟩
                   have n4_ : Aside0 (w134.heap[gb294]? = some (.cells #[.int .i64 t292, .int .i64 t293] 28 (0, 0))) := ⟨h4_⟩
                   have n5_ : Aside0 (w134.heap[gb327]? = some (.cells #[.int .i64 t325, .int .i64 t326] 28 (0, 0))) := ⟨h5_⟩
                   have n6_ : Aside0 (w134.heap[gb331]? = some (.cells #[.int .i64 t329, .int .i64 t330] 28 (0, 0))) := ⟨h6_⟩
                   have n7_ : Aside0 (w134.heap[gb348]? = some (.cells #[.int .i64 0, .int .i64 0] 28 (0, 0))) := ⟨h7_⟩
                   have n8_ : Aside0 (w.heap.size ≤ gb348) := ⟨h8_⟩
                   have n9_ : Aside0 (w.heap.size ≤ gb348) := ⟨h9_⟩
                   have n10_ : Aside0 (gb289 ≠ gb348) := ⟨h10_⟩
                   have n11_ : Aside0 (gb348 ≠ gb289) := ⟨h11_⟩
                   have n12_ : Aside0 (gb294 ≠ gb348) := ⟨h12_⟩
                   have n13_ : Aside0 (gb348 ≠ gb294) := ⟨h13_⟩
                   have n14_ : Aside0 (gb327 ≠ gb348) := ⟨h14_⟩
                   have n15_ : Aside0 (gb348 ≠ gb327) := ⟨h15_⟩
                   have n16_ : Aside0 (gb331 ≠ gb348) := ⟨h16_⟩
                   have n17_ : Aside0 (gb348 ≠ gb331) := ⟨h17_⟩
                   have n18_ : Aside0 (Below w.heap.size w w134) := ⟨h18_⟩
                   clear HO_140; clear BK289; clear BK294; clear BK327; clear BK331; clear HB
                   clear h0_ h1_ h2_ h3_ h4_ h5_ h6_ h7_ h8_ h9_ h10_ h11_ h12_ h13_ h14_ h15_ h16_ h17_ h18_
                   have HO335 := n0_
                   have HO341 := n1_
                   have HO_140 := n2_
                   have BK289 := n3_
                   have BK294 := n4_
                   have BK327 := n5_
                   have BK331 := n6_
                   have BK348 := n7_
                   have GW348 := n8_
                   have GE348 := n9_
                   have NB289_348 := n10_
                   have NB348_289 := n11_
                   have NB294_348 := n12_
                   have NB348_294 := n13_
                   have NB327_348 := n14_
                   have NB348_327 := n15_
                   have NB331_348 := n16_
                   have NB348_331 := n17_
                   have HB := n18_
                   clear n0_ n1_ n2_ n3_ n4_ n5_ n6_ n7_ n8_ n9_ n10_ n11_ n12_ n13_ n14_ n15_ n16_ n17_ n18_
                   have hHeld : w134.cell? ⟨gb289, 0, none⟩ = some (.string a2_0) ∧ w134.cell? ⟨gb289, 1, none⟩ = some (.int .i64 a2_1) := hS_
                   refine norm_ (a' := ?_) ?_ ?_
                   rotate_left
                   ·simp only [putAll, Act.put, List.setIfInBounds_toArray, List.set_cons_zero, List.set_cons_succ]
                    rfl
                   refine one_ (i := 3) (N := some 155) #[true, true, true, true, true, true, false, false, false, false, false, true, false, false] rfl rfl (one_of HT_.out sq2) sq1 (fun K hK => ?_)
                   refine Kd.R_append_rows_step k59 (w0 := w) w.heap.size (by rfl) (.tmp 153) (.tmp 154) 24 59 (.agg #[(.string ⟨#[]⟩), (.int .i64 0)]) 24 rfl Try.underlying24 info59 rfl sq1 sq0 v334 y333 l1 _ _ _ (fun k_ => some k_ ≠ (v340 : Value).ownBlock ∧ k_ ≠ gb289) (fun _ => False) rfl rfl ?aO ?aR (fun _ _ h => h) (fun _ h => h.elim) ?aF ?aB ?aS ?aL ?_
                   (case aR => repeat (first | exact (Kd.C_below HR1.out HB.out) | (with_reducible refine Kd.C_alloc ?_ _) | (with_reducible refine Kd.C_drewN ?_ _) | (with_reducible refine Kd.C_drew ?_)))
                   (case aB => exact sq91)
                   (case aF => exact (fun k_ hk => ⟨Kd.fresh' (Kd.R_lt sq28) k_ hk, Kd.freshB (g := gb289) (o := .cells #[.string a2_0, .int .i64 a2_1] 59 (0, 0)) sq45 k_ hk⟩))
                   (case aO => exact sq29)
                   (case aS => exact (below_size sq91))
                   (case aL => have := LMc123.out; omega)
                   intro v337 w135 ho hb hg hat
                   rw [← Ny336.out] at ho
                   have n0_ := Aside0.mk (Kd.R_over' sq32 (Kd.R_typed sq29) sq1 hg)
                   have n1_ := Aside0.mk (blk_grown (g := gb289) (o := .cells #[.string a2_0, .int .i64 a2_1] 59 (0, 0)) sq45 hg (Kd.R_away HO335.out (fun _ hk => hk.2)))
                   have n2_ := Aside0.mk (blk_grown (g := gb294) (o := .cells #[.int .i64 t292, .int .i64 t293] 28 (0, 0)) sq46 hg (Kd.R_ne HO335.out BK294.out sq1))
                   have n3_ := Aside0.mk (blk_grown (g := gb327) (o := .cells #[.int .i64 t325, .int .i64 t326] 28 (0, 0)) sq47 hg (Kd.R_ne HO335.out BK327.out sq1))
                   have n4_ := Aside0.mk (blk_grown (g := gb331) (o := .cells #[.int .i64 t329, .int .i64 t330] 28 (0, 0)) sq48 hg (Kd.R_ne HO335.out BK331.out sq1))
                   have n5_ := Aside0.mk (Kd.R_after (ok := (fun k_ => k_ ≠ gb289)) sq53 hg hat)
                   have n6_ := Aside0.mk (blk_grown (g := gb348) (o := .cells #[.int .i64 0, .int .i64 0] 28 (0, 0)) sq49 hg (Kd.R_ne HO335.out BK348.out sq1))
                   have n7_ := Aside0.mk (hb)
                   have n8_ := Aside0.mk (ho)
                   clear HO_140; clear BK289; clear BK294; clear BK327; clear BK331; clear HO341; clear BK348; clear HB; clear HO335
                   have HO_140 := n0_
                   have BK289 := n1_
                   have BK294 := n2_
                   have BK327 := n3_
                   have BK331 := n4_
                   have HO341 := n5_
                   have BK348 := n6_
                   have HB := n7_
                   have HO338 := n8_
                   clear n0_ n1_ n2_ n3_ n4_ n5_ n6_ n7_ n8_
                   clear ho hb hg hat
                   refine hK.out _ _ ⟨(blk_cell BK289.out 0).trans rfl, (blk_cell BK289.out 1).trans rfl⟩ (fun hHeld => ?_)
                   clear hK K
                   refine norm_ (a' := ?_) ?_ ?_
                   rotate_left
                   ·show Act.put _ (some 155) _ = _
                    simp only [Act.put, List.setIfInBounds_toArray, List.set_cons_zero, List.set_cons_succ, i64_w, i32_w]
                    rfl
                   exact norm_ sq84 (hJ1_3_5_11 (v334, v337, v340, gb348) _ ⟨hHeld, sq30, sq53, sq32, sq45, sq46, sq47, sq48, sq49, GW348.out, GE348.out, NB289_348.out, NB348_289.out, NB294_348.out, NB348_294.out, NB327_348.out, NB348_327.out, NB331_348.out, NB348_331.out, sq91⟩)
                  skip
                  rintro ⟨v334, v337, gb348⟩ w133 ⟨hS_, h0_, h1_, h2_, h3_, h4_, h5_, h6_, h7_, h8_, h9_, h10_, h11_, h12_, h13_, h14_, h15_, h16_, h17_⟩
                  have n0_ : Aside0 (Kd.R k59 59 w133 w.heap.size (fun k_ => k_ ≠ gb289) v337 y336) := ⟨h0_⟩
                  have n1_ : Aside0 (Kd.R Kd.string 9 w133 w.heap.size (fun _ => True) (.slice Ao110 t295.length co110) t295) := ⟨h1_⟩
                  have n2_ : Aside0 (w133.heap[gb289]? = some (.cells #[.string a2_0, .int .i64 a2_1] 59 (0, 0))) := ⟨h2_⟩
                  have n3_ : Aside0 (w133.heap[gb294]? = some (.cells #[.int .i64 t292, .int .i64 t293] 28 (0, 0))) := ⟨h3_⟩
                  have n4_ : Aside0 (w133.heap[gb327]? = some (.cells #[.int .i64 t325, .int .i64 t326] 28 (0, 0))) := ⟨h4_⟩
                  have n5_ : Aside0 (w133.heap[gb331]? = some (.cells #[.int .i64 t329, .int .i64 t330] 28 (0, 0))) := ⟨h5_⟩
                  have n6_ : Aside0 (w133.heap[gb348]? = some (.cells #[.int .i64 0, .int .i64 0] 28 (0, 0))) := ⟨h6_⟩
                  have n7_ : Aside0 (w.heap.size ≤ gb348) := ⟨h7_⟩
                  have n8_ : Aside0 (w.heap.size ≤ gb348) := ⟨h8_⟩
                  have n9_ : Aside0 (gb289 ≠ gb348) := ⟨h9_⟩
                  have n10_ : Aside0 (gb348 ≠ gb289) := ⟨h10_⟩
                  have n11_ : Aside0 (gb294 ≠ gb348) := ⟨h11_⟩
                  have n12_ : Aside0 (gb348 ≠ gb294) := ⟨h12_⟩
                  have n13_ : Aside0 (gb327 ≠ gb348) := ⟨h13_⟩
                  have n14_ : Aside0 (gb348 ≠ gb327) := ⟨h14_⟩
                  have n15_ : Aside0 (gb331 ≠ gb348) := ⟨h15_⟩
                  have n16_ : Aside0 (gb348 ≠ gb331) := ⟨h16_⟩
                  have n17_ : Aside0 (Below w.heap.size w w133) := ⟨h17_⟩
                  clear HO_140; clear BK289; clear BK294; clear BK327; clear BK331; clear HB
                  clear h0_ h1_ h2_ h3_ h4_ h5_ h6_ h7_ h8_ h9_ h10_ h11_ h12_ h13_ h14_ h15_ h16_ h17_
                  have HO338 := n0_
                  have HO_140 := n1_
                  have BK289 := n2_
                  have BK294 := n3_
                  have BK327 := n4_
                  have BK331 := n5_
                  have BK348 := n6_
                  have GW348 := n7_
                  have GE348 := n8_
                  have NB289_348 := n9_
                  have NB348_289 := n10_
                  have NB294_348 := n11_
                  have NB348_294 := n12_
                  have NB327_348 := n13_
                  have NB348_327 := n14_
                  have NB331_348 := n15_
                  have NB348_331 := n16_
                  have HB := n17_
                  clear n0_ n1_ n2_ n3_ n4_ n5_ n6_ n7_ n8_ n9_ n10_ n11_ n12_ n13_ n14_ n15_ n16_ n17_
                  have hHeld : w133.cell? ⟨gb289, 0, none⟩ = some (.string a2_0) ∧ w133.cell? ⟨gb289, 1, none⟩ = some (.int .i64 a2_1) := hS_
                  refine norm_ (a' := ?_) ?_ ?_
                  rotate_left
                  ·simp only [putAll, Act.put, List.setIfInBounds_toArray, List.set_cons_zero, List.set_cons_succ]
                   rfl
                  refine one_ (i := 5) (N := some 157) #[true, true, true, true, true, true, false, false, false, false, false, true, false, false] rfl rfl (one_of HT_.out sq2) sq1 (fun K hK => ?_)
                  refine Kd.R_lit_step k59 _ 59 ?hg (N := 157) ?hd (xs := ([(⟨a2_0, a2_1⟩ : S59)] : List (S59))) (inner := [.string a2_0, .int .i64 a2_1]) (ok := fun _ => True) (okp := fun _ => True) ?hr ?hp (fun _ hk => hk) trivial (Below.refl _ _) (Nat.le_refl _) (by simp) ?_; (case hd => rfl); (case hg => rfl); (case hr => first | (go_simp; done) | (go_simp; rfl)); (case hp => exact (Reps.c2 (show Kd.M k59 _ _ _ (⟨a2_0, a2_1⟩ : S59) [.string a2_0, .int .i64 a2_1] from (k59_mkM _ _ _ (⟨a2_0, a2_1⟩ : S59) )) (Reps.none _ _)))
                  intro v340 w134 ho135 hb hg_ hnew_
                  clear hg_ hnew_
                  (first | rw [← Ny339.out] at ho135 | (simp only [Int.reduceToNat] at ho135; rw [← Ny339.out] at ho135))
                  have n0_ := Aside0.mk (Kd.R_below sq32 hb)
                  have n1_ := Aside0.mk (Kd.R_elder' sq30 (Kd.R_base ho135) hb)
                  have n2_ := Aside0.mk (Kd.R_lower (Kd.R_newB (Kd.R_new' ho135 (Kd.R_lt sq30)) (g := gb289) (o := .cells #[.string a2_0, .int .i64 a2_1] 59 (0, 0)) sq45) (below_size sq91))
                  have n3_ := Aside0.mk (blk_below (g := gb289) (o := .cells #[.string a2_0, .int .i64 a2_1] 59 (0, 0)) sq45 hb)
                  have n4_ := Aside0.mk (blk_below (g := gb294) (o := .cells #[.int .i64 t292, .int .i64 t293] 28 (0, 0)) sq46 hb)
                  have n5_ := Aside0.mk (blk_below (g := gb327) (o := .cells #[.int .i64 t325, .int .i64 t326] 28 (0, 0)) sq47 hb)
                  have n6_ := Aside0.mk (blk_below (g := gb331) (o := .cells #[.int .i64 t329, .int .i64 t330] 28 (0, 0)) sq48 hb)
                  have n7_ := Aside0.mk (blk_below (g := gb348) (o := .cells #[.int .i64 0, .int .i64 0] 28 (0, 0)) sq49 hb)
                  have n8_ := Aside0.mk (below_step sq91 hb)
                  clear HO_140; clear HO338; clear BK289; clear BK294; clear BK327; clear BK331; clear BK348; clear HB
                  have HO_140 := n0_
                  have HO338 := n1_
                  have HO341 := n2_
                  have BK289 := n3_
                  have BK294 := n4_
                  have BK327 := n5_
                  have BK331 := n6_
                  have BK348 := n7_
                  have HB := n8_
                  clear n0_ n1_ n2_ n3_ n4_ n5_ n6_ n7_ n8_
                  clear hb ho135
                  refine hK.out _ _ ⟨(blk_cell BK289.out 0).trans rfl, (blk_cell BK289.out 1).trans rfl⟩ (fun hHeld => ?_)
                  clear hK K
                  refine norm_ (a' := ?_) ?_ ?_
                  rotate_left
                  ·show Act.put _ (some 157) _ = _
                   simp only [Act.put, List.setIfInBounds_toArray, List.set_cons_zero, List.set_cons_succ, i64_w, i32_w]
                   rfl
                  exact norm_ sq84 (hJ1_3_5_11 (v334, v337, v340, gb348) _ ⟨hHeld, (by (with_reducible repeat (first | apply Kd.R_alloc | apply Kd.R_drewN | apply Kd.R_drew)); exact Kd.R_mono HO338.out (fun _ hk => ⟨hk.2, hk.1⟩)), sq54, sq32, sq45, sq46, sq47, sq48, sq49, GW348.out, GE348.out, NB289_348.out, NB348_289.out, NB294_348.out, NB348_294.out, NB327_348.out, NB348_327.out, NB331_348.out, NB348_331.out, sq91⟩)
                 skip
                 rintro ⟨v334, v337, v340⟩ w134 ⟨hS_, h0_, h1_, h2_, h3_, h4_, h5_, h6_, h7_⟩
                 have n0_ : Aside0 (Kd.R k59 59 w134 w.heap.size (fun k_ => some k_ ≠ (v340 : Value).ownBlock ∧ k_ ≠ gb289) v337 y336) := ⟨h0_⟩
                 have n1_ : Aside0 (Kd.R k59 59 w134 w.heap.size (fun k_ => some k_ ≠ (v337 : Value).ownBlock ∧ k_ ≠ gb289) v340 y339) := ⟨h1_⟩
                 have n2_ : Aside0 (Kd.R Kd.string 9 w134 w.heap.size (fun _ => True) (.slice Ao110 t295.length co110) t295) := ⟨h2_⟩
                 have n3_ : Aside0 (w134.heap[gb289]? = some (.cells #[.string a2_0, .int .i64 a2_1] 59 (0, 0))) := ⟨h3_⟩
                 have n4_ : Aside0 (w134.heap[gb294]? = some (.cells #[.int .i64 t292, .int .i64 t293] 28 (0, 0))) := ⟨h4_⟩
                 have n5_ : Aside0 (w134.heap[gb327]? = some (.cells #[.int .i64 t325, .int .i64 t326] 28 (0, 0))) := ⟨h5_⟩
                 have n6_ : Aside0 (w134.heap[gb331]? = some (.cells #[.int .i64 t329, .int .i64 t330] 28 (0, 0))) := ⟨h6_⟩
                 have n7_ : Aside0 (Below w.heap.size w w134) := ⟨h7_⟩
                 clear HO_140; clear BK289; clear BK294; clear BK327; clear BK331; clear HB
                 clear h0_ h1_ h2_ h3_ h4_ h5_ h6_ h7_
                 have HO338 := n0_
                 have HO341 := n1_
                 have HO_140 := n2_
                 have BK289 := n3_
                 have BK294 := n4_
                 have BK327 := n5_
                 have BK331 := n6_
                 have HB := n7_
                 clear n0_ n1_ n2_ n3_ n4_ n5_ n6_ n7_
                 have hHeld : w134.cell? ⟨gb289, 0, none⟩ = some (.string a2_0) ∧ w134.cell? ⟨gb289, 1, none⟩ = some (.int .i64 a2_1) := hS_
                 obtain ⟨Ao136, co136, eo136⟩ := Kd.R_slice HO341.out
                 (first | subst eo136 | (injection eo136 with f1_ f2_ f3_; have f4_ := f1_.symm; have f5_ := f3_.symm; clear f1_ f2_ f3_; subst f4_; subst f5_))
                 refine norm_ (a' := ?_) ?_ ?_
                 rotate_left
                 ·simp only [putAll, Act.put, List.setIfInBounds_toArray, List.set_cons_zero, List.set_cons_succ]
                  rfl
                 refine two_ (i := 6) (j := 11) (Ni := some 158) (Nj := some 26) #[true, true, true, true, true, true, true, false, false, false, false, false, false, false] #[true, true, true, true, true, true, false, false, false, false, false, true, false, false] rfl rfl rfl rfl (two_of HT_.out sq2) sq1 sq1 (fun K hK => ?_) (fun K hK => ?_)
                 ·skip
                  refine Kd.R_append_rows_step k59 (w0 := w) w.heap.size (by rfl) (.tmp 155) (.tmp 157) 24 59 (.agg #[(.string ⟨#[]⟩), (.int .i64 0)]) 24 rfl Try.underlying24 info59 rfl sq1 sq0 v337 y336 y339 _ _ _ (fun k_ => some k_ ≠ (.slice Ao136 y339.length co136 : Value).ownBlock ∧ k_ ≠ gb289) (fun _ => False) rfl rfl ?aO ?aR (fun _ _ h => h) (fun _ h => h.elim) ?aF ?aB ?aS ?aL ?_
                  (case aR => repeat (first | exact (Kd.R_reads' HO341.out).2.2 | (with_reducible refine Kd.C_alloc ?_ _) | (with_reducible refine Kd.C_drewN ?_ _) | (with_reducible refine Kd.C_drew ?_)))
                  (case aB => exact sq89)
                  (case aF => exact (fun k_ hk => ⟨Kd.fresh' (Kd.R_lt sq28) k_ hk, Kd.freshB (g := gb289) (o := .cells #[.string a2_0, .int .i64 a2_1] 59 (0, 0)) sq45 k_ hk⟩))
                  (case aO => exact sq30)
                  (case aS => exact (below_size sq89))
                  (case aL => have := LMc124.out; omega)
                  intro v343 w135 ho hb hg hat
                  rw [← Ny342.out] at ho
                  have n0_ := Aside0.mk (Kd.R_over' sq32 (Kd.R_typed sq30) sq1 hg)
                  have n1_ := Aside0.mk (blk_grown (g := gb289) (o := .cells #[.string a2_0, .int .i64 a2_1] 59 (0, 0)) sq45 hg (Kd.R_away HO338.out (fun _ hk => hk.2)))
                  have n2_ := Aside0.mk (blk_grown (g := gb294) (o := .cells #[.int .i64 t292, .int .i64 t293] 28 (0, 0)) sq46 hg (Kd.R_ne HO338.out BK294.out sq1))
                  have n3_ := Aside0.mk (blk_grown (g := gb327) (o := .cells #[.int .i64 t325, .int .i64 t326] 28 (0, 0)) sq47 hg (Kd.R_ne HO338.out BK327.out sq1))
                  have n4_ := Aside0.mk (blk_grown (g := gb331) (o := .cells #[.int .i64 t329, .int .i64 t330] 28 (0, 0)) sq48 hg (Kd.R_ne HO338.out BK331.out sq1))
                  have n5_ := Aside0.mk (Kd.R_after (ok := (fun k_ => k_ ≠ gb289)) sq53 hg hat)
                  have n6_ := Aside0.mk (hb)
                  have n7_ := Aside0.mk (ho)
                  clear HO_140; clear BK289; clear BK294; clear BK327; clear BK331; clear HO341; clear HB; clear HO338
                  have HO_140 := n0_
                  have BK289 := n1_
                  have BK294 := n2_
                  have BK327 := n3_
                  have BK331 := n4_
                  have HO341 := n5_
                  have HB := n6_
                  have HO344 := n7_
                  clear n0_ n1_ n2_ n3_ n4_ n5_ n6_ n7_
                  clear ho hb hg hat
                  refine hK.out _ _ ⟨(blk_cell BK289.out 0).trans rfl, (blk_cell BK289.out 1).trans rfl⟩ (fun hHeld => ?_)
                  clear hK K
                  refine norm_ (a' := ?_) ?_ ?_
                  rotate_left
                  ·show Act.put _ (some 158) _ = _
                   simp only [Act.put, List.setIfInBounds_toArray, List.set_cons_zero, List.set_cons_succ, i64_w, i32_w]
                   rfl
                  exact norm_ sq84 (hJ1_3_5_6 (v334, v337, .slice Ao136 y339.length co136, v343) _ ⟨hHeld, sq53, sq31, sq32, sq45, sq46, sq47, sq48, sq89⟩)
                 skip
                 refine box_step ?hg (N := 26) ?hd (cs := #[.int .i64 0, .int .i64 0]) (t := 28) ?hr ?_; (case hd => rfl); (case hg => rfl); (case hr => first | (go_simp; done) | (go_simp; rfl))
                 intro gb348 hg w135 hbox hb
                 have n0_ := Aside0.mk (Kd.R_below sq32 hb)
                 have n1_ := Aside0.mk (Kd.R_below sq30 hb)
                 have n2_ := Aside0.mk (Kd.R_below sq28 hb)
                 have n3_ := Aside0.mk (blk_below (g := gb289) (o := .cells #[.string a2_0, .int .i64 a2_1] 59 (0, 0)) sq45 hb)
                 have n4_ := Aside0.mk (blk_below (g := gb294) (o := .cells #[.int .i64 t292, .int .i64 t293] 28 (0, 0)) sq46 hb)
                 have n5_ := Aside0.mk (blk_below (g := gb327) (o := .cells #[.int .i64 t325, .int .i64 t326] 28 (0, 0)) sq47 hb)
                 have n6_ := Aside0.mk (blk_below (g := gb331) (o := .cells #[.int .i64 t329, .int .i64 t330] 28 (0, 0)) sq48 hb)
                 have n7_ := Aside0.mk (below_step sq89 hb)
                 have n8_ := Aside0.mk (hbox)
                 have n9_ := Aside0.mk ((by rw [hg]; exact (below_size sq89) : w.heap.size ≤ gb348))
                 have n10_ := Aside0.mk ((by rw [hg]; exact (below_size sq89) : w.heap.size ≤ gb348))
                 have n11_ := Aside0.mk ((by rw [hg]; exact Nat.ne_of_lt (blk_lt (g := gb289) (o := .cells #[.string a2_0, .int .i64 a2_1] 59 (0, 0)) sq45) : gb289 ≠ gb348))
                 have n12_ := Aside0.mk ((by rw [hg]; exact Nat.ne_of_gt (blk_lt (g := gb289) (o := .cells #[.string a2_0, .int .i64 a2_1] 59 (0, 0)) sq45) : gb348 ≠ gb289))
                 have n13_ := Aside0.mk ((by rw [hg]; exact Nat.ne_of_lt (blk_lt (g := gb294) (o := .cells #[.int .i64 t292, .int .i64 t293] 28 (0, 0)) sq46) : gb294 ≠ gb348))
                 have n14_ := Aside0.mk ((by rw [hg]; exact Nat.ne_of_gt (blk_lt (g := gb294) (o := .cells #[.int .i64 t292, .int .i64 t293] 28 (0, 0)) sq46) : gb348 ≠ gb294))
                 have n15_ := Aside0.mk ((by rw [hg]; exact Nat.ne_of_lt (blk_lt (g := gb327) (o := .cells #[.int .i64 t325, .int .i64 t326] 28 (0, 0)) sq47) : gb327 ≠ gb348))
                 have n16_ := Aside0.mk ((by rw [hg]; exact Nat.ne_of_gt (blk_lt (g := gb327) (o := .cells #[.int .i64 t325, .int .i64 t326] 28 (0, 0)) sq47) : gb348 ≠ gb327))
                 have n17_ := Aside0.mk ((by rw [hg]; exact Nat.ne_of_lt (blk_lt (g := gb331) (o := .cells #[.int .i64 t329, .int .i64 t330] 28 (0, 0)) sq48) : gb331 ≠ gb348))
                 have n18_ := Aside0.mk ((by rw [hg]; exact Nat.ne_of_gt (blk_lt (g := gb331) (o := .cells #[.int .i64 t329, .int .i64 t330] 28 (0, 0)) sq48) : gb348 ≠ gb331))
                 clear HO_140; clear HO338; clear HO341; clear BK289; clear BK294; clear BK327; clear BK331; clear HB
                 have HO_140 := n0_
                 have HO338 := n1_
                 have HO341 := n2_
                 have BK289 := n3_
                 have BK294 := n4_
                 have BK327 := n5_
                 have BK331 := n6_
                 have HB := n7_
                 have BK348 := n8_
                 have GW348 := n9_
                 have GE348 := n10_
                 have NB289_348 := n11_
                 have NB348_289 := n12_
                 have NB294_348 := n13_
                 have NB348_294 := n14_
                 have NB327_348 := n15_
                 have NB348_327 := n16_
                 have NB331_348 := n17_
                 have NB348_331 := n18_
                 clear n0_ n1_ n2_ n3_ n4_ n5_ n6_ n7_ n8_ n9_ n10_ n11_ n12_ n13_ n14_ n15_ n16_ n17_ n18_
                 clear hb hbox hg
                 refine hK.out _ _ ⟨(blk_cell BK289.out 0).trans rfl, (blk_cell BK289.out 1).trans rfl⟩ (fun hHeld => ?_)
                 clear hK K
                 refine norm_ (a' := ?_) ?_ ?_
                 rotate_left
                 ·show Act.put _ (some 26) _ = _
                  simp only [Act.put, List.setIfInBounds_toArray, List.set_cons_zero, List.set_cons_succ, i64_w, i32_w]
                  rfl
                 exact norm_ sq84 (hJ1_3_5_11 (v334, v337, .slice Ao136 y339.length co136, gb348) _ ⟨hHeld, sq30, sq28, sq32, sq45, sq46, sq47, sq48, sq49, GW348.out, GE348.out, NB289_348.out, NB348_289.out, NB294_348.out, NB348_294.out, NB327_348.out, NB348_327.out, NB331_348.out, NB348_331.out, sq91⟩)
                skip
                rintro ⟨v334, v337, v340, gb348⟩ w135 ⟨hS_, h0_, h1_, h2_, h3_, h4_, h5_, h6_, h7_, h8_, h9_, h10_, h11_, h12_, h13_, h14_, h15_, h16_, h17_, h18_⟩
                have n0_ : Aside0 (Kd.R k59 59 w135 w.heap.size (fun k_ => some k_ ≠ (v340 : Value).ownBlock ∧ k_ ≠ gb289) v337 y336) := ⟨h0_⟩
                have n1_ : Aside0 (Kd.R k59 59 w135 w.heap.size (fun k_ => some k_ ≠ (v337 : Value).ownBlock ∧ k_ ≠ gb289) v340 y339) := ⟨h1_⟩
                have n2_ : Aside0 (Kd.R Kd.string 9 w135 w.heap.size (fun _ => True) (.slice Ao110 t295.length co110) t295) := ⟨h2_⟩
                have n3_ : Aside0 (w135.heap[gb289]? = some (.cells #[.string a2_0, .int .i64 a2_1] 59 (0, 0))) := ⟨h3_⟩
                have n4_ : Aside0 (w135.heap[gb294]? = some (.cells #[.int .i64 t292, .int .i64 t293] 28 (0, 0))) := ⟨h4_⟩
                have n5_ : Aside0 (w135.heap[gb327]? = some (.cells #[.int .i64 t325, .int .i64 t326] 28 (0, 0))) := ⟨h5_⟩
                have n6_ : Aside0 (w135.heap[gb331]? = some (.cells #[.int .i64 t329, .int .i64 t330] 28 (0, 0))) := ⟨h6_⟩
                have n7_ : Aside0 (w135.heap[gb348]? = some (.cells #[.int .i64 0, .int .i64 0] 28 (0, 0))) := ⟨h7_⟩
                have n8_ : Aside0 (w.heap.size ≤ gb348) := ⟨h8_⟩
                have n9_ : Aside0 (w.heap.size ≤ gb348) := ⟨h9_⟩
                have n10_ : Aside0 (gb289 ≠ gb348) := ⟨h10_⟩
                have n11_ : Aside0 (gb348 ≠ gb289) := ⟨h11_⟩
                have n12_ : Aside0 (gb294 ≠ gb348) := ⟨h12_⟩
                have n13_ : Aside0 (gb348 ≠ gb294) := ⟨h13_⟩
                have n14_ : Aside0 (gb327 ≠ gb348) := ⟨h14_⟩
                have n15_ : Aside0 (gb348 ≠ gb327) := ⟨h15_⟩
                have n16_ : Aside0 (gb331 ≠ gb348) := ⟨h16_⟩
                have n17_ : Aside0 (gb348 ≠ gb331) := ⟨h17_⟩
                have n18_ : Aside0 (Below w.heap.size w w135) := ⟨h18_⟩
                clear HO_140; clear BK289; clear BK294; clear BK327; clear BK331; clear HB
                clear h0_ h1_ h2_ h3_ h4_ h5_ h6_ h7_ h8_ h9_ h10_ h11_ h12_ h13_ h14_ h15_ h16_ h17_ h18_
                have HO338 := n0_
                have HO341 := n1_
                have HO_140 := n2_
                have BK289 := n3_
                have BK294 := n4_
                have BK327 := n5_
                have BK331 := n6_
                have BK348 := n7_
                have GW348 := n8_
                have GE348 := n9_
                have NB289_348 := n10_
                have NB348_289 := n11_
                have NB294_348 := n12_
                have NB348_294 := n13_
                have NB327_348 := n14_
                have NB348_327 := n15_
                have NB331_348 := n16_
                have NB348_331 := n17_
                have HB := n18_
                clear n0_ n1_ n2_ n3_ n4_ n5_ n6_ n7_ n8_ n9_ n10_ n11_ n12_ n13_ n14_ n15_ n16_ n17_ n18_
                have hHeld : w135.cell? ⟨gb289, 0, none⟩ = some (.string a2_0) ∧ w135.cell? ⟨gb289, 1, none⟩ = some (.int .i64 a2_1) := hS_
                obtain ⟨Ao137, co137, eo137⟩ := Kd.R_slice HO341.out
                (first | subst eo137 | (injection eo137 with f1_ f2_ f3_; have f4_ := f1_.symm; have f5_ := f3_.symm; clear f1_ f2_ f3_; subst f4_; subst f5_))
                refine norm_ (a' := ?_) ?_ ?_
                rotate_left
                ·simp only [putAll, Act.put, List.setIfInBounds_toArray, List.set_cons_zero, List.set_cons_succ]
                 rfl
                refine one_ (i := 6) (N := some 158) #[true, true, true, true, true, true, true, false, false, false, false, true, false, false] rfl rfl (one_of HT_.out sq2) sq1 (fun K hK => ?_)
                refine Kd.R_append_rows_step k59 (w0 := w) w.heap.size (by rfl) (.tmp 155) (.tmp 157) 24 59 (.agg #[(.string ⟨#[]⟩), (.int .i64 0)]) 24 rfl Try.underlying24 info59 rfl sq1 sq0 v337 y336 y339 _ _ _ (fun k_ => some k_ ≠ (.slice Ao137 y339.length co137 : Value).ownBlock ∧ k_ ≠ gb289) (fun _ => False) rfl rfl ?aO ?aR (fun _ _ h => h) (fun _ h => h.elim) ?aF ?aB ?aS ?aL ?_
                (case aR => repeat (first | exact (Kd.R_reads' HO341.out).2.2 | (with_reducible refine Kd.C_alloc ?_ _) | (with_reducible refine Kd.C_drewN ?_ _) | (with_reducible refine Kd.C_drew ?_)))
                (case aB => exact sq91)
                (case aF => exact (fun k_ hk => ⟨Kd.fresh' (Kd.R_lt sq28) k_ hk, Kd.freshB (g := gb289) (o := .cells #[.string a2_0, .int .i64 a2_1] 59 (0, 0)) sq45 k_ hk⟩))
                (case aO => exact sq30)
                (case aS => exact (below_size sq91))
                (case aL => have := LMc124.out; omega)
                intro v343 w136 ho hb hg hat
                rw [← Ny342.out] at ho
                have n0_ := Aside0.mk (Kd.R_over' sq32 (Kd.R_typed sq30) sq1 hg)
                have n1_ := Aside0.mk (blk_grown (g := gb289) (o := .cells #[.string a2_0, .int .i64 a2_1] 59 (0, 0)) sq45 hg (Kd.R_away HO338.out (fun _ hk => hk.2)))
                have n2_ := Aside0.mk (blk_grown (g := gb294) (o := .cells #[.int .i64 t292, .int .i64 t293] 28 (0, 0)) sq46 hg (Kd.R_ne HO338.out BK294.out sq1))
                have n3_ := Aside0.mk (blk_grown (g := gb327) (o := .cells #[.int .i64 t325, .int .i64 t326] 28 (0, 0)) sq47 hg (Kd.R_ne HO338.out BK327.out sq1))
                have n4_ := Aside0.mk (blk_grown (g := gb331) (o := .cells #[.int .i64 t329, .int .i64 t330] 28 (0, 0)) sq48 hg (Kd.R_ne HO338.out BK331.out sq1))
                have n5_ := Aside0.mk (Kd.R_after (ok := (fun k_ => k_ ≠ gb289)) sq53 hg hat)
                have n6_ := Aside0.mk (blk_grown (g := gb348) (o := .cells #[.int .i64 0, .int .i64 0] 28 (0, 0)) sq49 hg (Kd.R_ne HO338.out BK348.out sq1))
                have n7_ := Aside0.mk (hb)
                have n8_ := Aside0.mk (ho)
                clear HO_140; clear BK289; clear BK294; clear BK327; clear BK331; clear HO341; clear BK348; clear HB; clear HO338
                have HO_140 := n0_
                have BK289 := n1_
                have BK294 := n2_
                have BK327 := n3_
                have BK331 := n4_
                have HO341 := n5_
                have BK348 := n6_
                have HB := n7_
                have HO344 := n8_
                clear n0_ n1_ n2_ n3_ n4_ n5_ n6_ n7_ n8_
                clear ho hb hg hat
                refine hK.out _ _ ⟨(blk_cell BK289.out 0).trans rfl, (blk_cell BK289.out 1).trans rfl⟩ (fun hHeld => ?_)
                clear hK K
                refine norm_ (a' := ?_) ?_ ?_
                rotate_left
                ·show Act.put _ (some 158) _ = _
                 simp only [Act.put, List.setIfInBounds_toArray, List.set_cons_zero, List.set_cons_succ, i64_w, i32_w]
                 rfl
                exact norm_ sq84 (hJ1_3_5_6_11 (v334, v337, .slice Ao137 y339.length co137, v343, gb348) _ ⟨hHeld, sq53, sq31, sq32, sq45, sq46, sq47, sq48, sq49, GW348.out, GE348.out, NB289_348.out, NB348_289.out, NB294_348.out, NB348_294.out, NB327_348.out, NB348_327.out, NB331_348.out, NB348_331.out, sq91⟩)
               skip
               rintro ⟨v334, v337, v340, v343⟩ w136 ⟨hS_, h0_, h1_, h2_, h3_, h4_, h5_, h6_, h7_⟩
               have n0_ : Aside0 (Kd.R k59 59 w136 w.heap.size (fun k_ => some k_ ≠ (v343 : Value).ownBlock ∧ k_ ≠ gb289) v340 y339) := ⟨h0_⟩
               have n1_ : Aside0 (Kd.R k59 59 w136 w.heap.size (fun k_ => some k_ ≠ (v340 : Value).ownBlock ∧ k_ ≠ gb289) v343 y342) := ⟨h1_⟩
               have n2_ : Aside0 (Kd.R Kd.string 9 w136 w.heap.size (fun _ => True) (.slice Ao110 t295.length co110) t295) := ⟨h2_⟩
               have n3_ : Aside0 (w136.heap[gb289]? = some (.cells #[.string a2_0, .int .i64 a2_1] 59 (0, 0))) := ⟨h3_⟩
               have n4_ : Aside0 (w136.heap[gb294]? = some (.cells #[.int .i64 t292, .int .i64 t293] 28 (0, 0))) := ⟨h4_⟩
               have n5_ : Aside0 (w136.heap[gb327]? = some (.cells #[.int .i64 t325, .int .i64 t326] 28 (0, 0))) := ⟨h5_⟩
               have n6_ : Aside0 (w136.heap[gb331]? = some (.cells #[.int .i64 t329, .int .i64 t330] 28 (0, 0))) := ⟨h6_⟩
               have n7_ : Aside0 (Below w.heap.size w w136) := ⟨h7_⟩
               clear HO_140; clear BK289; clear BK294; clear BK327; clear BK331; clear HB
               clear h0_ h1_ h2_ h3_ h4_ h5_ h6_ h7_
               have HO341 := n0_
               have HO344 := n1_
               have HO_140 := n2_
               have BK289 := n3_
               have BK294 := n4_
               have BK327 := n5_
               have BK331 := n6_
               have HB := n7_
               clear n0_ n1_ n2_ n3_ n4_ n5_ n6_ n7_
               have hHeld : w136.cell? ⟨gb289, 0, none⟩ = some (.string a2_0) ∧ w136.cell? ⟨gb289, 1, none⟩ = some (.int .i64 a2_1) := hS_
               obtain ⟨Ao137, co137, eo137⟩ := Kd.R_slice HO344.out
               (first | subst eo137 | (injection eo137 with f1_ f2_ f3_; have f4_ := f1_.symm; have f5_ := f3_.symm; clear f1_ f2_ f3_; subst f4_; subst f5_))
               refine norm_ (a' := ?_) ?_ ?_
               rotate_left
               ·simp only [putAll, Act.put, List.setIfInBounds_toArray, List.set_cons_zero, List.set_cons_succ]
                rfl
               refine two_ (i := 7) (j := 11) (Ni := some 159) (Nj := some 26) #[true, true, true, true, true, true, true, true, false, false, false, false, false, false] #[true, true, true, true, true, true, true, false, false, false, false, true, false, false] rfl rfl rfl rfl (two_of HT_.out sq2) sq1 sq1 (fun K hK => ?_) (fun K hK => ?_)
               ·skip
                refine goes_ Try.func10 sq2 rfl #[.slice A0 l0.length c0, .slice Ao137 y342.length co137] (by rfl) rfl rfl sq51 ?_
                with_reducible refine (kind_Of.calls k4 _ _ l0 _ _ y342 t345 t346 t347 _ ?side5 ?side1 ?side2 ?side3 ?side4 A125.out).mono ?_
                (case side1 => repeat (first | exact (Kd.C_below HR0.out HB.out) | (with_reducible refine Kd.C_alloc ?_ _) | (with_reducible refine Kd.C_drewN ?_ _) | (with_reducible refine Kd.C_drew ?_)))
                (case side2 => exact HC0.out)
                (case side3 => repeat (first | exact (Kd.R_reads' HO344.out).2.2 | (with_reducible refine Kd.C_alloc ?_ _) | (with_reducible refine Kd.C_drewN ?_ _) | (with_reducible refine Kd.C_drew ?_)))
                (case side4 => exact (Kd.R_reads' HO344.out).2.1)
                (case side5 => exact Glob.below HG.out sq89)
                rintro e w138 ⟨rfl, hb⟩
                refine ⟨_, rfl, ?_⟩
                have n0_ := Aside0.mk (Kd.R_below sq32 hb)
                have n1_ := Aside0.mk (Kd.R_below sq28 hb)
                have n2_ := Aside0.mk (Kd.R_below sq31 hb)
                have n3_ := Aside0.mk (blk_below (g := gb289) (o := .cells #[.string a2_0, .int .i64 a2_1] 59 (0, 0)) sq45 hb)
                have n4_ := Aside0.mk (blk_below (g := gb294) (o := .cells #[.int .i64 t292, .int .i64 t293] 28 (0, 0)) sq46 hb)
                have n5_ := Aside0.mk (blk_below (g := gb327) (o := .cells #[.int .i64 t325, .int .i64 t326] 28 (0, 0)) sq47 hb)
                have n6_ := Aside0.mk (blk_below (g := gb331) (o := .cells #[.int .i64 t329, .int .i64 t330] 28 (0, 0)) sq48 hb)
                have n7_ := Aside0.mk (below_step sq89 hb)
                clear HO_140; clear HO341; clear HO344; clear BK289; clear BK294; clear BK327; clear BK331; clear HB
                have HO_140 := n0_
                have HO341 := n1_
                have HO344 := n2_
                have BK289 := n3_
                have BK294 := n4_
                have BK327 := n5_
                have BK331 := n6_
                have HB := n7_
                clear n0_ n1_ n2_ n3_ n4_ n5_ n6_ n7_
                (try clear hb)
                (try clear hb2)
                (try clear hk)
                (try clear hi)
                refine hK.out _ _ ⟨(blk_cell BK289.out 0).trans rfl, (blk_cell BK289.out 1).trans rfl⟩ (fun hHeld => ?_)
                clear hK K
                refine norm_ (a' := ?_) ?_ ?_
                rotate_left
                ·show Act.put _ (some 159) _ = _
                 simp only [Act.put, List.setIfInBounds_toArray, List.set_cons_zero, List.set_cons_succ, i64_w, i32_w]
                 rfl
                refine pure_ (i := 8) (N := some 151) (v := ?_) (a' := ?_) #[true, true, true, true, true, true, true, true, true, false, false, false, false, false] rfl rfl (any_of HT_.out sq2) (fun _ _ _ h => h) (Or.inl ⟨by rfl, ?_⟩) ?_ ?_
                rotate_left
                ·intro w'
                 go_simp
                 with_reducible rfl
                rotate_left
                ·simp only [Act.put, List.setIfInBounds_toArray, List.set_cons_zero, List.set_cons_succ, i64_w, i32_w]
                 rfl
                refine pure_ (i := 9) (N := some 160) (v := ?_) (a' := ?_) #[true, true, true, true, true, true, true, true, true, true, false, false, false, false] rfl rfl (any_of HT_.out sq2) (fun _ _ _ h => h) (Or.inl ⟨by rfl, ?_⟩) ?_ ?_
                rotate_left
                ·intro w'
                 go_simp
                 with_reducible rfl
                rotate_left
                ·simp only [Act.put, List.setIfInBounds_toArray, List.set_cons_zero, List.set_cons_succ, i64_w, i32_w]
                 rfl
                refine pure_ (i := 10) (N := some 161) (v := ?_) (a' := ?_) #[true, true, true, true, true, true, true, true, true, true, true, false, false, false] rfl rfl (any_of HT_.out sq2) (fun _ _ _ h => h) (Or.inl ⟨by rfl, ?_⟩) ?_ ?_
                rotate_left
                ·intro w'
                 go_simp
                 with_reducible rfl
                rotate_left
                ·simp only [Act.put, List.setIfInBounds_toArray, List.set_cons_zero, List.set_cons_succ, i64_w, i32_w]
                 rfl
                exact norm_ sq84 (hJ1_3_5_6_7 (v334, v337, v340, .slice Ao137 y342.length co137) _ ⟨hHeld, sq28, sq31, sq32, sq45, sq46, sq47, sq48, sq89⟩)
               skip
               refine box_step ?hg (N := 26) ?hd (cs := #[.int .i64 0, .int .i64 0]) (t := 28) ?hr ?_; (case hd => rfl); (case hg => rfl); (case hr => first | (go_simp; done) | (go_simp; rfl))
               intro gb348 hg w137 hbox hb
               have n0_ := Aside0.mk (Kd.R_below sq32 hb)
               have n1_ := Aside0.mk (Kd.R_below sq28 hb)
               have n2_ := Aside0.mk (Kd.R_below sq31 hb)
               have n3_ := Aside0.mk (blk_below (g := gb289) (o := .cells #[.string a2_0, .int .i64 a2_1] 59 (0, 0)) sq45 hb)
               have n4_ := Aside0.mk (blk_below (g := gb294) (o := .cells #[.int .i64 t292, .int .i64 t293] 28 (0, 0)) sq46 hb)
               have n5_ := Aside0.mk (blk_below (g := gb327) (o := .cells #[.int .i64 t325, .int .i64 t326] 28 (0, 0)) sq47 hb)
               have n6_ := Aside0.mk (blk_below (g := gb331) (o := .cells #[.int .i64 t329, .int .i64 t330] 28 (0, 0)) sq48 hb)
               have n7_ := Aside0.mk (below_step sq89 hb)
               have n8_ := Aside0.mk (hbox)
               have n9_ := Aside0.mk ((by rw [hg]; exact (below_size sq89) : w.heap.size ≤ gb348))
               have n10_ := Aside0.mk ((by rw [hg]; exact (below_size sq89) : w.heap.size ≤ gb348))
               have n11_ := Aside0.mk ((by rw [hg]; exact Nat.ne_of_lt (blk_lt (g := gb289) (o := .cells #[.string a2_0, .int .i64 a2_1] 59 (0, 0)) sq45) : gb289 ≠ gb348))
               have n12_ := Aside0.mk ((by rw [hg]; exact Nat.ne_of_gt (blk_lt (g := gb289) (o := .cells #[.string a2_0, .int .i64 a2_1] 59 (0, 0)) sq45) : gb348 ≠ gb289))
               have n13_ := Aside0.mk ((by rw [hg]; exact Nat.ne_of_lt (blk_lt (g := gb294) (o := .cells #[.int .i64 t292, .int .i64 t293] 28 (0, 0)) sq46) : gb294 ≠ gb348))
               have n14_ := Aside0.mk ((by rw [hg]; exact Nat.ne_of_gt (blk_lt (g := gb294) (o := .cells #[.int .i64 t292, .int .i64 t293] 28 (0, 0)) sq46) : gb348 ≠ gb294))
               have n15_ := Aside0.mk ((by rw [hg]; exact Nat.ne_of_lt (blk_lt (g := gb327) (o := .cells #[.int .i64 t325, .int .i64 t326] 28 (0, 0)) sq47) : gb327 ≠ gb348))
               have n16_ := Aside0.mk ((by rw [hg]; exact Nat.ne_of_gt (blk_lt (g := gb327) (o := .cells #[.int .i64 t325, .int .i64 t326] 28 (0, 0)) sq47) : gb348 ≠ gb327))
               have n17_ := Aside0.mk ((by rw [hg]; exact Nat.ne_of_lt (blk_lt (g := gb331) (o := .cells #[.int .i64 t329, .int .i64 t330] 28 (0, 0)) sq48) : gb331 ≠ gb348))
               have n18_ := Aside0.mk ((by rw [hg]; exact Nat.ne_of_gt (blk_lt (g := gb331) (o := .cells #[.int .i64 t329, .int .i64 t330] 28 (0, 0)) sq48) : gb348 ≠ gb331))
               clear HO_140; clear HO341; clear HO344; clear BK289; clear BK294; clear BK327; clear BK331; clear HB
               have HO_140 := n0_
               have HO341 := n1_
               have HO344 := n2_
               have BK289 := n3_
               have BK294 := n4_
               have BK327 := n5_
               have BK331 := n6_
               have HB := n7_
               have BK348 := n8_
               have GW348 := n9_
               have GE348 := n10_
               have NB289_348 := n11_
               have NB348_289 := n12_
               have NB294_348 := n13_
               have NB348_294 := n14_
               have NB327_348 := n15_
               have NB348_327 := n16_
               have NB331_348 := n17_
               have NB348_331 := n18_
               clear n0_ n1_ n2_ n3_ n4_ n5_ n6_ n7_ n8_ n9_ n10_ n11_ n12_ n13_ n14_ n15_ n16_ n17_ n18_
               clear hb hbox hg
               refine hK.out _ _ ⟨(blk_cell BK289.out 0).trans rfl, (blk_cell BK289.out 1).trans rfl⟩ (fun hHeld => ?_)
               clear hK K
               refine norm_ (a' := ?_) ?_ ?_
               rotate_left
               ·show Act.put _ (some 26) _ = _
                simp only [Act.put, List.setIfInBounds_toArray, List.set_cons_zero, List.set_cons_succ, i64_w, i32_w]
                rfl
               exact norm_ sq84 (hJ1_3_5_6_11 (v334, v337, v340, .slice Ao137 y342.length co137, gb348) _ ⟨hHeld, sq28, sq31, sq32, sq45, sq46, sq47, sq48, sq49, GW348.out, GE348.out, NB289_348.out, NB348_289.out, NB294_348.out, NB348_294.out, NB327_348.out, NB348_327.out, NB331_348.out, NB348_331.out, sq91⟩)
              skip
              rintro ⟨v334, v337, v340, v343, gb348⟩ w137 ⟨hS_, h0_, h1_, h2_, h3_, h4_, h5_, h6_, h7_, h8_, h9_, h10_, h11_, h12_, h13_, h14_, h15_, h16_, h17_, h18_⟩
              have n0_ : Aside0 (Kd.R k59 59 w137 w.heap.size (fun k_ => some k_ ≠ (v343 : Value).ownBlock ∧ k_ ≠ gb289) v340 y339) := ⟨h0_⟩
              have n1_ : Aside0 (Kd.R k59 59 w137 w.heap.size (fun k_ => some k_ ≠ (v340 : Value).ownBlock ∧ k_ ≠ gb289) v343 y342) := ⟨h1_⟩
              have n2_ : Aside0 (Kd.R Kd.string 9 w137 w.heap.size (fun _ => True) (.slice Ao110 t295.length co110) t295) := ⟨h2_⟩
              have n3_ : Aside0 (w137.heap[gb289]? = some (.cells #[.string a2_0, .int .i64 a2_1] 59 (0, 0))) := ⟨h3_⟩
              have n4_ : Aside0 (w137.heap[gb294]? = some (.cells #[.int .i64 t292, .int .i64 t293] 28 (0, 0))) := ⟨h4_⟩
              have n5_ : Aside0 (w137.heap[gb327]? = some (.cells #[.int .i64 t325, .int .i64 t326] 28 (0, 0))) := ⟨h5_⟩
              have n6_ : Aside0 (w137.heap[gb331]? = some (.cells #[.int .i64 t329, .int .i64 t330] 28 (0, 0))) := ⟨h6_⟩
              have n7_ : Aside0 (w137.heap[gb348]? = some (.cells #[.int .i64 0, .int .i64 0] 28 (0, 0))) := ⟨h7_⟩
              have n8_ : Aside0 (w.heap.size ≤ gb348) := ⟨h8_⟩
              have n9_ : Aside0 (w.heap.size ≤ gb348) := ⟨h9_⟩
              have n10_ : Aside0 (gb289 ≠ gb348) := ⟨h10_⟩
              have n11_ : Aside0 (gb348 ≠ gb289) := ⟨h11_⟩
              have n12_ : Aside0 (gb294 ≠ gb348) := ⟨h12_⟩
              have n13_ : Aside0 (gb348 ≠ gb294) := ⟨h13_⟩
              have n14_ : Aside0 (gb327 ≠ gb348) := ⟨h14_⟩
              have n15_ : Aside0 (gb348 ≠ gb327) := ⟨h15_⟩
              have n16_ : Aside0 (gb331 ≠ gb348) := ⟨h16_⟩
              have n17_ : Aside0 (gb348 ≠ gb331) := ⟨h17_⟩
              have n18_ : Aside0 (Below w.heap.size w w137) := ⟨h18_⟩
              clear HO_140; clear BK289; clear BK294; clear BK327; clear BK331; clear HB
              clear h0_ h1_ h2_ h3_ h4_ h5_ h6_ h7_ h8_ h9_ h10_ h11_ h12_ h13_ h14_ h15_ h16_ h17_ h18_
              have HO341 := n0_
              have HO344 := n1_
              have HO_140 := n2_
              have BK289 := n3_
              have BK294 := n4_
              have BK327 := n5_
              have BK331 := n6_
              have BK348 := n7_
              have GW348 := n8_
              have GE348 := n9_
              have NB289_348 := n10_
              have NB348_289 := n11_
              have NB294_348 := n12_
              have NB348_294 := n13_
              have NB327_348 := n14_
              have NB348_327 := n15_
              have NB331_348 := n16_
              have NB348_331 := n17_
              have HB := n18_
              clear n0_ n1_ n2_ n3_ n4_ n5_ n6_ n7_ n8_ n9_ n10_ n11_ n12_ n13_ n14_ n15_ n16_ n17_ n18_
              have hHeld : w137.cell? ⟨gb289, 0, none⟩ = some (.string a2_0) ∧ w137.cell? ⟨gb289, 1, none⟩ = some (.int .i64 a2_1) := hS_
              obtain ⟨Ao138, co138, eo138⟩ := Kd.R_slice HO344.out
              (first | subst eo138 | (injection eo138 with f1_ f2_ f3_; have f4_ := f1_.symm; have f5_ := f3_.symm; clear f1_ f2_ f3_; subst f4_; subst f5_))
              refine norm_ (a' := ?_) ?_ ?_
              rotate_left
              ·simp only [putAll, Act.put, List.setIfInBounds_toArray, List.set_cons_zero, List.set_cons_succ]
               rfl
              refine one_ (i := 7) (N := some 159) #[true, true, true, true, true, true, true, true, false, false, false, true, false, false] rfl rfl (one_of HT_.out sq2) sq1 (fun K hK => ?_)
              refine goes_ Try.func10 sq2 rfl #[.slice A0 l0.length c0, .slice Ao138 y342.length co138] (by rfl) rfl rfl sq51 ?_
              with_reducible refine (kind_Of.calls k4 _ _ l0 _ _ y342 t345 t346 t347 _ ?side5 ?side1 ?side2 ?side3 ?side4 A125.out).mono ?_
              (case side1 => repeat (first | exact (Kd.C_below HR0.out HB.out) | (with_reducible refine Kd.C_alloc ?_ _) | (with_reducible refine Kd.C_drewN ?_ _) | (with_reducible refine Kd.C_drew ?_)))
              (case side2 => exact HC0.out)
              (case side3 => repeat (first | exact (Kd.R_reads' HO344.out).2.2 | (with_reducible refine Kd.C_alloc ?_ _) | (with_reducible refine Kd.C_drewN ?_ _) | (with_reducible refine Kd.C_drew ?_)))
              (case side4 => exact (Kd.R_reads' HO344.out).2.1)
              (case side5 => exact Glob.below HG.out sq91)
              rintro e w139 ⟨rfl, hb⟩
              refine ⟨_, rfl, ?_⟩
              have n0_ := Aside0.mk (Kd.R_below sq32 hb)
              have n1_ := Aside0.mk (Kd.R_below sq28 hb)
              have n2_ := Aside0.mk (Kd.R_below sq31 hb)
              have n3_ := Aside0.mk (blk_below (g := gb289) (o := .cells #[.string a2_0, .int .i64 a2_1] 59 (0, 0)) sq45 hb)
              have n4_ := Aside0.mk (blk_below (g := gb294) (o := .cells #[.int .i64 t292, .int .i64 t293] 28 (0, 0)) sq46 hb)
              have n5_ := Aside0.mk (blk_below (g := gb327) (o := .cells #[.int .i64 t325, .int .i64 t326] 28 (0, 0)) sq47 hb)
              have n6_ := Aside0.mk (blk_below (g := gb331) (o := .cells #[.int .i64 t329, .int .i64 t330] 28 (0, 0)) sq48 hb)
              have n7_ := Aside0.mk (blk_below (g := gb348) (o := .cells #[.int .i64 0, .int .i64 0] 28 (0, 0)) sq49 hb)
              have n8_ := Aside0.mk (below_step sq91 hb)
              clear HO_140; clear HO341; clear HO344; clear BK289; clear BK294; clear BK327; clear BK331; clear BK348; clear HB
              have HO_140 := n0_
              have HO341 := n1_
              have HO344 := n2_
              have BK289 := n3_
              have BK294 := n4_
              have BK327 := n5_
              have BK331 := n6_
              have BK348 := n7_
              have HB := n8_
              clear n0_ n1_ n2_ n3_ n4_ n5_ n6_ n7_ n8_
              (try clear hb)
              (try clear hb2)
              (try clear hk)
              (try clear hi)
              refine hK.out _ _ ⟨(blk_cell BK289.out 0).trans rfl, (blk_cell BK289.out 1).trans rfl⟩ (fun hHeld => ?_)
              clear hK K
              refine norm_ (a' := ?_) ?_ ?_
              rotate_left
              ·show Act.put _ (some 159) _ = _
               simp only [Act.put, List.setIfInBounds_toArray, List.set_cons_zero, List.set_cons_succ, i64_w, i32_w]
               rfl
              refine pure_ (i := 8) (N := some 151) (v := ?_) (a' := ?_) #[true, true, true, true, true, true, true, true, true, false, false, true, false, false] rfl rfl (any_of HT_.out sq2) (fun _ _ _ h => h) (Or.inl ⟨by rfl, ?_⟩) ?_ ?_
              rotate_left
              ·intro w'
               go_simp
               with_reducible rfl
              rotate_left
              ·simp only [Act.put, List.setIfInBounds_toArray, List.set_cons_zero, List.set_cons_succ, i64_w, i32_w]
               rfl
              refine pure_ (i := 9) (N := some 160) (v := ?_) (a' := ?_) #[true, true, true, true, true, true, true, true, true, true, false, true, false, false] rfl rfl (any_of HT_.out sq2) (fun _ _ _ h => h) (Or.inl ⟨by rfl, ?_⟩) ?_ ?_
              rotate_left
              ·intro w'
               go_simp
               with_reducible rfl
              rotate_left
              ·simp only [Act.put, List.setIfInBounds_toArray, List.set_cons_zero, List.set_cons_succ, i64_w, i32_w]
               rfl
              refine pure_ (i := 10) (N := some 161) (v := ?_) (a' := ?_) #[true, true, true, true, true, true, true, true, true, true, true, true, false, false] rfl rfl (any_of HT_.out sq2) (fun _ _ _ h => h) (Or.inl ⟨by rfl, ?_⟩) ?_ ?_
              rotate_left
              ·intro w'
               go_simp
               with_reducible rfl
              rotate_left
              ·simp only [Act.put, List.setIfInBounds_toArray, List.set_cons_zero, List.set_cons_succ, i64_w, i32_w]
               rfl
              exact norm_ sq84 (hJ1_3_5_6_7_11 (v334, v337, v340, .slice Ao138 y342.length co138, gb348) _ ⟨hHeld, sq28, sq31, sq32, sq45, sq46, sq47, sq48, sq49, GW348.out, GE348.out, NB289_348.out, NB348_289.out, NB294_348.out, NB348_294.out, NB327_348.out, NB348_327.out, NB331_348.out, NB348_331.out, sq91⟩)
             skip
             rintro ⟨v334, v337, v340, v343⟩ w138 ⟨hS_, h0_, h1_, h2_, h3_, h4_, h5_, h6_, h7_⟩
             have n0_ : Aside0 (Kd.R k59 59 w138 w.heap.size (fun k_ => some k_ ≠ (v343 : Value).ownBlock ∧ k_ ≠ gb289) v340 y339) := ⟨h0_⟩
             have n1_ : Aside0 (Kd.R k59 59 w138 w.heap.size (fun k_ => some k_ ≠ (v340 : Value).ownBlock ∧ k_ ≠ gb289) v343 y342) := ⟨h1_⟩
             have n2_ : Aside0 (Kd.R Kd.string 9 w138 w.heap.size (fun _ => True) (.slice Ao110 t295.length co110) t295) := ⟨h2_⟩
             have n3_ : Aside0 (w138.heap[gb289]? = some (.cells #[.string a2_0, .int .i64 a2_1] 59 (0, 0))) := ⟨h3_⟩
             have n4_ : Aside0 (w138.heap[gb294]? = some (.cells #[.int .i64 t292, .int .i64 t293] 28 (0, 0))) := ⟨h4_⟩
             have n5_ : Aside0 (w138.heap[gb327]? = some (.cells #[.int .i64 t325, .int .i64 t326] 28 (0, 0))) := ⟨h5_⟩
             have n6_ : Aside0 (w138.heap[gb331]? = some (.cells #[.int .i64 t329, .int .i64 t330] 28 (0, 0))) := ⟨h6_⟩
             have n7_ : Aside0 (Below w.heap.size w w138) := ⟨h7_⟩
             clear HO_140; clear BK289; clear BK294; clear BK327; clear BK331; clear HB
             clear h0_ h1_ h2_ h3_ h4_ h5_ h6_ h7_
             have HO341 := n0_
             have HO344 := n1_
             have HO_140 := n2_
             have BK289 := n3_
             have BK294 := n4_
             have BK327 := n5_
             have BK331 := n6_
             have HB := n7_
             clear n0_ n1_ n2_ n3_ n4_ n5_ n6_ n7_
             have hHeld : w138.cell? ⟨gb289, 0, none⟩ = some (.string a2_0) ∧ w138.cell? ⟨gb289, 1, none⟩ = some (.int .i64 a2_1) := hS_
             refine norm_ (a' := ?_) ?_ ?_
             rotate_left
             ·simp only [putAll, Act.put, List.setIfInBounds_toArray, List.set_cons_zero, List.set_cons_succ]
              rfl
             refine one_ (i := 11) (N := some 26) #[true, true, true, true, true, true, true, true, true, true, true, true, false, false] rfl rfl (one_of HT_.out sq2) sq1 (fun K hK => ?_)
             refine box_step ?hg (N := 26) ?hd (cs := #[.int .i64 0, .int .i64 0]) (t := 28) ?hr ?_; (case hd => rfl); (case hg => rfl); (case hr => first | (go_simp; done) | (go_simp; rfl))
             intro gb348 hg w139 hbox hb
             have n0_ := Aside0.mk (Kd.R_below sq32 hb)
             have n1_ := Aside0.mk (Kd.R_below sq28 hb)
             have n2_ := Aside0.mk (Kd.R_below sq31 hb)
             have n3_ := Aside0.mk (blk_below (g := gb289) (o := .cells #[.string a2_0, .int .i64 a2_1] 59 (0, 0)) sq45 hb)
             have n4_ := Aside0.mk (blk_below (g := gb294) (o := .cells #[.int .i64 t292, .int .i64 t293] 28 (0, 0)) sq46 hb)
             have n5_ := Aside0.mk (blk_below (g := gb327) (o := .cells #[.int .i64 t325, .int .i64 t326] 28 (0, 0)) sq47 hb)
             have n6_ := Aside0.mk (blk_below (g := gb331) (o := .cells #[.int .i64 t329, .int .i64 t330] 28 (0, 0)) sq48 hb)
             have n7_ := Aside0.mk (below_step sq89 hb)
             have n8_ := Aside0.mk (hbox)
             have n9_ := Aside0.mk ((by rw [hg]; exact (below_size sq89) : w.heap.size ≤ gb348))
             have n10_ := Aside0.mk ((by rw [hg]; exact (below_size sq89) : w.heap.size ≤ gb348))
             have n11_ := Aside0.mk ((by rw [hg]; exact Nat.ne_of_lt (blk_lt (g := gb289) (o := .cells #[.string a2_0, .int .i64 a2_1] 59 (0, 0)) sq45) : gb289 ≠ gb348))
             have n12_ := Aside0.mk ((by rw [hg]; exact Nat.ne_of_gt (blk_lt (g := gb289) (o := .cells #[.string a2_0, .int .i64 a2_1] 59 (0, 0)) sq45) : gb348 ≠ gb289))
             have n13_ := Aside0.mk ((by rw [hg]; exact Nat.ne_of_lt (blk_lt (g := gb294) (o := .cells #[.int .i64 t292, .int .i64 t293] 28 (0, 0)) sq46) : gb294 ≠ gb348))
             have n14_ := Aside0.mk ((by rw [hg]; exact Nat.ne_of_gt (blk_lt (g := gb294) (o := .cells #[.int .i64 t292, .int .i64 t293] 28 (0, 0)) sq46) : gb348 ≠ gb294))
             have n15_ := Aside0.mk ((by rw [hg]; exact Nat.ne_of_lt (blk_lt (g := gb327) (o := .cells #[.int .i64 t325, .int .i64 t326] 28 (0, 0)) sq47) : gb327 ≠ gb348))
             have n16_ := Aside0.mk ((by rw [hg]; exact Nat.ne_of_gt (blk_lt (g := gb327) (o := .cells #[.int .i64 t325, .int .i64 t326] 28 (0, 0)) sq47) : gb348 ≠ gb327))
             have n17_ := Aside0.mk ((by rw [hg]; exact Nat.ne_of_lt (blk_lt (g := gb331) (o := .cells #[.int .i64 t329, .int .i64 t330] 28 (0, 0)) sq48) : gb331 ≠ gb348))
             have n18_ := Aside0.mk ((by rw [hg]; exact Nat.ne_of_gt (blk_lt (g := gb331) (o := .cells #[.int .i64 t329, .int .i64 t330] 28 (0, 0)) sq48) : gb348 ≠ gb331))
             clear HO_140; clear HO341; clear HO344; clear BK289; clear BK294; clear BK327; clear BK331; clear HB
             have HO_140 := n0_
             have HO341 := n1_
             have HO344 := n2_
             have BK289 := n3_
             have BK294 := n4_
             have BK327 := n5_
             have BK331 := n6_
             have HB := n7_
             have BK348 := n8_
             have GW348 := n9_
             have GE348 := n10_
             have NB289_348 := n11_
             have NB348_289 := n12_
             have NB294_348 := n13_
             have NB348_294 := n14_
             have NB327_348 := n15_
             have NB348_327 := n16_
             have NB331_348 := n17_
             have NB348_331 := n18_
             clear n0_ n1_ n2_ n3_ n4_ n5_ n6_ n7_ n8_ n9_ n10_ n11_ n12_ n13_ n14_ n15_ n16_ n17_ n18_
             clear hb hbox hg
             refine hK.out _ _ ⟨(blk_cell BK289.out 0).trans rfl, (blk_cell BK289.out 1).trans rfl⟩ (fun hHeld => ?_)
             clear hK K
             refine norm_ (a' := ?_) ?_ ?_
             rotate_left
             ·show Act.put _ (some 26) _ = _
              simp only [Act.put, List.setIfInBounds_toArray, List.set_cons_zero, List.set_cons_succ, i64_w, i32_w]
              rfl
             exact norm_ sq84 (hJ1_3_5_6_7_11 (v334, v337, v340, v343, gb348) _ ⟨hHeld, sq28, sq31, sq32, sq45, sq46, sq47, sq48, sq49, GW348.out, GE348.out, NB289_348.out, NB348_289.out, NB294_348.out, NB348_294.out, NB327_348.out, NB348_327.out, NB331_348.out, NB348_331.out, sq91⟩)
            rintro ⟨v334, v337, v340, v343, gb348⟩ w139 ⟨hS_, h0_, h1_, h2_, h3_, h4_, h5_, h6_, h7_, h8_, h9_, h10_, h11_, h12_, h13_, h14_, h15_, h16_, h17_, h18_⟩
            have n0_ : Aside0 (Kd.R k59 59 w139 w.heap.size (fun k_ => some k_ ≠ (v343 : Value).ownBlock ∧ k_ ≠ gb289) v340 y339) := ⟨h0_⟩
            have n1_ : Aside0 (Kd.R k59 59 w139 w.heap.size (fun k_ => some k_ ≠ (v340 : Value).ownBlock ∧ k_ ≠ gb289) v343 y342) := ⟨h1_⟩
            have n2_ : Aside0 (Kd.R Kd.string 9 w139 w.heap.size (fun _ => True) (.slice Ao110 t295.length co110) t295) := ⟨h2_⟩
            have n3_ : Aside0 (w139.heap[gb289]? = some (.cells #[.string a2_0, .int .i64 a2_1] 59 (0, 0))) := ⟨h3_⟩
            have n4_ : Aside0 (w139.heap[gb294]? = some (.cells #[.int .i64 t292, .int .i64 t293] 28 (0, 0))) := ⟨h4_⟩
            have n5_ : Aside0 (w139.heap[gb327]? = some (.cells #[.int .i64 t325, .int .i64 t326] 28 (0, 0))) := ⟨h5_⟩
            have n6_ : Aside0 (w139.heap[gb331]? = some (.cells #[.int .i64 t329, .int .i64 t330] 28 (0, 0))) := ⟨h6_⟩
            have n7_ : Aside0 (w139.heap[gb348]? = some (.cells #[.int .i64 0, .int .i64 0] 28 (0, 0))) := ⟨h7_⟩
            have n8_ : Aside0 (w.heap.size ≤ gb348) := ⟨h8_⟩
            have n9_ : Aside0 (w.heap.size ≤ gb348) := ⟨h9_⟩
            have n10_ : Aside0 (gb289 ≠ gb348) := ⟨h10_⟩
            have n11_ : Aside0 (gb348 ≠ gb289) := ⟨h11_⟩
            have n12_ : Aside0 (gb294 ≠ gb348) := ⟨h12_⟩
            have n13_ : Aside0 (gb348 ≠ gb294) := ⟨h13_⟩
            have n14_ : Aside0 (gb327 ≠ gb348) := ⟨h14_⟩
            have n15_ : Aside0 (gb348 ≠ gb327) := ⟨h15_⟩
            have n16_ : Aside0 (gb331 ≠ gb348) := ⟨h16_⟩
            have n17_ : Aside0 (gb348 ≠ gb331) := ⟨h17_⟩
            have n18_ : Aside0 (Below w.heap.size w w139) := ⟨h18_⟩
            clear HO_140; clear BK289; clear BK294; clear BK327; clear BK331; clear HB
            clear h0_ h1_ h2_ h3_ h4_ h5_ h6_ h7_ h8_ h9_ h10_ h11_ h12_ h13_ h14_ h15_ h16_ h17_ h18_
            have HO341 := n0_
            have HO344 := n1_
            have HO_140 := n2_
            have BK289 := n3_
            have BK294 := n4_
            have BK327 := n5_
            have BK331 := n6_
            have BK348 := n7_
            have GW348 := n8_
            have GE348 := n9_
            have NB289_348 := n10_
            have NB348_289 := n11_
            have NB294_348 := n12_
            have NB348_294 := n13_
            have NB327_348 := n14_
            have NB348_327 := n15_
            have NB331_348 := n16_
            have NB348_331 := n17_
            have HB := n18_
            clear n0_ n1_ n2_ n3_ n4_ n5_ n6_ n7_ n8_ n9_ n10_ n11_ n12_ n13_ n14_ n15_ n16_ n17_ n18_
            have hHeld : w139.cell? ⟨gb289, 0, none⟩ = some (.string a2_0) ∧ w139.cell? ⟨gb289, 1, none⟩ = some (.int .i64 a2_1) := hS_
            refine norm_ (a' := ?_) ?_ ?_
            rotate_left
            ·simp only [putAll, Act.put, List.setIfInBounds_toArray, List.set_cons_zero, List.set_cons_succ]
             rfl
            refine pure_ (i := 12) (N := some 25) (v := ?_) (a' := ?_) #[true, true, true, true, true, true, true, true, true, true, true, true, true, false] rfl rfl (any_of HT_.out sq2) (fun _ _ _ h => h) (Or.inl ⟨by rfl, ?_⟩) ?_ ?_
            rotate_left
            ·intro w'
             go_simp
             with_reducible rfl
            rotate_left
            ·simp only [Act.put, List.setIfInBounds_toArray, List.set_cons_zero, List.set_cons_succ, i64_w, i32_w]
             rfl
            refine one_ (i := 13) (N := none) #[true, true, true, true, true, true, true, true, true, true, true, true, true, true] rfl rfl (one_of HT_.out sq2) sq1 (fun K hK => ?_)
            have hs140 : w139.cell? ⟨gb348, 0, none⟩ = some (.int .i64 0) := (blk_cell BK348.out 0).trans rfl
            have hfs140 := blk_frozen BK348.out 0
            have hns140_0 := NB289_348.out
            have hns140_1 := NB294_348.out
            have hns140_2 := NB327_348.out
            have hns140_3 := NB331_348.out
            have hms140_0 := NB348_289.out
            have hms140_1 := NB348_294.out
            have hms140_2 := NB348_327.out
            have hms140_3 := NB348_331.out
            have hs141 : w139.cell? ⟨gb348, 1, none⟩ = some (.int .i64 0) := (blk_cell BK348.out 1).trans rfl
            have hfs141 := blk_frozen BK348.out 1
            have hns141_0 := NB289_348.out
            have hns141_1 := NB294_348.out
            have hns141_2 := NB327_348.out
            have hns141_3 := NB331_348.out
            have hms141_0 := NB348_289.out
            have hms141_1 := NB348_294.out
            have hms141_2 := NB348_327.out
            have hms141_3 := NB348_331.out
            refine skip_ (w1 := ?_) (by rfl) rfl ?_ ?_
            rotate_left
            ·go_simp
             rfl
            refine hK.out _ _ ⟨((cell_far (p := ⟨gb348, _, none⟩) NB289_348.out _).trans (((cell_far (p := ⟨gb348, _, none⟩) NB289_348.out _).trans (hHeld.1)))), ((cell_far (p := ⟨gb348, _, none⟩) NB289_348.out _).trans (((cell_far (p := ⟨gb348, _, none⟩) NB289_348.out _).trans (hHeld.2))))⟩ (fun hHeld => ?_)
            clear hK K
            refine done_ (done_of HT_.out sq2) ?_
            have hnb142 := NB294_289.out
            have hnc142 := NB289_294.out
            have hnb143 := NB294_327.out
            have hnc143 := NB327_294.out
            have hnb144 := NB294_331.out
            have hnc144 := NB331_294.out
            have hnb145 := NB294_348.out
            have hnc145 := NB348_294.out
            have hcz146_0 : w139.cell? ⟨gb294, 0, none⟩ = some (.int .i64 t292) := (blk_cell BK294.out 0).trans rfl
            have hcz146_1 : w139.cell? ⟨gb294, 1, none⟩ = some (.int .i64 t293) := (blk_cell BK294.out 1).trans rfl
            have hfz146_0 := blk_frozen BK294.out 0
            have hfz146_1 := blk_frozen BK294.out 1
            have hnb147 := NB348_289.out
            have hnc147 := NB289_348.out
            have hnb148 := NB348_327.out
            have hnc148 := NB327_348.out
            have hnb149 := NB348_331.out
            have hnc149 := NB331_348.out
            have hcz150_0 : w139.cell? ⟨gb348, 0, none⟩ = some (.int .i64 0) := (blk_cell BK348.out 0).trans rfl
            have hcz150_1 : w139.cell? ⟨gb348, 1, none⟩ = some (.int .i64 0) := (blk_cell BK348.out 1).trans rfl
            have hfz150_0 := blk_frozen BK348.out 0
            have hfz150_1 := blk_frozen BK348.out 1
            have H := HX_.out
            clear HX_
            by_cases c126 : t291 = t345
            ·rw [if_pos c126] at H
             have c126b0 : (t291 == t345) = true := beq_iff_eq.mpr c126
             have c126b1 : (t291 != t345) = false := bne_eq_false_iff_eq.mpr c126
             clear c126
             by_cases c127 : (t292 == t346 && (t293 == t347)) = true
             ·rw [if_pos c127] at H
              have c127b0 : (t292 == t346 && (t293 == t347)) = true := c127
              (try (have c127b1 : decide (t292 = t346 && (t293 == t347)) = true := by simpa using c127))
              (try (have c127b2 : (t292 == t346 && (t293 == t347)) = true := by simpa using c127))
              clear c127
              obtain rfl := Option.some.inj H
              try go_wp2
              go_ret
              exact ⟨sq11, sq91⟩
             rw [if_neg c127] at H
             have c127b0 : (t292 == t346 && (t293 == t347)) = false := by simpa using c127
             (try (have c127b1 : decide (t292 = t346 && (t293 == t347)) = false := by simpa using c127))
             (try (have c127b2 : (t292 == t346 && (t293 == t347)) = false := by simpa using c127))
             (try (have c127b3 : ¬ (t292 = t346 && (t293 == t347)) := by simpa using c127))
             clear c127
             by_cases c151 : t345 = 0
             ·rw [if_pos c151] at H
              have c151b0 : (t345 == 0) = true := beq_iff_eq.mpr c151
              have c151b1 : (t345 != 0) = false := bne_eq_false_iff_eq.mpr c151
              clear c151
              by_cases c152 : t347 = 5
              ·rw [if_pos c152] at H
               have c152b0 : (t347 == 5) = true := beq_iff_eq.mpr c152
               have c152b1 : (t347 != 5) = false := bne_eq_false_iff_eq.mpr c152
               clear c152
               obtain rfl := Option.some.inj H
               try go_wp2
               go_ret
               exact ⟨sq11, sq91⟩
              rw [if_neg c152] at H
              have c152b0 : (t347 == 5) = false := beq_eq_false_iff_ne.mpr c152
              have c152b1 : (t347 != 5) = true := bne_iff_ne.mpr c152
              obtain rfl := Option.some.inj H
              try go_wp2
              go_ret
              exact ⟨sq11, sq91⟩
             rw [if_neg c151] at H
             have c151b0 : (t345 == 0) = false := beq_eq_false_iff_ne.mpr c151
             have c151b1 : (t345 != 0) = true := bne_iff_ne.mpr c151
             obtain rfl := Option.some.inj H
             try go_wp2
             go_ret
             exact ⟨sq11, sq91⟩
            rw [if_neg c126] at H
            have c126b0 : (t291 == t345) = false := beq_eq_false_iff_ne.mpr c126
            have c126b1 : (t291 != t345) = true := bne_iff_ne.mpr c126
            by_cases c222 : t345 = 0
            ·rw [if_pos c222] at H
             have c222b0 : (t345 == 0) = true := beq_iff_eq.mpr c222
             have c222b1 : (t345 != 0) = false := bne_eq_false_iff_eq.mpr c222
             clear c222
             by_cases c223 : t347 = 5
             ·rw [if_pos c223] at H
              have c223b0 : (t347 == 5) = true := beq_iff_eq.mpr c223
              have c223b1 : (t347 != 5) = false := bne_eq_false_iff_eq.mpr c223
              clear c223
              obtain rfl := Option.some.inj H
              try go_wp2
              go_ret
              exact ⟨sq11, sq91⟩
             rw [if_neg c223] at H
             have c223b0 : (t347 == 5) = false := beq_eq_false_iff_ne.mpr c223
             have c223b1 : (t347 != 5) = true := bne_iff_ne.mpr c223
             obtain rfl := Option.some.inj H
             try go_wp2
             go_ret
             exact ⟨sq11, sq91⟩
            rw [if_neg c222] at H
            have c222b0 : (t345 == 0) = false := beq_eq_false_iff_ne.mpr c222
            have c222b1 : (t345 != 0) = true := bne_iff_ne.mpr c222
            obtain rfl := Option.some.inj H
            try go_wp2
            go_ret
            exact ⟨sq11, sq91⟩
           rw [if_neg c124] at H
           exact absurd H (by simp)
          rw [if_neg c123] at H
          exact absurd H (by simp)
 replace c5 := Bool.eq_false_iff.mpr c5
 subst c5
 replace H := (itF_ _ _).symm.trans H
 obtain rfl := Option.some.inj H
 go_enter Try.func5, Try.ntmps5
 go_wp2_with (first | ((with_reducible refine gate_dst (N := 5) rfl ?_); refine box_event ?hg (N := 5) ?hd (cs := #[.string a2_0, .int .i64 a2_1]) (t := 59) ?hr ?_; (case hd => rfl); (case hg => rfl); (case hr => first | (go_simp; done) | (go_simp; rfl)); intro gb289 hg w276 hbox hb; have n0_ := Aside0.mk (below_step sq50 hb); have n1_ := Aside0.mk (hbox); have n2_ := Aside0.mk ((by rw [hg]; exact (below_size sq50) : w.heap.size ≤ gb289)); have n3_ := Aside0.mk ((by rw [hg]; exact (below_size sq50) : w.heap.size ≤ gb289)); clear HB; have HB := n0_; have BK289 := n1_; have GW289 := n2_; have GE289 := n3_; clear n0_ n1_ n2_ n3_; clear hb hbox hg) | ((with_reducible refine gate_callee (f := 20) rfl ?_); refine goesL_ (some 27) rfl rfl Try.func20 sq2 rfl #[] rfl sq51 ?_; (with_reducible refine (tontinelaw18_works.calls k  false _ ?side1 A4.out).mono ?_); (case side1 => exact Glob.below HG.out sq67); rintro e w277 ⟨rfl, hb⟩; refine ⟨_, rfl, ?_⟩; have n0_ := Aside0.mk (blk_below (g := gb289) (o := .cells #[.string a2_0, .int .i64 a2_1] 59 (0, 0)) sq45 hb); have n1_ := Aside0.mk (below_step sq67 hb); clear BK289; clear HB; have BK289 := n0_; have HB := n1_; clear n0_ n1_; (try clear hb); (try clear hb2); (try clear hk); (try clear hi)))
 go_ret
 exact ⟨sq11, sq67⟩

end Go.Proofs.Ytpfnnamicbbobaa.PAll
