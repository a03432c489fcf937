-- Written by a program of this session (wip/tools/print2.sh): functions as plain Lean, and that the machine's calls do what they say.
import Derived.Test.YtpfnnamicbbobaaPAllx0
import Derived.Test.YtpfnnamicbbobaaPAllx1
import Derived.Test.YtpfnnamicbbobaaPAllx7
import Derived.Test.YtpfnnamicbbobaaPAllx8
namespace Go.Proofs.Ytpfnnamicbbobaa.PAll
open Go.RowKit Go.Proofs.YtpfnnamicbbobaaW.PrintWords Go.Proofs.YtpfnnamicbbobaaW.PrintLast Go.Proofs.YtpfnnamicbbobaaW.PrintMore
attribute [local go_sem] max2_int min2_int max_two min_two max_three min_three max_four min_four   -- for this text's walks alone
set_option linter.unusedVariables false
set_option linter.unusedSimpArgs false

attribute [local go_sem high] eqA28
/-! ### tontinelaw18_KindParts: function 7 -/
mutual
def tontinelaw18_KindParts.j0 : Nat → List (S56) → List (S59) → List Int → Bool → Option (Bool)
 | 0, _, _, _, _ => none
 | k + 1, x0, x1, x5, x63 => if x63 = true then (some false) else (tontinelaw18_KindParts.l0 k x0 x1 x5 (x0.length : Int) 0)
def tontinelaw18_KindParts.l0 : Nat → List (S56) → List (S59) → List Int → Int → Int → Option (Bool)
 | 0, _, _, _, _, _ => none
 | k + 1, x0, x1, x5, x65, x66 => if x66 < x65 then (tontinelaw18_KindParts.l1 k x0 x1 x5 x66 x66 x65 x66) else (some true)
def tontinelaw18_KindParts.l1 : Nat → List (S56) → List (S59) → List Int → Int → Int → Int → Int → Option (Bool)
 | 0, _, _, _, _, _, _, _ => none
 | k + 1, x0, x1, x5, x8, x10, x65, x66 => (clause_Parts.f k x0 x10).bind fun t285 => (if (t285.length : Int) = 0 then (if 0 ≤ x10 then (if x10 ≤ (wrap64 (x8 + 1)) then (if (wrap64 (x8 + 1)) ≤ (x0.length : Int) then ((kind_Of.f k ((x0.take ((wrap64 (x8 + 1)) : Int).toNat).drop (x10 : Int).toNat) x1).bind fun bt292 => (if 0 ≤ x8 then (if x8 < (x5.length : Int) then (if bt292.1 = (rd x5 x8) then (if (!(bt292.2.1 == 0) || (!(bt292.2.2 == 0))) = true then (some false) else (tontinelaw18_KindParts.l0 k x0 x1 x5 x65 (wrap64 (x66 + 1)))) else (some false)) else (none)) else (none))) else (none)) else (none)) else (none)) else (if 0 < (t285.length : Int) then (if (rd t285 0) ≥ x10 then (some false) else (tontinelaw18_KindParts.l1 k x0 x1 x5 x8 (rd t285 0) x65 x66)) else (none)))
end
def tontinelaw18_KindParts.f (k : Nat) (l0 : List (S56)) (l1 : List (S59)) : Option (Bool) := (tontinelaw18_works.f k).bind fun t274 => (if t274 = true then ((kind_Each.f k l0 l1).bind fun bt275 => (if (!(bt275.2.1 == 0) || (!(bt275.2.2 == 0))) = true then (if (bt275.1.length : Int) = 0 then (some (bt275.2.2 != 0)) else (some false)) else ((kind_Of.f k l0 l1).bind fun bt281 => (if (bt275.1.length : Int) = (l0.length : Int) then (if (bt275.1.length : Int) = 0 then (tontinelaw18_KindParts.j0 k l0 l1 bt275.1 true) else (if (!(bt281.2.1 == 0) || (!(bt281.2.2 == 0))) = true then (tontinelaw18_KindParts.j0 k l0 l1 bt275.1 true) else (if 0 ≤ (wrap64 ((bt275.1.length : Int) - 1)) then (if (wrap64 ((bt275.1.length : Int) - 1)) < (bt275.1.length : Int) then (tontinelaw18_KindParts.j0 k l0 l1 bt275.1 (bt281.1 != (rd bt275.1 (wrap64 ((bt275.1.length : Int) - 1))))) else (none)) else (none)))) else (tontinelaw18_KindParts.j0 k l0 l1 bt275.1 true))))) else (some false))
theorem tontinelaw18_KindParts.mono_l : ∀ k, (∀ y0 y1 y2 y3, LeO (tontinelaw18_KindParts.j0 k y0 y1 y2 y3) (tontinelaw18_KindParts.j0 (k + 1) y0 y1 y2 y3)) ∧ (∀ y0 y1 y2 y3 y4, LeO (tontinelaw18_KindParts.l0 k y0 y1 y2 y3 y4) (tontinelaw18_KindParts.l0 (k + 1) y0 y1 y2 y3 y4)) ∧ (∀ y0 y1 y2 y3 y4 y5 y6, LeO (tontinelaw18_KindParts.l1 k y0 y1 y2 y3 y4 y5 y6) (tontinelaw18_KindParts.l1 (k + 1) y0 y1 y2 y3 y4 y5 y6))
 | 0 => ⟨fun _ _ _ _ r h => by simp [tontinelaw18_KindParts.j0] at h, fun _ _ _ _ _ r h => by simp [tontinelaw18_KindParts.l0] at h, fun _ _ _ _ _ _ _ r h => by simp [tontinelaw18_KindParts.l1] at h⟩
 | k + 1 => by
  obtain ⟨ih0, ih1, ih2⟩ := tontinelaw18_KindParts.mono_l k
  refine ⟨?_, ?_, ?_⟩
  ·intro y0 y1 y2 y3
   unfold tontinelaw18_KindParts.j0
   exact sq66
  ·intro y0 y1 y2 y3 y4
   unfold tontinelaw18_KindParts.l0
   exact sq66
  intro y0 y1 y2 y3 y4 y5 y6
  unfold tontinelaw18_KindParts.l1
  exact sq66
theorem tontinelaw18_KindParts.mono : ∀ a0 a1 k, LeO (tontinelaw18_KindParts.f k a0 a1) (tontinelaw18_KindParts.f (k + 1) a0 a1) := by
 intro a0 a1 k
 obtain ⟨ih0, ih1, ih2⟩ := tontinelaw18_KindParts.mono_l k
 unfold tontinelaw18_KindParts.f
 exact sq66
set_option maxHeartbeats 8000000 in
set_option maxRecDepth 100000 in
theorem tontinelaw18_KindParts.calls (k : Nat) (A0 : Option Addr) (c0 : Nat) (l0 : List (S56)) (A1 : Option Addr) (c1 : Nat) (l1 : List (S59)) (r : Bool) (w : World) (hG : Glob w) (hr0 : Kd.C k56 w A0 l0.length l0) (hc0 : l0.length ≤ c0) (hr1 : Kd.C k59 w A1 l1.length l1) (hc1 : l1.length ≤ c1) (h : tontinelaw18_KindParts.f k l0 l1 = some r) :
  Calls Try.prog 7 #[.slice A0 l0.length c0, .slice A1 l1.length c1] w fun e w' => e = .returned (.bool r) ∧ Below w.heap.size w w' := by
 have hu28 := Try.underlying28
 have HR0 := Aside0.mk hr0
 have HC0 := Aside0.mk hc0
 clear hr0 hc0
 have HR1 := Aside0.mk hr1
 have HC1 := Aside0.mk hc1
 clear hr1 hc1
 have HB := Aside0.mk (Below.refl w.heap.size w)
 have HG := Aside0.mk hG
 clear hG
 have H : ((tontinelaw18_works.f k).bind fun t274 => (if t274 = true then ((kind_Each.f k l0 l1).bind fun bt275 => (if (!(bt275.2.1 == 0) || (!(bt275.2.2 == 0))) = true then (if (bt275.1.length : Int) = 0 then (some (bt275.2.2 != 0)) else (some false)) else ((kind_Of.f k l0 l1).bind fun bt281 => (if (bt275.1.length : Int) = (l0.length : Int) then (if (bt275.1.length : Int) = 0 then (tontinelaw18_KindParts.j0 k l0 l1 bt275.1 true) else (if (!(bt281.2.1 == 0) || (!(bt281.2.2 == 0))) = true then (tontinelaw18_KindParts.j0 k l0 l1 bt275.1 true) else (if 0 ≤ (wrap64 ((bt275.1.length : Int) - 1)) then (if (wrap64 ((bt275.1.length : Int) - 1)) < (bt275.1.length : Int) then (tontinelaw18_KindParts.j0 k l0 l1 bt275.1 (bt281.1 != (rd bt275.1 (wrap64 ((bt275.1.length : Int) - 1))))) else (none)) else (none)))) else (tontinelaw18_KindParts.j0 k l0 l1 bt275.1 true))))) else (some false))) = some r := h
 clear h
 replace H := Option.bind_eq_some_iff.mp H
 obtain ⟨t274, A30, H⟩ := H
 replace H : (if t274 = true then ((kind_Each.f k l0 l1).bind fun bt275 => (if (!(bt275.2.1 == 0) || (!(bt275.2.2 == 0))) = true then (if (bt275.1.length : Int) = 0 then (some (bt275.2.2 != 0)) else (some false)) else ((kind_Of.f k l0 l1).bind fun bt281 => (if (bt275.1.length : Int) = (l0.length : Int) then (if (bt275.1.length : Int) = 0 then (tontinelaw18_KindParts.j0 k l0 l1 bt275.1 true) else (if (!(bt281.2.1 == 0) || (!(bt281.2.2 == 0))) = true then (tontinelaw18_KindParts.j0 k l0 l1 bt275.1 true) else (if 0 ≤ (wrap64 ((bt275.1.length : Int) - 1)) then (if (wrap64 ((bt275.1.length : Int) - 1)) < (bt275.1.length : Int) then (tontinelaw18_KindParts.j0 k l0 l1 bt275.1 (bt281.1 != (rd bt275.1 (wrap64 ((bt275.1.length : Int) - 1))))) else (none)) else (none)))) else (tontinelaw18_KindParts.j0 k l0 l1 bt275.1 true))))) else (some false)) = some r := H
 have A3 := Aside0.mk A30
 clear A30
 by_cases c4 : t274 = true
 ·subst c4
  have H1 : ((kind_Each.f k l0 l1).bind fun bt275 => (if (!(bt275.2.1 == 0) || (!(bt275.2.2 == 0))) = true then (if (bt275.1.length : Int) = 0 then (some (bt275.2.2 != 0)) else (some false)) else ((kind_Of.f k l0 l1).bind fun bt281 => (if (bt275.1.length : Int) = (l0.length : Int) then (if (bt275.1.length : Int) = 0 then (tontinelaw18_KindParts.j0 k l0 l1 bt275.1 true) else (if (!(bt281.2.1 == 0) || (!(bt281.2.2 == 0))) = true then (tontinelaw18_KindParts.j0 k l0 l1 bt275.1 true) else (if 0 ≤ (wrap64 ((bt275.1.length : Int) - 1)) then (if (wrap64 ((bt275.1.length : Int) - 1)) < (bt275.1.length : Int) then (tontinelaw18_KindParts.j0 k l0 l1 bt275.1 (bt281.1 != (rd bt275.1 (wrap64 ((bt275.1.length : Int) - 1))))) else (none)) else (none)))) else (tontinelaw18_KindParts.j0 k l0 l1 bt275.1 true))))) = some r := by rw [if_pos rfl] at H; exact H
  clear H
  have H := H1
  clear H1
  replace H := Option.bind_eq_some_iff.mp H
  obtain ⟨⟨t275, t278, t279⟩, A50, H⟩ := H
  replace H : (if (!(t278 == 0) || (!(t279 == 0))) = true then (if (t275.length : Int) = 0 then (some (t279 != 0)) else (some false)) else ((kind_Of.f k l0 l1).bind fun bt281 => (if (t275.length : Int) = (l0.length : Int) then (if (t275.length : Int) = 0 then (tontinelaw18_KindParts.j0 k l0 l1 t275 true) else (if (!(bt281.2.1 == 0) || (!(bt281.2.2 == 0))) = true then (tontinelaw18_KindParts.j0 k l0 l1 t275 true) else (if 0 ≤ (wrap64 ((t275.length : Int) - 1)) then (if (wrap64 ((t275.length : Int) - 1)) < (t275.length : Int) then (tontinelaw18_KindParts.j0 k l0 l1 t275 (bt281.1 != (rd t275 (wrap64 ((t275.length : Int) - 1))))) else (none)) else (none)))) else (tontinelaw18_KindParts.j0 k l0 l1 t275 true)))) = some r := H
  have A5 := Aside0.mk A50
  clear A50
  by_cases c6 : (!(t278 == 0) || (!(t279 == 0))) = true
  ·rw [if_pos c6] at H
   have c6b0 : (!(t278 == 0) || (!(t279 == 0))) = true := c6
   clear c6
   by_cases c7 : (t275.length : Int) = 0
   ·rw [if_pos c7] at H
    have c7b0 : ((t275.length : Int) == 0) = true := beq_iff_eq.mpr c7
    have c7b1 : ((t275.length : Int) != 0) = false := bne_eq_false_iff_eq.mpr c7
    clear c7
    obtain rfl := Option.some.inj H
    go_enter Try.func7, Try.ntmps7
    go_wp2_with (first | ((with_reducible refine gate_callee (f := 20) rfl ?_); refine goesL_ (some 14) rfl rfl Try.func20 sq0 rfl #[] rfl sq23 ?_; (with_reducible refine (tontinelaw18_works.calls k  true _ ?side1 A3.out).mono ?_); (case side1 => exact Glob.below HG.out sq22); rintro e w8 ⟨rfl, hb⟩; refine ⟨_, rfl, ?_⟩; have n0_ := Aside0.mk (below_step sq22 hb); clear HB; have HB := n0_; clear n0_; (try clear hb); (try clear hb2); (try clear hk); (try clear hi)) | ((with_reducible refine gate_callee (f := 13) rfl ?_); refine goesL_ (some 19) rfl rfl Try.func13 sq0 rfl #[.slice A0 l0.length c0, .slice A1 l1.length c1] rfl sq23 ?_; (with_reducible refine (kind_Each.calls k _ _ l0 _ _ l1 t275 t278 t279 _ ?side5 ?side1 ?side2 ?side3 ?side4 A5.out).mono ?_); (case side1 => repeat (first | exact (Kd.C_below HR0.out HB.out) | (with_reducible refine Kd.C_alloc ?_ _) | (with_reducible refine Kd.C_drewN ?_ _) | (with_reducible refine Kd.C_drew ?_))); (case side2 => exact HC0.out); (case side3 => repeat (first | exact (Kd.C_below HR1.out HB.out) | (with_reducible refine Kd.C_alloc ?_ _) | (with_reducible refine Kd.C_drewN ?_ _) | (with_reducible refine Kd.C_drew ?_))); (case side4 => exact HC1.out); (case side5 => exact Glob.below HG.out sq22); rintro e w9 ⟨v276, rfl, ho0, hb⟩; refine ⟨_, rfl, ?_⟩; have n0_ := Aside0.mk (Kd.R_lower ho0 (below_size sq22)); have n1_ := Aside0.mk (below_step sq22 hb); clear HB; have HO277 := n0_; have HB := n1_; clear n0_ n1_; (try clear hb); (try clear hb2); (try clear hk); (try clear hi); (try clear ho0)) | ((with_reducible refine gate_dst (N := 6) rfl ?_); (try (refine gate_guard (by rfl) ?_; dsimp only)); refine box_event ?hg (N := 6) ?hd (cs := #[.int .i64 0, .int .i64 0]) (t := 28) ?hr ?_; (case hd => rfl); (case hg => rfl); (case hr => first | (go_simp; done) | (go_simp; rfl)); intro gb280 hg w10 hbox hb; have n0_ := Aside0.mk (Kd.R_below (by (with_reducible repeat (first | apply Kd.R_alloc | apply Kd.R_drewN | apply Kd.R_drew)); exact HO277.out) hb); have n1_ := Aside0.mk (below_step sq22 hb); have n2_ := Aside0.mk (hbox); have n3_ := Aside0.mk ((by rw [hg]; exact (below_size sq22) : w.heap.size ≤ gb280)); have n4_ := Aside0.mk ((by rw [hg]; exact (below_size sq22) : w.heap.size ≤ gb280)); clear HO277; clear HB; have HO277 := n0_; have HB := n1_; have BK280 := n2_; have GW280 := n3_; have GE280 := n4_; clear n0_ n1_ n2_ n3_ n4_; clear hb hbox hg; have hcz11_0 : w10.cell? ⟨gb280, 0, none⟩ = some (.int .i64 0) := (blk_cell BK280.out 0).trans rfl; have hcz11_1 : w10.cell? ⟨gb280, 1, none⟩ = some (.int .i64 0) := (blk_cell BK280.out 1).trans rfl; have hfz11_0 := blk_frozen BK280.out 0; have hfz11_1 := blk_frozen BK280.out 1; obtain ⟨Ao12, co12, eo12⟩ := Kd.R_slice HO277.out; subst eo12))
    go_ret
    exact ⟨sq6, sq35⟩
   rw [if_neg c7] at H
   have c7b0 : ((t275.length : Int) == 0) = false := beq_eq_false_iff_ne.mpr c7
   have c7b1 : ((t275.length : Int) != 0) = true := bne_iff_ne.mpr c7
   have c7b2 : ¬ (t275 = []) := fun h_ => c7 (by rw [h_]; rfl)
   obtain rfl := Option.some.inj H
   go_enter Try.func7, Try.ntmps7
   go_wp2_with (first | ((with_reducible refine gate_callee (f := 20) rfl ?_); refine goesL_ (some 14) rfl rfl Try.func20 sq0 rfl #[] rfl sq23 ?_; (with_reducible refine (tontinelaw18_works.calls k  true _ ?side1 A3.out).mono ?_); (case side1 => exact Glob.below HG.out sq22); rintro e w13 ⟨rfl, hb⟩; refine ⟨_, rfl, ?_⟩; have n0_ := Aside0.mk (below_step sq22 hb); clear HB; have HB := n0_; clear n0_; (try clear hb); (try clear hb2); (try clear hk); (try clear hi)) | ((with_reducible refine gate_callee (f := 13) rfl ?_); refine goesL_ (some 19) rfl rfl Try.func13 sq0 rfl #[.slice A0 l0.length c0, .slice A1 l1.length c1] rfl sq23 ?_; (with_reducible refine (kind_Each.calls k _ _ l0 _ _ l1 t275 t278 t279 _ ?side5 ?side1 ?side2 ?side3 ?side4 A5.out).mono ?_); (case side1 => repeat (first | exact (Kd.C_below HR0.out HB.out) | (with_reducible refine Kd.C_alloc ?_ _) | (with_reducible refine Kd.C_drewN ?_ _) | (with_reducible refine Kd.C_drew ?_))); (case side2 => exact HC0.out); (case side3 => repeat (first | exact (Kd.C_below HR1.out HB.out) | (with_reducible refine Kd.C_alloc ?_ _) | (with_reducible refine Kd.C_drewN ?_ _) | (with_reducible refine Kd.C_drew ?_))); (case side4 => exact HC1.out); (case side5 => exact Glob.below HG.out sq22); rintro e w14 ⟨v276, rfl, ho0, hb⟩; refine ⟨_, rfl, ?_⟩; have n0_ := Aside0.mk (Kd.R_lower ho0 (below_size sq22)); have n1_ := Aside0.mk (below_step sq22 hb); clear HB; have HO277 := n0_; have HB := n1_; clear n0_ n1_; (try clear hb); (try clear hb2); (try clear hk); (try clear hi); (try clear ho0)) | ((with_reducible refine gate_dst (N := 6) rfl ?_); (try (refine gate_guard (by rfl) ?_; dsimp only)); refine box_event ?hg (N := 6) ?hd (cs := #[.int .i64 0, .int .i64 0]) (t := 28) ?hr ?_; (case hd => rfl); (case hg => rfl); (case hr => first | (go_simp; done) | (go_simp; rfl)); intro gb280 hg w15 hbox hb; have n0_ := Aside0.mk (Kd.R_below (by (with_reducible repeat (first | apply Kd.R_alloc | apply Kd.R_drewN | apply Kd.R_drew)); exact HO277.out) hb); have n1_ := Aside0.mk (below_step sq22 hb); have n2_ := Aside0.mk (hbox); have n3_ := Aside0.mk ((by rw [hg]; exact (below_size sq22) : w.heap.size ≤ gb280)); have n4_ := Aside0.mk ((by rw [hg]; exact (below_size sq22) : w.heap.size ≤ gb280)); clear HO277; clear HB; have HO277 := n0_; have HB := n1_; have BK280 := n2_; have GW280 := n3_; have GE280 := n4_; clear n0_ n1_ n2_ n3_ n4_; clear hb hbox hg; have hcz16_0 : w15.cell? ⟨gb280, 0, none⟩ = some (.int .i64 0) := (blk_cell BK280.out 0).trans rfl; have hcz16_1 : w15.cell? ⟨gb280, 1, none⟩ = some (.int .i64 0) := (blk_cell BK280.out 1).trans rfl; have hfz16_0 := blk_frozen BK280.out 0; have hfz16_1 := blk_frozen BK280.out 1; obtain ⟨Ao17, co17, eo17⟩ := Kd.R_slice HO277.out; subst eo17))
   go_ret
   exact ⟨sq6, sq35⟩
  rw [if_neg c6] at H
  have c6b0 : (!(t278 == 0) || (!(t279 == 0))) = false := by simpa using c6
  clear c6
  replace H := Option.bind_eq_some_iff.mp H
  obtain ⟨⟨t281, t282, t283⟩, A180, H⟩ := H
  replace H : (if (t275.length : Int) = (l0.length : Int) then (if (t275.length : Int) = 0 then (tontinelaw18_KindParts.j0 k l0 l1 t275 true) else (if (!(t282 == 0) || (!(t283 == 0))) = true then (tontinelaw18_KindParts.j0 k l0 l1 t275 true) else (if 0 ≤ (wrap64 ((t275.length : Int) - 1)) then (if (wrap64 ((t275.length : Int) - 1)) < (t275.length : Int) then (tontinelaw18_KindParts.j0 k l0 l1 t275 (t281 != (rd t275 (wrap64 ((t275.length : Int) - 1))))) else (none)) else (none)))) else (tontinelaw18_KindParts.j0 k l0 l1 t275 true)) = some r := H
  have A18 := Aside0.mk A180
  clear A180
  have HC19 := Aside0.mk H
  clear H
  go_enter Try.func7, Try.ntmps7
  go_upto_region 7 with (first | ((with_reducible refine gate_callee (f := 20) rfl ?_); refine goesL_ (some 14) rfl rfl Try.func20 sq0 rfl #[] rfl sq23 ?_; (with_reducible refine (tontinelaw18_works.calls k  true _ ?side1 A3.out).mono ?_); (case side1 => exact Glob.below HG.out sq22); rintro e w20 ⟨rfl, hb⟩; refine ⟨_, rfl, ?_⟩; have n0_ := Aside0.mk (below_step sq22 hb); clear HB; have HB := n0_; clear n0_; (try clear hb); (try clear hb2); (try clear hk); (try clear hi)) | ((with_reducible refine gate_callee (f := 13) rfl ?_); refine goesL_ (some 19) rfl rfl Try.func13 sq0 rfl #[.slice A0 l0.length c0, .slice A1 l1.length c1] rfl sq23 ?_; (with_reducible refine (kind_Each.calls k _ _ l0 _ _ l1 t275 t278 t279 _ ?side5 ?side1 ?side2 ?side3 ?side4 A5.out).mono ?_); (case side1 => repeat (first | exact (Kd.C_below HR0.out HB.out) | (with_reducible refine Kd.C_alloc ?_ _) | (with_reducible refine Kd.C_drewN ?_ _) | (with_reducible refine Kd.C_drew ?_))); (case side2 => exact HC0.out); (case side3 => repeat (first | exact (Kd.C_below HR1.out HB.out) | (with_reducible refine Kd.C_alloc ?_ _) | (with_reducible refine Kd.C_drewN ?_ _) | (with_reducible refine Kd.C_drew ?_))); (case side4 => exact HC1.out); (case side5 => exact Glob.below HG.out sq22); rintro e w21 ⟨v276, rfl, ho0, hb⟩; refine ⟨_, rfl, ?_⟩; have n0_ := Aside0.mk (Kd.R_lower ho0 (below_size sq22)); have n1_ := Aside0.mk (below_step sq22 hb); clear HB; have HO277 := n0_; have HB := n1_; clear n0_ n1_; (try clear hb); (try clear hb2); (try clear hk); (try clear hi); (try clear ho0)) | ((with_reducible refine gate_dst (N := 6) rfl ?_); (try (refine gate_guard (by rfl) ?_; dsimp only)); refine box_event ?hg (N := 6) ?hd (cs := #[.int .i64 0, .int .i64 0]) (t := 28) ?hr ?_; (case hd => rfl); (case hg => rfl); (case hr => first | (go_simp; done) | (go_simp; rfl)); intro gb280 hg w22 hbox hb; have n0_ := Aside0.mk (Kd.R_below (by (with_reducible repeat (first | apply Kd.R_alloc | apply Kd.R_drewN | apply Kd.R_drew)); exact HO277.out) hb); have n1_ := Aside0.mk (below_step sq22 hb); have n2_ := Aside0.mk (hbox); have n3_ := Aside0.mk ((by rw [hg]; exact (below_size sq22) : w.heap.size ≤ gb280)); have n4_ := Aside0.mk ((by rw [hg]; exact (below_size sq22) : w.heap.size ≤ gb280)); clear HO277; clear HB; have HO277 := n0_; have HB := n1_; have BK280 := n2_; have GW280 := n3_; have GE280 := n4_; clear n0_ n1_ n2_ n3_ n4_; clear hb hbox hg; have hcz23_0 : w22.cell? ⟨gb280, 0, none⟩ = some (.int .i64 0) := (blk_cell BK280.out 0).trans rfl; have hcz23_1 : w22.cell? ⟨gb280, 1, none⟩ = some (.int .i64 0) := (blk_cell BK280.out 1).trans rfl; have hfz23_0 := blk_frozen BK280.out 0; have hfz23_1 := blk_frozen BK280.out 1) | ((with_reducible refine gate_callee (f := 10) rfl ?_); refine goesL_ (some 36) rfl rfl Try.func10 sq0 rfl #[.slice A0 l0.length c0, .slice A1 l1.length c1] rfl sq23 ?_; (with_reducible refine (kind_Of.calls k _ _ l0 _ _ l1 t281 t282 t283 _ ?side5 ?side1 ?side2 ?side3 ?side4 A18.out).mono ?_); (case side1 => exact Kd.C_below HR0.out sq35); (case side2 => exact HC0.out); (case side3 => exact Kd.C_below HR1.out sq35); (case side4 => exact HC1.out); (case side5 => exact Glob.below HG.out sq35); rintro e w24 ⟨rfl, hb⟩; refine ⟨_, rfl, ?_⟩; have n0_ := Aside0.mk (Kd.R_below (by (with_reducible repeat (first | apply Kd.R_alloc | apply Kd.R_drewN | apply Kd.R_drew)); exact (Kd.R_mono (Kd.R_far (p := ⟨gb280, 1, none⟩) (Kd.R_far (p := ⟨gb280, 0, none⟩) (Kd.R_types HO277.out BK280.out (by decide)) (fun _ hk => hk.2) (.int .i64 t278)) (fun _ hk => hk.2) (.int .i64 t279)) (fun _ h_ => h_.1))) hb); have n1_ := Aside0.mk (blk_below (g := gb280) (o := .cells #[.int .i64 t278, .int .i64 t279] 28 (0, 0)) (by (with_reducible repeat (first | refine blk_drewN ?_ _ | refine blk_drew ?_ | refine blk_alloc ?_ _)); refine blk_put (cs := #[.int .i64 t278, .int .i64 0]) ?_ 1 _ rfl; (with_reducible repeat (first | refine blk_drewN ?_ _ | refine blk_drew ?_ | refine blk_alloc ?_ _)); refine blk_put (cs := #[.int .i64 0, .int .i64 0]) ?_ 0 _ rfl; (with_reducible repeat (first | refine blk_drewN ?_ _ | refine blk_drew ?_ | refine blk_alloc ?_ _)); exact BK280.out) hb); have n2_ := Aside0.mk (below_step sq35 hb); clear HO277; clear BK280; clear HB; have HO277 := n0_; have BK280 := n1_; have HB := n2_; clear n0_ n1_ n2_; (try clear hb); (try clear hb2); (try clear hk); (try clear hi); have hcz25_0 : w24.cell? ⟨gb280, 0, none⟩ = some (.int .i64 t278) := (blk_cell BK280.out 0).trans rfl; have hcz25_1 : w24.cell? ⟨gb280, 1, none⟩ = some (.int .i64 t279) := (blk_cell BK280.out 1).trans rfl; have hfz25_0 := blk_frozen BK280.out 0; have hfz25_1 := blk_frozen BK280.out 1))
  (try simp only [Act.put, List.setIfInBounds_toArray, List.set_cons_zero, List.set_cons_succ])
  go_cut [63] (fun v63 wc => ∃ (kq : Nat) (x63_18 : Bool), v63 = .bool x63_18 ∧ Aside0 (tontinelaw18_KindParts.j0 kq l0 l1 t275 x63_18 = some r) ∧ Aside0 (kq ≤ k) ∧ Aside0 (Kd.R (Kd.int .i64) 3 wc w.heap.size (fun _ => True) v276 t275) ∧ Aside0 (wc.heap[gb280]? = some (.cells #[.int .i64 t282, .int .i64 t283] 28 (0, 0))) ∧ Aside0 (Below w.heap.size w wc))
  case first =>
   have H := HC19.out
   clear HC19
   by_cases c26 : (t275.length : Int) = (l0.length : Int)
   ·rw [if_pos c26] at H
    have c26b0 : ((t275.length : Int) == (l0.length : Int)) = true := beq_iff_eq.mpr c26
    have c26b1 : ((t275.length : Int) != (l0.length : Int)) = false := bne_eq_false_iff_eq.mpr c26
    have c26b2 : (t275.length == l0.length) = true := by first | simpa using c26 | (simp at c26 ⊢; omega)
    clear c26
    (first | rw [c26b0] | (simp only [i64_w, i32_w]; rw [c26b0]) | skip)
    by_cases c27 : (t275.length : Int) = 0
    ·rw [if_pos c27] at H
     have c27b0 : ((t275.length : Int) == 0) = true := beq_iff_eq.mpr c27
     have c27b1 : ((t275.length : Int) != 0) = false := bne_eq_false_iff_eq.mpr c27
     clear c27
     have H' := Aside0.mk H
     clear H
     obtain ⟨Ao28, co28, eo28⟩ := Kd.R_slice HO277.out
     subst eo28
     go_wp2
     go_meet
     case rel => exact ⟨_, (true), sq2, H', ⟨sq1⟩, ⟨sq50⟩, ⟨sq60⟩, ⟨sq35⟩⟩
    rw [if_neg c27] at H
    have c27b0 : ((t275.length : Int) == 0) = false := beq_eq_false_iff_ne.mpr c27
    have c27b1 : ((t275.length : Int) != 0) = true := bne_iff_ne.mpr c27
    have c27b2 : ¬ (t275 = []) := fun h_ => c27 (by rw [h_]; rfl)
    by_cases c29 : (!(t282 == 0) || (!(t283 == 0))) = true
    ·rw [if_pos c29] at H
     have c29b0 : (!(t282 == 0) || (!(t283 == 0))) = true := c29
     clear c29
     have H' := Aside0.mk H
     clear H
     obtain ⟨Ao30, co30, eo30⟩ := Kd.R_slice HO277.out
     subst eo30
     have hcz31_0 : w24.cell? ⟨gb280, 0, none⟩ = some (.int .i64 t278) := (blk_cell BK280.out 0).trans rfl
     have hcz31_1 : w24.cell? ⟨gb280, 1, none⟩ = some (.int .i64 t279) := (blk_cell BK280.out 1).trans rfl
     have hfz31_0 := blk_frozen BK280.out 0
     have hfz31_1 := blk_frozen BK280.out 1
     go_wp2
     go_meet
     case rel => exact ⟨_, (true), sq2, H', ⟨sq1⟩, ⟨sq50⟩, ⟨sq60⟩, ⟨sq35⟩⟩
    rw [if_neg c29] at H
    have c29b0 : (!(t282 == 0) || (!(t283 == 0))) = false := by simpa using c29
    clear c29
    obtain ⟨ji32, hji32⟩ : ∃ j_ : Int, (wrap64 ((t275.length : Int) - 1)) = j_ := ⟨_, rfl⟩
    replace H : (if 0 ≤ (ji32) then (if (ji32) < (t275.length : Int) then (tontinelaw18_KindParts.j0 k l0 l1 t275 (t281 != (rd t275 (ji32)))) else (none)) else (none)) = some r := by first | (rw [hji32] at H; exact H) | (simp only [hji32] at H ⊢; exact H)
    have hji32w : (IntKind.i64.wrap ((t275.length : Int) - 1)) = ji32 := (i64_w _).trans hji32
    by_cases c33 : 0 ≤ (ji32)
    ·rw [if_pos c33] at H
     have c33b0 : decide (0 ≤ (ji32)) = true := decide_eq_true c33
     clear c33
     by_cases c34 : (ji32) < (t275.length : Int)
     ·rw [if_pos c34] at H
      have c34b0 : decide ((ji32) < (t275.length : Int)) = true := decide_eq_true c34
      clear c34
      have H' := Aside0.mk H
      clear H
      obtain ⟨Ao35, co35, eo35⟩ := Kd.R_slice HO277.out
      subst eo35
      have hcz36_0 : w24.cell? ⟨gb280, 0, none⟩ = some (.int .i64 t278) := (blk_cell BK280.out 0).trans rfl
      have hcz36_1 : w24.cell? ⟨gb280, 1, none⟩ = some (.int .i64 t279) := (blk_cell BK280.out 1).trans rfl
      have hfz36_0 := blk_frozen BK280.out 0
      have hfz36_1 := blk_frozen BK280.out 1
      have p284 : 0 ≤ ((ji32) : Int) := of_decide_eq_true sq3
      have q284 : (ji32) < (t275.length : Int) := of_decide_eq_true sq3
      obtain ⟨ad284, e284, hx284_0⟩ := Kd.at_int (Kd.R_reads' HO277.out).2.2 (ji32) p284 q284
      cases e284
      have hn284_0 : ad284.block ≠ gb280 := Kd.own_blk (Kd.R_ne HO277.out BK280.out (by decide))
      have hn284_1 : ad284.block ≠ gb280 := Kd.own_blk (Kd.R_ne HO277.out BK280.out (by decide))
      replace hx284_0 := (cell_far (p := ⟨gb280, 0, none⟩) (by first | (rw [add_block]; exact hn284_0) | (show (Addr.add _ _).block ≠ _; rw [add_block]; exact hn284_0) | exact hn284_0) (.int .i64 t282)).trans hx284_0
      replace hx284_0 := (cell_far (p := ⟨gb280, 1, none⟩) (by first | (rw [add_block]; exact hn284_1) | (show (Addr.add _ _).block ≠ _; rw [add_block]; exact hn284_1) | exact hn284_1) (.int .i64 t283)).trans hx284_0
      clear hn284_0; clear hn284_1
      replace p284 := eq_true p284
      replace q284 := eq_true q284
      go_wp2
      go_meet
      case rel => exact ⟨_, ((t281 != (rd t275 (ji32)))), (by first | rfl | (simp; done) | (simp only [← hji32] <;> (first | rfl | simp)) | (simp [*]; done)), H', ⟨sq1⟩, ⟨sq50⟩, ⟨sq60⟩, ⟨sq35⟩⟩
     rw [if_neg c34] at H
     exact absurd H (by simp)
    rw [if_neg c33] at H
    exact absurd H (by simp)
   rw [if_neg c26] at H
   have c26b0 : ((t275.length : Int) == (l0.length : Int)) = false := beq_eq_false_iff_ne.mpr c26
   have c26b1 : ((t275.length : Int) != (l0.length : Int)) = true := bne_iff_ne.mpr c26
   have c26b2 : (t275.length == l0.length) = false := by first | simpa using c26 | (simp at c26 ⊢; omega)
   (first | rw [c26b0] | (simp only [i64_w, i32_w]; rw [c26b0]) | skip)
   have H' := Aside0.mk H
   clear H
   obtain ⟨Ao37, co37, eo37⟩ := Kd.R_slice HO277.out
   subst eo37
   go_wp2
   go_meet
   case rel => exact ⟨_, (true), sq2, H', ⟨sq1⟩, ⟨sq50⟩, ⟨sq60⟩, ⟨sq35⟩⟩
  case rest =>
   clear HC19; try clear c1; try clear c2; try clear p2; try clear q2; try clear hx2; try clear c3; try clear c4; try clear c6; try clear c6b0; try clear p6; try clear c7; try clear c7b0; try clear c7b1; try clear c7b2; try clear c10; try clear c13; try clear c20; try clear c26; try clear c26b0; try clear c26b1; try clear c26b2; try clear c27; try clear c27b0; try clear c27b1; try clear c27b2; try clear p28; try clear q28; try clear hx28; try clear c29; try clear c29b0; try clear c33; try clear c33b0; try clear c34; try clear c34b0; try clear hcz11_0; try clear hcz11_1; try clear hcz16_0; try clear hcz16_1; try clear hcz23_0; try clear hcz23_1; try clear hcz25_0; try clear hcz25_1; try clear hcz31_0; try clear hcz31_1; try clear hcz36_0; try clear hcz36_1; try clear hfz11_0; try clear hfz11_1; try clear hfz16_0; try clear hfz16_1; try clear hfz23_0; try clear hfz23_1; try clear hfz25_0; try clear hfz25_1; try clear hfz31_0; try clear hfz31_1; try clear hfz36_0; try clear hfz36_1; try clear hx284_0; try clear p284; try clear q284
   obtain ⟨kq, x63_18, rfl, HA, HJ18, HO_5, BK280, HB⟩ := hcut
   cases kq with
   | zero => exact absurd HA.out (by simp [tontinelaw18_KindParts.j0])
   | succ kj18 =>
    have H := HA.out
    clear HA
    simp only [tontinelaw18_KindParts.j0] at H
    by_cases c38 : x63_18 = true
    ·subst c38
     have H1 : (some false) = some r := by rw [if_pos rfl] at H; exact H
     clear H
     have H := H1
     clear H1
     obtain rfl := Option.some.inj H
     go_wp2
     go_ret
     exact ⟨sq6, sq35⟩
    replace c38 := Bool.eq_false_iff.mpr c38
    subst c38
    have H1 : (tontinelaw18_KindParts.l0 kj18 l0 l1 t275 (l0.length : Int) 0) = some r := by rw [if_neg (show ¬ (false = true) by decide)] at H; exact H
    clear H
    have H := H1
    clear H1
    have H' := Aside0.mk H
    clear H
    go_wp2
    go_loopg [66] kj18 (fun kq v66 w' => ∃ (x66_2 : Int), v66 = .int .i64 x66_2 ∧ Aside0 (tontinelaw18_KindParts.l0 kq l0 l1 t275 (l0.length : Int) x66_2 = some r) ∧ Aside0 (kq ≤ kj18) ∧ Aside0 (Kd.R (Kd.int .i64) 3 w' w.heap.size (fun _ => True) v276 t275) ∧ Aside0 (w'.heap[gb280]? = some (.cells #[.int .i64 t282, .int .i64 t283] 28 (0, 0))) ∧ Aside0 (Below w.heap.size w w'))
    case atStart => exact ⟨(0), sq2, H', ⟨Nat.le_refl _⟩, ⟨sq10⟩, ⟨sq21⟩, ⟨sq35⟩⟩
    case round =>
     clear H'
     try clear c1; try clear c2; try clear p2; try clear q2; try clear hx2; try clear c3; try clear c4; try clear c6; try clear c6b0; try clear p6; try clear c7; try clear c7b0; try clear c7b1; try clear c7b2; try clear c10; try clear c13; try clear c20; try clear c26; try clear c26b0; try clear c26b1; try clear c26b2; try clear c27; try clear c27b0; try clear c27b1; try clear c27b2; try clear p28; try clear q28; try clear hx28; try clear c29; try clear c29b0; try clear c33; try clear c33b0; try clear c34; try clear c34b0; try clear c38; try clear hcz11_0; try clear hcz11_1; try clear hcz16_0; try clear hcz16_1; try clear hcz23_0; try clear hcz23_1; try clear hcz25_0; try clear hcz25_1; try clear hcz31_0; try clear hcz31_1; try clear hcz36_0; try clear hcz36_1; try clear hfz11_0; try clear hfz11_1; try clear hfz16_0; try clear hfz16_1; try clear hfz23_0; try clear hfz23_1; try clear hfz25_0; try clear hfz25_1; try clear hfz31_0; try clear hfz31_1; try clear hfz36_0; try clear hfz36_1; try clear hx284_0; try clear p2; try clear p28; try clear p284; try clear p6; try clear q2; try clear q28; try clear q284
     obtain ⟨x66_2, rfl, HA, HK2, HO_5, BK280, HB⟩ := hrel
     cases gk with
     | zero => exact absurd HA.out (by simp [tontinelaw18_KindParts.l0])
     | succ k2 =>
      have H := HA.out
      clear HA
      simp only [tontinelaw18_KindParts.l0] at H
      by_cases c39 : x66_2 < (l0.length : Int)
      ·rw [if_pos c39] at H
       have c39b0 : decide (x66_2 < (l0.length : Int)) = true := decide_eq_true c39
       clear c39
       have H' := Aside0.mk H
       clear H
       go_wp2
       go_loopg [10] k2 (fun kq v10 w' => ∃ (x10_3 : Int), v10 = .int .i64 x10_3 ∧ Aside0 (tontinelaw18_KindParts.l1 kq l0 l1 t275 x66_2 x10_3 (l0.length : Int) x66_2 = some r) ∧ Aside0 (kq ≤ k2) ∧ Aside0 (Kd.R (Kd.int .i64) 3 w' w.heap.size (fun _ => True) v276 t275) ∧ Aside0 (w'.heap[gb280]? = some (.cells #[.int .i64 t282, .int .i64 t283] 28 (0, 0))) ∧ Aside0 (Below w.heap.size w w'))
       case atStart => exact ⟨(x66_2), sq2, H', ⟨Nat.le_refl _⟩, ⟨sq10⟩, ⟨sq21⟩, ⟨sq35⟩⟩
       case round =>
        clear H'
        try clear c1; try clear c2; try clear p2; try clear q2; try clear hx2; try clear c3; try clear c4; try clear c6; try clear c6b0; try clear p6; try clear c7; try clear c7b0; try clear c7b1; try clear c7b2; try clear c10; try clear c13; try clear c20; try clear c26; try clear c26b0; try clear c26b1; try clear c26b2; try clear c27; try clear c27b0; try clear c27b1; try clear c27b2; try clear p28; try clear q28; try clear hx28; try clear c29; try clear c29b0; try clear c33; try clear c33b0; try clear c34; try clear c34b0; try clear c38; try clear c39; try clear c39b0; try clear hcz11_0; try clear hcz11_1; try clear hcz16_0; try clear hcz16_1; try clear hcz23_0; try clear hcz23_1; try clear hcz25_0; try clear hcz25_1; try clear hcz31_0; try clear hcz31_1; try clear hcz36_0; try clear hcz36_1; try clear hfz11_0; try clear hfz11_1; try clear hfz16_0; try clear hfz16_1; try clear hfz23_0; try clear hfz23_1; try clear hfz25_0; try clear hfz25_1; try clear hfz31_0; try clear hfz31_1; try clear hfz36_0; try clear hfz36_1; try clear hx284_0; try clear p2; try clear p28; try clear p284; try clear p6; try clear q2; try clear q28; try clear q284
        obtain ⟨x10_3, rfl, HA, HK3, HO_5, BK280, HB⟩ := hrel
        cases gk with
        | zero => exact absurd HA.out (by simp [tontinelaw18_KindParts.l1])
        | succ k3 =>
         have H := HA.out
         clear HA
         simp only [tontinelaw18_KindParts.l1] at H
         replace H := Option.bind_eq_some_iff.mp H
         obtain ⟨t285, A400, H⟩ := H
         replace H : (if (t285.length : Int) = 0 then (if 0 ≤ x10_3 then (if x10_3 ≤ (wrap64 (x66_2 + 1)) then (if (wrap64 (x66_2 + 1)) ≤ (l0.length : Int) then ((kind_Of.f k3 ((l0.take ((wrap64 (x66_2 + 1)) : Int).toNat).drop (x10_3 : Int).toNat) l1).bind fun bt292 => (if 0 ≤ x66_2 then (if x66_2 < (t275.length : Int) then (if bt292.1 = (rd t275 x66_2) then (if (!(bt292.2.1 == 0) || (!(bt292.2.2 == 0))) = true then (some false) else (tontinelaw18_KindParts.l0 k3 l0 l1 t275 (l0.length : Int) (wrap64 (x66_2 + 1)))) else (some false)) else (none)) else (none))) else (none)) else (none)) else (none)) else (if 0 < (t285.length : Int) then (if (rd t285 0) ≥ x10_3 then (some false) else (tontinelaw18_KindParts.l1 k3 l0 l1 t275 x66_2 (rd t285 0) (l0.length : Int) x66_2)) else (none))) = some r := H
         have A40 := Aside0.mk A400
         clear A400
         by_cases c41 : (t285.length : Int) = 0
         ·rw [if_pos c41] at H
          have c41b0 : ((t285.length : Int) == 0) = true := beq_iff_eq.mpr c41
          have c41b1 : ((t285.length : Int) != 0) = false := bne_eq_false_iff_eq.mpr c41
          clear c41
          by_cases c42 : 0 ≤ x10_3
          ·rw [if_pos c42] at H
           have c42b0 := eq_true c42
           have c42b1 : decide (0 ≤ x10_3) = true := decide_eq_true c42
           clear c42
           by_cases c43 : x10_3 ≤ (wrap64 (x66_2 + 1))
           ·rw [if_pos c43] at H
            have c43b0 := eq_true c43
            have c43b1 : decide (x10_3 ≤ (wrap64 (x66_2 + 1))) = true := decide_eq_true c43
            by_cases c44 : (wrap64 (x66_2 + 1)) ≤ (l0.length : Int)
            ·rw [if_pos c44] at H
             have c44b0 := eq_true c44
             have c44b1 : decide ((wrap64 (x66_2 + 1)) ≤ (l0.length : Int)) = true := decide_eq_true c44
             obtain ⟨y288, hy288⟩ : ∃ y_ : List (S56), y_ = ((l0.take ((wrap64 (x66_2 + 1)) : Int).toNat).drop (x10_3 : Int).toNat) := ⟨_, rfl⟩
             replace H : ((kind_Of.f k3 y288 l1).bind fun bt292 => (if 0 ≤ x66_2 then (if x66_2 < (t275.length : Int) then (if bt292.1 = (rd t275 x66_2) then (if (!(bt292.2.1 == 0) || (!(bt292.2.2 == 0))) = true then (some false) else (tontinelaw18_KindParts.l0 k3 l0 l1 t275 (l0.length : Int) (wrap64 (x66_2 + 1)))) else (some false)) else (none)) else (none))) = some r := by first | (rw [hy288]; with_reducible exact H) | (have H2_ := (Option.bind_some _ _).symm.trans H; rw [hy288]; with_reducible exact H2_) | (have H2_ := (Option.bind_some _ _).symm.trans H; with_reducible exact H2_) | with_reducible exact H | (rw [hy288]; exact H) | exact H
             have Ny288 := Aside0.mk hy288
             clear hy288
             replace H := Option.bind_eq_some_iff.mp H
             obtain ⟨⟨t292, t293, t294⟩, A450, H⟩ := H
             replace H : (if 0 ≤ x66_2 then (if x66_2 < (t275.length : Int) then (if t292 = (rd t275 x66_2) then (if (!(t293 == 0) || (!(t294 == 0))) = true then (some false) else (tontinelaw18_KindParts.l0 k3 l0 l1 t275 (l0.length : Int) (wrap64 (x66_2 + 1)))) else (some false)) else (none)) else (none)) = some r := H
             have A45 := Aside0.mk A450
             clear A450
             by_cases c46 : 0 ≤ x66_2
             ·rw [if_pos c46] at H
              have c46b0 : decide (0 ≤ x66_2) = true := decide_eq_true c46
              clear c46
              by_cases c47 : x66_2 < (t275.length : Int)
              ·rw [if_pos c47] at H
               have c47b0 : decide (x66_2 < (t275.length : Int)) = true := decide_eq_true c47
               clear c47
               by_cases c48 : t292 = (rd t275 x66_2)
               ·rw [if_pos c48] at H
                have c48b0 : (t292 == (rd t275 x66_2)) = true := beq_iff_eq.mpr c48
                have c48b1 : (t292 != (rd t275 x66_2)) = false := bne_eq_false_iff_eq.mpr c48
                clear c48
                by_cases c49 : (!(t293 == 0) || (!(t294 == 0))) = true
                ·rw [if_pos c49] at H
                 have c49b0 : (!(t293 == 0) || (!(t294 == 0))) = true := c49
                 clear c49
                 obtain rfl := Option.some.inj H
                 go_wp2_with (first | ((with_reducible refine gate_callee (f := 23) rfl ?_); refine goesL_ (some 73) rfl rfl Try.func23 sq0 rfl #[.slice A0 l0.length c0, .int .i64 x10_3] rfl sq23 ?_; (with_reducible refine (clause_Parts.calls k3 _ _ l0 x10_3 t285 _ ?side3 ?side1 ?side2 A40.out).mono ?_); (case side1 => repeat (first | exact (Kd.C_below HR0.out HB.out) | (with_reducible refine Kd.C_alloc ?_ _) | (with_reducible refine Kd.C_drewN ?_ _) | (with_reducible refine Kd.C_drew ?_))); (case side2 => exact HC0.out); (case side3 => exact Glob.below HG.out sq35); rintro e w50 ⟨v286, rfl, ho0, hb⟩; refine ⟨_, rfl, ?_⟩; have n0_ := Aside0.mk (Kd.R_elder' sq10 (Kd.R_base ho0) hb); have n1_ := Aside0.mk (Kd.R_lower (Kd.R_new' ho0 (Kd.R_lt sq10)) (below_size sq35)); have n2_ := Aside0.mk (blk_below (g := gb280) (o := .cells #[.int .i64 t282, .int .i64 t283] 28 (0, 0)) sq21 hb); have n3_ := Aside0.mk (below_step sq35 hb); clear HO_5; clear BK280; clear HB; have HO_5 := n0_; have HO287 := n1_; have BK280 := n2_; have HB := n3_; clear n0_ n1_ n2_ n3_; (try clear hb); (try clear hb2); (try clear hk); (try clear hi); (try clear ho0); obtain ⟨Ao51, co51, eo51⟩ := Kd.R_slice HO287.out; subst eo51; have q52 : ((wrap64 (x66_2 + 1)) : Int) ≤ ((l0.length : Int) : Int) := of_decide_eq_true sq3; obtain ⟨i052, hi052, _, hsz52, _⟩ := info_parts info56; have hroom52 : l0.length ≤ c0 := HC0.out; have hC52 : Kd.C k56 _ A0 l0.length l0 := HR0.out; have ql52 : (x10_3 : Int) ≤ ((wrap64 (x66_2 + 1)) : Int) := of_decide_eq_true sq3; have q052 : (0 : Int) ≤ (x10_3 : Int) := of_decide_eq_true sq3; have hcut52 := cut_mid (P := Try.prog) 23 56 .i64 .i64 Try.underlying23 hi052 3 hsz52 A0 l0.length c0 x10_3 (wrap64 (x66_2 + 1)) q052 ql52 q52 hroom52; have hr52 := Kd.C_mid (lo := (x10_3 : Int).toNat) (hi := ((wrap64 (x66_2 + 1)) : Int).toNat) (c := c0) hC52 (by omega) (by omega) hroom52; obtain ⟨A52, hA52⟩ : ∃ A1, A1 = (if c0 = (x10_3 : Int).toNat then A0 else (A0 : Option Addr).map (·.add ((x10_3 : Int).toNat * 3))) := ⟨_, rfl⟩; obtain ⟨c52, hc52⟩ : ∃ c1, c1 = c0 - (x10_3 : Int).toNat := ⟨_, rfl⟩; have hy52 : y288.length = ((wrap64 (x66_2 + 1)) : Int).toNat - (x10_3 : Int).toNat := (by rw [Ny288.out, List.length_drop, List.length_take] <;> omega); rw [show ((l0).take ((wrap64 (x66_2 + 1)) : Int).toNat).drop (x10_3 : Int).toNat = y288 from Ny288.out.symm] at hr52; replace hr52 : Kd.C k56 _ A52 y288.length y288 := (by rw [hA52]; exact hr52); rw [← hy52, ← hA52, ← hc52] at hcut52; have HR291 := Aside0.mk hr52; have HC291 := Aside0.mk (show y288.length ≤ c52 from by rw [hy52, hc52]; exact Nat.sub_le_sub_right (Nat.le_trans (by omega) hroom52) _); clear hr52 hC52 hroom52 hi052 hsz52 hc52; have KY52 := Aside0.mk hy52; have KA52 := Aside0.mk hA52; clear hy52 hA52; replace q52 := eq_true q52) | ((with_reducible refine gate_callee (f := 10) rfl ?_); refine goesL_ (some 93) rfl rfl Try.func10 sq0 rfl #[.slice A52 y288.length c52, .slice A1 l1.length c1] rfl sq23 ?_; (with_reducible refine (kind_Of.calls k3 _ _ y288 _ _ l1 t292 t293 t294 _ ?side5 ?side1 ?side2 ?side3 ?side4 A45.out).mono ?_); (case side1 => repeat (first | exact (Kd.C_below HR291.out HB.out) | (with_reducible refine Kd.C_alloc ?_ _) | (with_reducible refine Kd.C_drewN ?_ _) | (with_reducible refine Kd.C_drew ?_))); (case side2 => exact HC291.out); (case side3 => repeat (first | exact (Kd.C_below HR1.out HB.out) | (with_reducible refine Kd.C_alloc ?_ _) | (with_reducible refine Kd.C_drewN ?_ _) | (with_reducible refine Kd.C_drew ?_))); (case side4 => exact HC1.out); (case side5 => exact Glob.below HG.out sq35); rintro e w53 ⟨rfl, hb⟩; refine ⟨_, rfl, ?_⟩; have n0_ := Aside0.mk (Kd.R_below sq10 hb); have n1_ := Aside0.mk (Kd.R_below sq14 hb); have n2_ := Aside0.mk (blk_below (g := gb280) (o := .cells #[.int .i64 t282, .int .i64 t283] 28 (0, 0)) sq21 hb); have n3_ := Aside0.mk (below_step sq35 hb); clear HO_5; clear HO287; clear BK280; clear HB; have HO_5 := n0_; have HO287 := n1_; have BK280 := n2_; have HB := n3_; clear n0_ n1_ n2_ n3_; (try clear hb); (try clear hb2); (try clear hk); (try clear hi)) | ((with_reducible refine gate_dst (N := 13) rfl ?_); (try (refine gate_guard (by rfl) ?_; dsimp only)); refine box_event ?hg (N := 13) ?hd (cs := #[.int .i64 0, .int .i64 0]) (t := 28) ?hr ?_; (case hd => rfl); (case hg => rfl); (case hr => first | (go_simp; done) | (go_simp; rfl)); intro gb295 hg w54 hbox hb; have n0_ := Aside0.mk (Kd.R_below sq10 hb); have n1_ := Aside0.mk (Kd.R_below sq14 hb); have n2_ := Aside0.mk (blk_below (g := gb280) (o := .cells #[.int .i64 t282, .int .i64 t283] 28 (0, 0)) sq21 hb); have n3_ := Aside0.mk (below_step sq35 hb); have n4_ := Aside0.mk (hbox); have n5_ := Aside0.mk ((by rw [hg]; exact (below_size sq35) : w.heap.size ≤ gb295)); have n6_ := Aside0.mk ((by rw [hg]; exact (below_size sq35) : w.heap.size ≤ gb295)); have n7_ := Aside0.mk ((by rw [hg]; exact Nat.ne_of_lt (blk_lt (g := gb280) (o := .cells #[.int .i64 t282, .int .i64 t283] 28 (0, 0)) sq21) : gb280 ≠ gb295)); have n8_ := Aside0.mk ((by rw [hg]; exact Nat.ne_of_gt (blk_lt (g := gb280) (o := .cells #[.int .i64 t282, .int .i64 t283] 28 (0, 0)) sq21) : gb295 ≠ gb280)); clear HO_5; clear HO287; clear BK280; clear HB; have HO_5 := n0_; have HO287 := n1_; have BK280 := n2_; have HB := n3_; have BK295 := n4_; have GW295 := n5_; have GE295 := n6_; have NB280_295 := n7_; have NB295_280 := n8_; clear n0_ n1_ n2_ n3_ n4_ n5_ n6_ n7_ n8_; clear hb hbox hg; have hnb55 := NB295_280.out; have hnc55 := NB280_295.out; have hcz56_0 : w54.cell? ⟨gb295, 0, none⟩ = some (.int .i64 0) := (blk_cell BK295.out 0).trans rfl; have hcz56_1 : w54.cell? ⟨gb295, 1, none⟩ = some (.int .i64 0) := (blk_cell BK295.out 1).trans rfl; have hfz56_0 := blk_frozen BK295.out 0; have hfz56_1 := blk_frozen BK295.out 1; obtain ⟨Ao57, co57, eo57⟩ := Kd.R_slice HO_5.out; subst eo57; have p296 : 0 ≤ (x66_2 : Int) := of_decide_eq_true sq3; have q296 : x66_2 < (t275.length : Int) := of_decide_eq_true sq3; obtain ⟨ad296, e296, hx296_0⟩ := Kd.at_int (Kd.R_reads' HO_5.out).2.2 x66_2 p296 q296; cases e296; have hn296_0 : ad296.block ≠ gb295 := Kd.own_blk (Kd.R_ne HO_5.out BK295.out (by decide)); have hn296_1 : ad296.block ≠ gb295 := Kd.own_blk (Kd.R_ne HO_5.out BK295.out (by decide)); replace hx296_0 := (cell_far (p := ⟨gb295, 0, none⟩) (by first | (rw [add_block]; exact hn296_0) | (show (Addr.add _ _).block ≠ _; rw [add_block]; exact hn296_0) | exact hn296_0) (.int .i64 t293)).trans hx296_0; replace hx296_0 := (cell_far (p := ⟨gb295, 1, none⟩) (by first | (rw [add_block]; exact hn296_1) | (show (Addr.add _ _).block ≠ _; rw [add_block]; exact hn296_1) | exact hn296_1) (.int .i64 t294)).trans hx296_0; clear hn296_0; clear hn296_1; replace p296 := eq_true p296; replace q296 := eq_true q296))
                 go_ret
                 exact ⟨sq6, by repeat (first | (with_reducible first | exact HB.out | apply below_alloc | apply pw_below_drewN | apply below_drew1 | refine below_set ?_ GE280.out | refine below_set ?_ GE295.out) | exact HB.out)⟩
                rw [if_neg c49] at H
                have c49b0 : (!(t293 == 0) || (!(t294 == 0))) = false := by simpa using c49
                clear c49
                have H' := Aside0.mk H
                clear H
                go_wp2_with (first | ((with_reducible refine gate_callee (f := 23) rfl ?_); refine goesL_ (some 73) rfl rfl Try.func23 sq0 rfl #[.slice A0 l0.length c0, .int .i64 x10_3] rfl sq23 ?_; (with_reducible refine (clause_Parts.calls k3 _ _ l0 x10_3 t285 _ ?side3 ?side1 ?side2 A40.out).mono ?_); (case side1 => repeat (first | exact (Kd.C_below HR0.out HB.out) | (with_reducible refine Kd.C_alloc ?_ _) | (with_reducible refine Kd.C_drewN ?_ _) | (with_reducible refine Kd.C_drew ?_))); (case side2 => exact HC0.out); (case side3 => exact Glob.below HG.out sq35); rintro e w58 ⟨v286, rfl, ho0, hb⟩; refine ⟨_, rfl, ?_⟩; have n0_ := Aside0.mk (Kd.R_elder' sq10 (Kd.R_base ho0) hb); have n1_ := Aside0.mk (Kd.R_lower (Kd.R_new' ho0 (Kd.R_lt sq10)) (below_size sq35)); have n2_ := Aside0.mk (blk_below (g := gb280) (o := .cells #[.int .i64 t282, .int .i64 t283] 28 (0, 0)) sq21 hb); have n3_ := Aside0.mk (below_step sq35 hb); clear HO_5; clear BK280; clear HB; have HO_5 := n0_; have HO287 := n1_; have BK280 := n2_; have HB := n3_; clear n0_ n1_ n2_ n3_; (try clear hb); (try clear hb2); (try clear hk); (try clear hi); (try clear ho0); obtain ⟨Ao59, co59, eo59⟩ := Kd.R_slice HO287.out; subst eo59; have q60 : ((wrap64 (x66_2 + 1)) : Int) ≤ ((l0.length : Int) : Int) := of_decide_eq_true sq3; obtain ⟨i060, hi060, _, hsz60, _⟩ := info_parts info56; have hroom60 : l0.length ≤ c0 := HC0.out; have hC60 : Kd.C k56 _ A0 l0.length l0 := HR0.out; have ql60 : (x10_3 : Int) ≤ ((wrap64 (x66_2 + 1)) : Int) := of_decide_eq_true sq3; have q060 : (0 : Int) ≤ (x10_3 : Int) := of_decide_eq_true sq3; have hcut60 := cut_mid (P := Try.prog) 23 56 .i64 .i64 Try.underlying23 hi060 3 hsz60 A0 l0.length c0 x10_3 (wrap64 (x66_2 + 1)) q060 ql60 q60 hroom60; have hr60 := Kd.C_mid (lo := (x10_3 : Int).toNat) (hi := ((wrap64 (x66_2 + 1)) : Int).toNat) (c := c0) hC60 (by omega) (by omega) hroom60; obtain ⟨A60, hA60⟩ : ∃ A1, A1 = (if c0 = (x10_3 : Int).toNat then A0 else (A0 : Option Addr).map (·.add ((x10_3 : Int).toNat * 3))) := ⟨_, rfl⟩; obtain ⟨c60, hc60⟩ : ∃ c1, c1 = c0 - (x10_3 : Int).toNat := ⟨_, rfl⟩; have hy60 : y288.length = ((wrap64 (x66_2 + 1)) : Int).toNat - (x10_3 : Int).toNat := (by rw [Ny288.out, List.length_drop, List.length_take] <;> omega); rw [show ((l0).take ((wrap64 (x66_2 + 1)) : Int).toNat).drop (x10_3 : Int).toNat = y288 from Ny288.out.symm] at hr60; replace hr60 : Kd.C k56 _ A60 y288.length y288 := (by rw [hA60]; exact hr60); rw [← hy60, ← hA60, ← hc60] at hcut60; have HR291 := Aside0.mk hr60; have HC291 := Aside0.mk (show y288.length ≤ c60 from by rw [hy60, hc60]; exact Nat.sub_le_sub_right (Nat.le_trans (by omega) hroom60) _); clear hr60 hC60 hroom60 hi060 hsz60 hc60; have KY60 := Aside0.mk hy60; have KA60 := Aside0.mk hA60; clear hy60 hA60; replace q60 := eq_true q60) | ((with_reducible refine gate_callee (f := 10) rfl ?_); refine goesL_ (some 93) rfl rfl Try.func10 sq0 rfl #[.slice A60 y288.length c60, .slice A1 l1.length c1] rfl sq23 ?_; (with_reducible refine (kind_Of.calls k3 _ _ y288 _ _ l1 t292 t293 t294 _ ?side5 ?side1 ?side2 ?side3 ?side4 A45.out).mono ?_); (case side1 => repeat (first | exact (Kd.C_below HR291.out HB.out) | (with_reducible refine Kd.C_alloc ?_ _) | (with_reducible refine Kd.C_drewN ?_ _) | (with_reducible refine Kd.C_drew ?_))); (case side2 => exact HC291.out); (case side3 => repeat (first | exact (Kd.C_below HR1.out HB.out) | (with_reducible refine Kd.C_alloc ?_ _) | (with_reducible refine Kd.C_drewN ?_ _) | (with_reducible refine Kd.C_drew ?_))); (case side4 => exact HC1.out); (case side5 => exact Glob.below HG.out sq35); rintro e w61 ⟨rfl, hb⟩; refine ⟨_, rfl, ?_⟩; have n0_ := Aside0.mk (Kd.R_below sq10 hb); have n1_ := Aside0.mk (Kd.R_below sq14 hb); have n2_ := Aside0.mk (blk_below (g := gb280) (o := .cells #[.int .i64 t282, .int .i64 t283] 28 (0, 0)) sq21 hb); have n3_ := Aside0.mk (below_step sq35 hb); clear HO_5; clear HO287; clear BK280; clear HB; have HO_5 := n0_; have HO287 := n1_; have BK280 := n2_; have HB := n3_; clear n0_ n1_ n2_ n3_; (try clear hb); (try clear hb2); (try clear hk); (try clear hi)) | ((with_reducible refine gate_dst (N := 13) rfl ?_); (try (refine gate_guard (by rfl) ?_; dsimp only)); refine box_event ?hg (N := 13) ?hd (cs := #[.int .i64 0, .int .i64 0]) (t := 28) ?hr ?_; (case hd => rfl); (case hg => rfl); (case hr => first | (go_simp; done) | (go_simp; rfl)); intro gb295 hg w62 hbox hb; have n0_ := Aside0.mk (Kd.R_below sq10 hb); have n1_ := Aside0.mk (Kd.R_below sq14 hb); have n2_ := Aside0.mk (blk_below (g := gb280) (o := .cells #[.int .i64 t282, .int .i64 t283] 28 (0, 0)) sq21 hb); have n3_ := Aside0.mk (below_step sq35 hb); have n4_ := Aside0.mk (hbox); have n5_ := Aside0.mk ((by rw [hg]; exact (below_size sq35) : w.heap.size ≤ gb295)); have n6_ := Aside0.mk ((by rw [hg]; exact (below_size sq35) : w.heap.size ≤ gb295)); have n7_ := Aside0.mk ((by rw [hg]; exact Nat.ne_of_lt (blk_lt (g := gb280) (o := .cells #[.int .i64 t282, .int .i64 t283] 28 (0, 0)) sq21) : gb280 ≠ gb295)); have n8_ := Aside0.mk ((by rw [hg]; exact Nat.ne_of_gt (blk_lt (g := gb280) (o := .cells #[.int .i64 t282, .int .i64 t283] 28 (0, 0)) sq21) : gb295 ≠ gb280)); clear HO_5; clear HO287; clear BK280; clear HB; have HO_5 := n0_; have HO287 := n1_; have BK280 := n2_; have HB := n3_; have BK295 := n4_; have GW295 := n5_; have GE295 := n6_; have NB280_295 := n7_; have NB295_280 := n8_; clear n0_ n1_ n2_ n3_ n4_ n5_ n6_ n7_ n8_; clear hb hbox hg; have hnb63 := NB295_280.out; have hnc63 := NB280_295.out; have hcz64_0 : w62.cell? ⟨gb295, 0, none⟩ = some (.int .i64 0) := (blk_cell BK295.out 0).trans rfl; have hcz64_1 : w62.cell? ⟨gb295, 1, none⟩ = some (.int .i64 0) := (blk_cell BK295.out 1).trans rfl; have hfz64_0 := blk_frozen BK295.out 0; have hfz64_1 := blk_frozen BK295.out 1; obtain ⟨Ao65, co65, eo65⟩ := Kd.R_slice HO_5.out; subst eo65; have p296 : 0 ≤ (x66_2 : Int) := of_decide_eq_true sq3; have q296 : x66_2 < (t275.length : Int) := of_decide_eq_true sq3; obtain ⟨ad296, e296, hx296_0⟩ := Kd.at_int (Kd.R_reads' HO_5.out).2.2 x66_2 p296 q296; cases e296; have hn296_0 : ad296.block ≠ gb295 := Kd.own_blk (Kd.R_ne HO_5.out BK295.out (by decide)); have hn296_1 : ad296.block ≠ gb295 := Kd.own_blk (Kd.R_ne HO_5.out BK295.out (by decide)); replace hx296_0 := (cell_far (p := ⟨gb295, 0, none⟩) (by first | (rw [add_block]; exact hn296_0) | (show (Addr.add _ _).block ≠ _; rw [add_block]; exact hn296_0) | exact hn296_0) (.int .i64 t293)).trans hx296_0; replace hx296_0 := (cell_far (p := ⟨gb295, 1, none⟩) (by first | (rw [add_block]; exact hn296_1) | (show (Addr.add _ _).block ≠ _; rw [add_block]; exact hn296_1) | exact hn296_1) (.int .i64 t294)).trans hx296_0; clear hn296_0; clear hn296_1; replace p296 := eq_true p296; replace q296 := eq_true q296))
                go_roundg k3
                case measure => have := HJ18.out; have := HK2.out; have := HK3.out; omega
                case rel => exact ⟨(wrap64 (x66_2 + 1)), sq2, H', ⟨by have := HJ18.out; have := HK2.out; have := HK3.out; omega⟩, ⟨by (with_reducible repeat (first | apply Kd.R_alloc | apply Kd.R_drewN | apply Kd.R_drew)); exact Kd.R_mono (Kd.R_far (p := ⟨gb295, 1, none⟩) (Kd.R_far (p := ⟨gb295, 0, none⟩) (Kd.R_types HO_5.out BK295.out (by decide)) (fun _ hk => hk.2) (.int .i64 t293)) (fun _ hk => hk.2) (.int .i64 t294)) (fun _ hk => trivial)⟩, ⟨by (with_reducible repeat (first | refine blk_drewN ?_ _ | refine blk_drew ?_ | refine blk_alloc ?_ _)); refine blk_far ?_ NB280_295.out _; (with_reducible repeat (first | refine blk_drewN ?_ _ | refine blk_drew ?_ | refine blk_alloc ?_ _)); refine blk_far ?_ NB280_295.out _; (with_reducible repeat (first | refine blk_drewN ?_ _ | refine blk_drew ?_ | refine blk_alloc ?_ _)); exact BK280.out⟩, ⟨by repeat (first | (with_reducible first | exact HB.out | apply below_alloc | apply pw_below_drewN | apply below_drew1 | refine below_set ?_ GE280.out | refine below_set ?_ GE295.out) | exact HB.out)⟩⟩
               rw [if_neg c48] at H
               have c48b0 : (t292 == (rd t275 x66_2)) = false := beq_eq_false_iff_ne.mpr c48
               have c48b1 : (t292 != (rd t275 x66_2)) = true := bne_iff_ne.mpr c48
               obtain rfl := Option.some.inj H
               go_wp2_with (first | ((with_reducible refine gate_callee (f := 23) rfl ?_); refine goesL_ (some 73) rfl rfl Try.func23 sq0 rfl #[.slice A0 l0.length c0, .int .i64 x10_3] rfl sq23 ?_; (with_reducible refine (clause_Parts.calls k3 _ _ l0 x10_3 t285 _ ?side3 ?side1 ?side2 A40.out).mono ?_); (case side1 => repeat (first | exact (Kd.C_below HR0.out HB.out) | (with_reducible refine Kd.C_alloc ?_ _) | (with_reducible refine Kd.C_drewN ?_ _) | (with_reducible refine Kd.C_drew ?_))); (case side2 => exact HC0.out); (case side3 => exact Glob.below HG.out sq35); rintro e w66 ⟨v286, rfl, ho0, hb⟩; refine ⟨_, rfl, ?_⟩; have n0_ := Aside0.mk (Kd.R_elder' sq10 (Kd.R_base ho0) hb); have n1_ := Aside0.mk (Kd.R_lower (Kd.R_new' ho0 (Kd.R_lt sq10)) (below_size sq35)); have n2_ := Aside0.mk (blk_below (g := gb280) (o := .cells #[.int .i64 t282, .int .i64 t283] 28 (0, 0)) sq21 hb); have n3_ := Aside0.mk (below_step sq35 hb); clear HO_5; clear BK280; clear HB; have HO_5 := n0_; have HO287 := n1_; have BK280 := n2_; have HB := n3_; clear n0_ n1_ n2_ n3_; (try clear hb); (try clear hb2); (try clear hk); (try clear hi); (try clear ho0); obtain ⟨Ao67, co67, eo67⟩ := Kd.R_slice HO287.out; subst eo67; have q68 : ((wrap64 (x66_2 + 1)) : Int) ≤ ((l0.length : Int) : Int) := of_decide_eq_true sq3; obtain ⟨i068, hi068, _, hsz68, _⟩ := info_parts info56; have hroom68 : l0.length ≤ c0 := HC0.out; have hC68 : Kd.C k56 _ A0 l0.length l0 := HR0.out; have ql68 : (x10_3 : Int) ≤ ((wrap64 (x66_2 + 1)) : Int) := of_decide_eq_true sq3; have q068 : (0 : Int) ≤ (x10_3 : Int) := of_decide_eq_true sq3; have hcut68 := cut_mid (P := Try.prog) 23 56 .i64 .i64 Try.underlying23 hi068 3 hsz68 A0 l0.length c0 x10_3 (wrap64 (x66_2 + 1)) q068 ql68 q68 hroom68; have hr68 := Kd.C_mid (lo := (x10_3 : Int).toNat) (hi := ((wrap64 (x66_2 + 1)) : Int).toNat) (c := c0) hC68 (by omega) (by omega) hroom68; obtain ⟨A68, hA68⟩ : ∃ A1, A1 = (if c0 = (x10_3 : Int).toNat then A0 else (A0 : Option Addr).map (·.add ((x10_3 : Int).toNat * 3))) := ⟨_, rfl⟩; obtain ⟨c68, hc68⟩ : ∃ c1, c1 = c0 - (x10_3 : Int).toNat := ⟨_, rfl⟩; have hy68 : y288.length = ((wrap64 (x66_2 + 1)) : Int).toNat - (x10_3 : Int).toNat := (by rw [Ny288.out, List.length_drop, List.length_take] <;> omega); rw [show ((l0).take ((wrap64 (x66_2 + 1)) : Int).toNat).drop (x10_3 : Int).toNat = y288 from Ny288.out.symm] at hr68; replace hr68 : Kd.C k56 _ A68 y288.length y288 := (by rw [hA68]; exact hr68); rw [← hy68, ← hA68, ← hc68] at hcut68; have HR291 := Aside0.mk hr68; have HC291 := Aside0.mk (show y288.length ≤ c68 from by rw [hy68, hc68]; exact Nat.sub_le_sub_right (Nat.le_trans (by omega) hroom68) _); clear hr68 hC68 hroom68 hi068 hsz68 hc68; have KY68 := Aside0.mk hy68; have KA68 := Aside0.mk hA68; clear hy68 hA68; replace q68 := eq_true q68) | ((with_reducible refine gate_callee (f := 10) rfl ?_); refine goesL_ (some 93) rfl rfl Try.func10 sq0 rfl #[.slice A68 y288.length c68, .slice A1 l1.length c1] rfl sq23 ?_; (with_reducible refine (kind_Of.calls k3 _ _ y288 _ _ l1 t292 t293 t294 _ ?side5 ?side1 ?side2 ?side3 ?side4 A45.out).mono ?_); (case side1 => repeat (first | exact (Kd.C_below HR291.out HB.out) | (with_reducible refine Kd.C_alloc ?_ _) | (with_reducible refine Kd.C_drewN ?_ _) | (with_reducible refine Kd.C_drew ?_))); (case side2 => exact HC291.out); (case side3 => repeat (first | exact (Kd.C_below HR1.out HB.out) | (with_reducible refine Kd.C_alloc ?_ _) | (with_reducible refine Kd.C_drewN ?_ _) | (with_reducible refine Kd.C_drew ?_))); (case side4 => exact HC1.out); (case side5 => exact Glob.below HG.out sq35); rintro e w69 ⟨rfl, hb⟩; refine ⟨_, rfl, ?_⟩; have n0_ := Aside0.mk (Kd.R_below sq10 hb); have n1_ := Aside0.mk (Kd.R_below sq14 hb); have n2_ := Aside0.mk (blk_below (g := gb280) (o := .cells #[.int .i64 t282, .int .i64 t283] 28 (0, 0)) sq21 hb); have n3_ := Aside0.mk (below_step sq35 hb); clear HO_5; clear HO287; clear BK280; clear HB; have HO_5 := n0_; have HO287 := n1_; have BK280 := n2_; have HB := n3_; clear n0_ n1_ n2_ n3_; (try clear hb); (try clear hb2); (try clear hk); (try clear hi)) | ((with_reducible refine gate_dst (N := 13) rfl ?_); (try (refine gate_guard (by rfl) ?_; dsimp only)); refine box_event ?hg (N := 13) ?hd (cs := #[.int .i64 0, .int .i64 0]) (t := 28) ?hr ?_; (case hd => rfl); (case hg => rfl); (case hr => first | (go_simp; done) | (go_simp; rfl)); intro gb295 hg w70 hbox hb; have n0_ := Aside0.mk (Kd.R_below sq10 hb); have n1_ := Aside0.mk (Kd.R_below sq14 hb); have n2_ := Aside0.mk (blk_below (g := gb280) (o := .cells #[.int .i64 t282, .int .i64 t283] 28 (0, 0)) sq21 hb); have n3_ := Aside0.mk (below_step sq35 hb); have n4_ := Aside0.mk (hbox); have n5_ := Aside0.mk ((by rw [hg]; exact (below_size sq35) : w.heap.size ≤ gb295)); have n6_ := Aside0.mk ((by rw [hg]; exact (below_size sq35) : w.heap.size ≤ gb295)); have n7_ := Aside0.mk ((by rw [hg]; exact Nat.ne_of_lt (blk_lt (g := gb280) (o := .cells #[.int .i64 t282, .int .i64 t283] 28 (0, 0)) sq21) : gb280 ≠ gb295)); have n8_ := Aside0.mk ((by rw [hg]; exact Nat.ne_of_gt (blk_lt (g := gb280) (o := .cells #[.int .i64 t282, .int .i64 t283] 28 (0, 0)) sq21) : gb295 ≠ gb280)); clear HO_5; clear HO287; clear BK280; clear HB; have HO_5 := n0_; have HO287 := n1_; have BK280 := n2_; have HB := n3_; have BK295 := n4_; have GW295 := n5_; have GE295 := n6_; have NB280_295 := n7_; have NB295_280 := n8_; clear n0_ n1_ n2_ n3_ n4_ n5_ n6_ n7_ n8_; clear hb hbox hg; have hnb71 := NB295_280.out; have hnc71 := NB280_295.out; have hcz72_0 : w70.cell? ⟨gb295, 0, none⟩ = some (.int .i64 0) := (blk_cell BK295.out 0).trans rfl; have hcz72_1 : w70.cell? ⟨gb295, 1, none⟩ = some (.int .i64 0) := (blk_cell BK295.out 1).trans rfl; have hfz72_0 := blk_frozen BK295.out 0; have hfz72_1 := blk_frozen BK295.out 1; obtain ⟨Ao73, co73, eo73⟩ := Kd.R_slice HO_5.out; subst eo73; have p296 : 0 ≤ (x66_2 : Int) := of_decide_eq_true sq3; have q296 : x66_2 < (t275.length : Int) := of_decide_eq_true sq3; obtain ⟨ad296, e296, hx296_0⟩ := Kd.at_int (Kd.R_reads' HO_5.out).2.2 x66_2 p296 q296; cases e296; have hn296_0 : ad296.block ≠ gb295 := Kd.own_blk (Kd.R_ne HO_5.out BK295.out (by decide)); have hn296_1 : ad296.block ≠ gb295 := Kd.own_blk (Kd.R_ne HO_5.out BK295.out (by decide)); replace hx296_0 := (cell_far (p := ⟨gb295, 0, none⟩) (by first | (rw [add_block]; exact hn296_0) | (show (Addr.add _ _).block ≠ _; rw [add_block]; exact hn296_0) | exact hn296_0) (.int .i64 t293)).trans hx296_0; replace hx296_0 := (cell_far (p := ⟨gb295, 1, none⟩) (by first | (rw [add_block]; exact hn296_1) | (show (Addr.add _ _).block ≠ _; rw [add_block]; exact hn296_1) | exact hn296_1) (.int .i64 t294)).trans hx296_0; clear hn296_0; clear hn296_1; replace p296 := eq_true p296; replace q296 := eq_true q296))
               go_ret
               exact ⟨sq6, by repeat (first | (with_reducible first | exact HB.out | apply below_alloc | apply pw_below_drewN | apply below_drew1 | refine below_set ?_ GE280.out | refine below_set ?_ GE295.out) | exact HB.out)⟩
              rw [if_neg c47] at H
              exact absurd H (by simp)
             rw [if_neg c46] at H
             exact absurd H (by simp)
            rw [if_neg c44] at H
            exact absurd H (by simp)
           rw [if_neg c43] at H
           exact absurd H (by simp)
          rw [if_neg c42] at H
          exact absurd H (by simp)
         rw [if_neg c41] at H
         have c41b0 : ((t285.length : Int) == 0) = false := beq_eq_false_iff_ne.mpr c41
         have c41b1 : ((t285.length : Int) != 0) = true := bne_iff_ne.mpr c41
         have c41b2 : ¬ (t285 = []) := fun h_ => c41 (by rw [h_]; rfl)
         by_cases c74 : 0 < (t285.length : Int)
         ·rw [if_pos c74] at H
          have c74b0 : decide (0 < (t285.length : Int)) = true := decide_eq_true c74
          have c74b1 : decide (0 < t285.length) = true := decide_eq_true (by omega)
          clear c74
          by_cases c75 : (rd t285 0) ≥ x10_3
          ·rw [if_pos c75] at H
           have c75b0 : decide (x10_3 ≤ (rd t285 0)) = true := decide_eq_true c75
           clear c75
           obtain rfl := Option.some.inj H
           go_wp2_with (first | ((with_reducible refine gate_callee (f := 23) rfl ?_); refine goesL_ (some 73) rfl rfl Try.func23 sq0 rfl #[.slice A0 l0.length c0, .int .i64 x10_3] rfl sq23 ?_; (with_reducible refine (clause_Parts.calls k3 _ _ l0 x10_3 t285 _ ?side3 ?side1 ?side2 A40.out).mono ?_); (case side1 => repeat (first | exact (Kd.C_below HR0.out HB.out) | (with_reducible refine Kd.C_alloc ?_ _) | (with_reducible refine Kd.C_drewN ?_ _) | (with_reducible refine Kd.C_drew ?_))); (case side2 => exact HC0.out); (case side3 => exact Glob.below HG.out sq35); rintro e w76 ⟨v286, rfl, ho0, hb⟩; refine ⟨_, rfl, ?_⟩; have n0_ := Aside0.mk (Kd.R_elder' sq10 (Kd.R_base ho0) hb); have n1_ := Aside0.mk (Kd.R_lower (Kd.R_new' ho0 (Kd.R_lt sq10)) (below_size sq35)); have n2_ := Aside0.mk (blk_below (g := gb280) (o := .cells #[.int .i64 t282, .int .i64 t283] 28 (0, 0)) sq21 hb); have n3_ := Aside0.mk (below_step sq35 hb); clear HO_5; clear BK280; clear HB; have HO_5 := n0_; have HO287 := n1_; have BK280 := n2_; have HB := n3_; clear n0_ n1_ n2_ n3_; (try clear hb); (try clear hb2); (try clear hk); (try clear hi); (try clear ho0); obtain ⟨Ao77, co77, eo77⟩ := Kd.R_slice HO287.out; subst eo77; have p297 : 0 ≤ (0 : Int) := (by omega); have q297 : 0 < (t285.length : Int) := of_decide_eq_true sq3; obtain ⟨ad297, e297, hx297_0⟩ := Kd.at_int (Kd.R_reads' HO287.out).2.2 0 p297 q297; cases e297; have qi297 : (0 < t285.length) = True := eq_true (by omega); (try rw [show ((0 : Int)).toNat = 0 from rfl] at hx297_0); (try rw [Addr.add_zero'] at hx297_0); replace p297 := eq_true p297; replace q297 := eq_true q297))
           go_ret
           exact ⟨sq6, sq35⟩
          rw [if_neg c75] at H
          have c75b0 : decide (x10_3 ≤ (rd t285 0)) = false := decide_eq_false c75
          clear c75
          have H' := Aside0.mk H
          clear H
          go_wp2_with (first | ((with_reducible refine gate_callee (f := 23) rfl ?_); refine goesL_ (some 73) rfl rfl Try.func23 sq0 rfl #[.slice A0 l0.length c0, .int .i64 x10_3] rfl sq23 ?_; (with_reducible refine (clause_Parts.calls k3 _ _ l0 x10_3 t285 _ ?side3 ?side1 ?side2 A40.out).mono ?_); (case side1 => repeat (first | exact (Kd.C_below HR0.out HB.out) | (with_reducible refine Kd.C_alloc ?_ _) | (with_reducible refine Kd.C_drewN ?_ _) | (with_reducible refine Kd.C_drew ?_))); (case side2 => exact HC0.out); (case side3 => exact Glob.below HG.out sq35); rintro e w78 ⟨v286, rfl, ho0, hb⟩; refine ⟨_, rfl, ?_⟩; have n0_ := Aside0.mk (Kd.R_elder' sq10 (Kd.R_base ho0) hb); have n1_ := Aside0.mk (Kd.R_lower (Kd.R_new' ho0 (Kd.R_lt sq10)) (below_size sq35)); have n2_ := Aside0.mk (blk_below (g := gb280) (o := .cells #[.int .i64 t282, .int .i64 t283] 28 (0, 0)) sq21 hb); have n3_ := Aside0.mk (below_step sq35 hb); clear HO_5; clear BK280; clear HB; have HO_5 := n0_; have HO287 := n1_; have BK280 := n2_; have HB := n3_; clear n0_ n1_ n2_ n3_; (try clear hb); (try clear hb2); (try clear hk); (try clear hi); (try clear ho0); obtain ⟨Ao79, co79, eo79⟩ := Kd.R_slice HO287.out; subst eo79; have p297 : 0 ≤ (0 : Int) := (by omega); have q297 : 0 < (t285.length : Int) := of_decide_eq_true sq3; obtain ⟨ad297, e297, hx297_0⟩ := Kd.at_int (Kd.R_reads' HO287.out).2.2 0 p297 q297; cases e297; have qi297 : (0 < t285.length) = True := eq_true (by omega); (try rw [show ((0 : Int)).toNat = 0 from rfl] at hx297_0); (try rw [Addr.add_zero'] at hx297_0); replace p297 := eq_true p297; replace q297 := eq_true q297; have p298 : 0 ≤ (0 : Int) := (by omega); have q298 : 0 < (t285.length : Int) := of_decide_eq_true sq3; obtain ⟨ad298, e298, hx298_0⟩ := Kd.at_int (Kd.R_reads' HO287.out).2.2 0 p298 q298; obtain rfl : ad297 = ad298 := (by injection e298); have qi298 : (0 < t285.length) = True := eq_true (by omega); (try rw [show ((0 : Int)).toNat = 0 from rfl] at hx298_0); (try rw [Addr.add_zero'] at hx298_0); replace p298 := eq_true p298; replace q298 := eq_true q298))
          go_roundg k3
          case measure => have := HJ18.out; have := HK2.out; have := HK3.out; omega
          case rel => exact ⟨(rd t285 0), sq2, H', ⟨by have := HJ18.out; have := HK2.out; have := HK3.out; omega⟩, ⟨by (with_reducible repeat (first | apply Kd.R_alloc | apply Kd.R_drewN | apply Kd.R_drew)); exact Kd.R_mono HO_5.out (fun _ hk => trivial)⟩, ⟨sq21⟩, ⟨sq35⟩⟩
         rw [if_neg c74] at H
         exact absurd H (by simp)
      rw [if_neg c39] at H
      have c39b0 : decide (x66_2 < (l0.length : Int)) = false := decide_eq_false c39
      clear c39
      obtain rfl := Option.some.inj H
      go_wp2
      go_ret
      exact ⟨sq6, sq35⟩
 replace c4 := Bool.eq_false_iff.mpr c4
 subst c4
 have H1 : (some false) = some r := by rw [if_neg (show ¬ (false = true) by decide)] at H; exact H
 clear H
 have H := H1
 clear H1
 obtain rfl := Option.some.inj H
 go_enter Try.func7, Try.ntmps7
 go_wp2_with (first | ((with_reducible refine gate_callee (f := 20) rfl ?_); refine goesL_ (some 14) rfl rfl Try.func20 sq0 rfl #[] rfl sq23 ?_; (with_reducible refine (tontinelaw18_works.calls k  false _ ?side1 A3.out).mono ?_); (case side1 => exact Glob.below HG.out sq22); rintro e w80 ⟨rfl, hb⟩; refine ⟨_, rfl, ?_⟩; have n0_ := Aside0.mk (below_step sq22 hb); clear HB; have HB := n0_; clear n0_; (try clear hb); (try clear hb2); (try clear hk); (try clear hi)))
 go_ret
 exact ⟨sq6, sq22⟩

end Go.Proofs.Ytpfnnamicbbobaa.PAll
