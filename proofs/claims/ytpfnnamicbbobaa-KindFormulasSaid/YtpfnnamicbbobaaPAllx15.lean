-- Written by a program of this session (wip/tools/print2.sh): functions as plain Lean, and that the machine's calls do what they say.
import Derived.Test.YtpfnnamicbbobaaPAllx0
import Derived.Test.YtpfnnamicbbobaaPAllx14
namespace Go.Proofs.Ytpfnnamicbbobaa.PAll
open Go.RowKit Go.Proofs.YtpfnnamicbbobaaW.PrintWords Go.Proofs.YtpfnnamicbbobaaW.PrintLast Go.Proofs.YtpfnnamicbbobaaW.PrintMore
attribute [local go_sem] max2_int min2_int max_two min_two max_three min_three max_four min_four   -- for this text's walks alone
set_option linter.unusedVariables false
set_option linter.unusedSimpArgs false

/-! ### tontineref18_made: function 45: by hand -/
open Ytpfnnamicbbobaa.HD in
/-- The type of a node by those of its parts, as the document has it. -/
def tontineref18_made.f (k : Nat) (a0 : Int) (l1 : List Int) : Option Int :=
 match l1 with
 | [] => if a0 = 1 then some (1) else if a0 = 2 then some (2) else if a0 = 3 then some (3) else if a0 = 4 then some (3) else none
 | [a] => if a0 = 6 then some (whenS (calcB a) a) else if a0 = 7 then some (whenS (a == 3) 3) else if a0 = 21 ∨ a0 = 22 then some (mostN a l1) else none
 | [a, b] => if a0 = 8 then some (mul2 a b) else if a0 = 9 then some (div2 a b) else if a0 = 10 then some (whenS (calcB a && b == a) a) else if a0 = 11 then some (whenS (calcB a && b == a) a) else if a0 = 12 then some (whenS (calcB a && b == a) 3) else if a0 = 13 then some (whenS (calcB a && b == a) 3) else if a0 = 14 then some (whenS (calcB a && b == a) 3) else if a0 = 15 then some (whenS (calcB a && b == a) 3) else if a0 = 16 then some (whenS (b == a) 3) else if a0 = 17 then some (whenS (b == a) 3) else if a0 = 18 then some (whenS (a == 3 && b == 3) 3) else if a0 = 19 then some (whenS (a == 3 && b == 3) 3) else if a0 = 23 then some (whenS (calcB a && b == a) a) else if a0 = 21 ∨ a0 = 22 then some (mostN a l1) else none
 | [a, b, d] => if a0 = 20 then some (whenS (a == 3 && d == b) b) else if a0 = 21 ∨ a0 = 22 then some (mostN a l1) else none
 | a :: _ :: _ :: _ :: _ => if a0 = 21 ∨ a0 = 22 then some (mostN a l1) else none
theorem tontineref18_made.mono : ∀ a0 a1 k, LeO (tontineref18_made.f k a0 a1) (tontineref18_made.f (k + 1) a0 a1) := fun _ _ _ => LeO.refl _
theorem tontineref18_made.calls (k : Nat) (a0 : Int) (A1 : Option Addr) (c1 : Nat) (l1 : List Int) (r : Int) (w : World) (hr1 : Kd.C (Kd.int .i64) w A1 l1.length l1) (hc1 : l1.length ≤ c1) (h : tontineref18_made.f k a0 l1 = some r) :
  Calls Try.prog 45 #[.int .i64 a0, .slice A1 l1.length c1] w fun e w' => e = .returned (.int .i64 r) ∧ Drawn0 w w' := by
 have told : ∀ {q : Int} {a : Value} {s : Value}, Calls Try.prog 45 #[a, s] w (Ytpfnnamicbbobaa.HD.Told q w) → q = r → Calls Try.prog 45 #[a, s] w fun e w' => e = .returned (.int .i64 r) ∧ Drawn0 w w' := by
  intro q a s hc hq
  refine hc.mono ?_
  rintro e w' ⟨rfl, hm⟩
  exact ⟨by rw [hq], ⟨hm⟩⟩
 have many : 0 < l1.length → (a0 = 21 ∨ a0 = 22) → Ytpfnnamicbbobaa.HD.mostN (l1.getD 0 0) l1 = r → Calls Try.prog 45 #[.int .i64 a0, .slice A1 l1.length c1] w fun e w' => e = .returned (.int .i64 r) ∧ Drawn0 w w' := by
  intro hl ha hq
  obtain ⟨ad, rfl, _⟩ := Kd.at_int hr1 0 sq0 sq0
  have hx : ∀ k, k < l1.length → w.cell? (ad.add k) = some (.int .i64 (l1.getD k 0)) := fun k hk => by
   obtain ⟨ad', e, hx⟩ := Kd.at_int hr1 k sq0 sq0
   obtain rfl := Option.some.inj e
   exact hx
  rcases ha with rfl | rfl
  ·exact told (Ytpfnnamicbbobaa.HD.made_21 l1 ad c1 w hl (Kd.C_max hr1) hx) hq
  exact told (Ytpfnnamicbbobaa.HD.made_22 l1 ad c1 w hl (Kd.C_max hr1) hx) hq
 unfold tontineref18_made.f at h
 split at h
 ·skip
  by_cases q1 : a0 = 1
  ·subst q1
   simp only [Int.reduceEq, if_true, if_false, ↓reduceIte] at h
   obtain rfl := Option.some.inj h
   exact told (Ytpfnnamicbbobaa.HD.made_1 A1 c1 w) rfl
  rw [if_neg q1] at h
  by_cases q2 : a0 = 2
  ·subst q2
   simp only [Int.reduceEq, if_true, if_false, ↓reduceIte] at h
   obtain rfl := Option.some.inj h
   exact told (Ytpfnnamicbbobaa.HD.made_2 A1 c1 w) rfl
  rw [if_neg q2] at h
  by_cases q3 : a0 = 3
  ·subst q3
   simp only [Int.reduceEq, if_true, if_false, ↓reduceIte] at h
   obtain rfl := Option.some.inj h
   exact told (Ytpfnnamicbbobaa.HD.made_3 A1 c1 w) rfl
  rw [if_neg q3] at h
  by_cases q4 : a0 = 4
  ·subst q4
   simp only [Int.reduceEq, if_true, if_false, ↓reduceIte] at h
   obtain rfl := Option.some.inj h
   exact told (Ytpfnnamicbbobaa.HD.made_4 A1 c1 w) rfl
  rw [if_neg q4] at h
  cases h
 ·rename_i a
  have many' := many (by simp)
  by_cases q6 : a0 = 6
  ·subst q6
   simp only [Int.reduceEq, if_true, if_false, ↓reduceIte] at h
   obtain rfl := Option.some.inj h
   obtain ⟨ad, rfl, g0⟩ := Kd.at_int hr1 0 sq0 (by simp)
   exact told (Ytpfnnamicbbobaa.HD.made_6 a ad c1 w g0) rfl
  rw [if_neg q6] at h
  by_cases q7 : a0 = 7
  ·subst q7
   simp only [Int.reduceEq, if_true, if_false, ↓reduceIte] at h
   obtain rfl := Option.some.inj h
   obtain ⟨ad, rfl, g0⟩ := Kd.at_int hr1 0 sq0 (by simp)
   exact told (Ytpfnnamicbbobaa.HD.made_7 a ad c1 w g0) rfl
  rw [if_neg q7] at h
  by_cases q : a0 = 21 ∨ a0 = 22
  ·rw [if_pos q] at h
   exact many' q (Option.some.inj h)
  rw [if_neg q] at h
  cases h
 ·rename_i a b
  have many' := many (by simp)
  by_cases q8 : a0 = 8
  ·subst q8
   simp only [Int.reduceEq, if_true, if_false, ↓reduceIte] at h
   obtain rfl := Option.some.inj h
   obtain ⟨ad, rfl, g0⟩ := Kd.at_int hr1 0 sq0 (by simp)
   obtain ⟨ad1, e1, g1⟩ := Kd.at_int hr1 1 sq0 (by simp)
   obtain rfl := Option.some.inj e1
   exact told (Ytpfnnamicbbobaa.HD.made_8 a b ad c1 w g0 g1) rfl
  rw [if_neg q8] at h
  by_cases q9 : a0 = 9
  ·subst q9
   simp only [Int.reduceEq, if_true, if_false, ↓reduceIte] at h
   obtain rfl := Option.some.inj h
   obtain ⟨ad, rfl, g0⟩ := Kd.at_int hr1 0 sq0 (by simp)
   obtain ⟨ad1, e1, g1⟩ := Kd.at_int hr1 1 sq0 (by simp)
   obtain rfl := Option.some.inj e1
   exact told (Ytpfnnamicbbobaa.HD.made_9 a b ad c1 w g0 g1) rfl
  rw [if_neg q9] at h
  by_cases q10 : a0 = 10
  ·subst q10
   simp only [Int.reduceEq, if_true, if_false, ↓reduceIte] at h
   obtain rfl := Option.some.inj h
   obtain ⟨ad, rfl, g0⟩ := Kd.at_int hr1 0 sq0 (by simp)
   obtain ⟨ad1, e1, g1⟩ := Kd.at_int hr1 1 sq0 (by simp)
   obtain rfl := Option.some.inj e1
   exact told (Ytpfnnamicbbobaa.HD.made_10 a b ad c1 w g0 g1) rfl
  rw [if_neg q10] at h
  by_cases q11 : a0 = 11
  ·subst q11
   simp only [Int.reduceEq, if_true, if_false, ↓reduceIte] at h
   obtain rfl := Option.some.inj h
   obtain ⟨ad, rfl, g0⟩ := Kd.at_int hr1 0 sq0 (by simp)
   obtain ⟨ad1, e1, g1⟩ := Kd.at_int hr1 1 sq0 (by simp)
   obtain rfl := Option.some.inj e1
   exact told (Ytpfnnamicbbobaa.HD.made_11 a b ad c1 w g0 g1) rfl
  rw [if_neg q11] at h
  by_cases q12 : a0 = 12
  ·subst q12
   simp only [Int.reduceEq, if_true, if_false, ↓reduceIte] at h
   obtain rfl := Option.some.inj h
   obtain ⟨ad, rfl, g0⟩ := Kd.at_int hr1 0 sq0 (by simp)
   obtain ⟨ad1, e1, g1⟩ := Kd.at_int hr1 1 sq0 (by simp)
   obtain rfl := Option.some.inj e1
   exact told (Ytpfnnamicbbobaa.HD.made_12 a b ad c1 w g0 g1) rfl
  rw [if_neg q12] at h
  by_cases q13 : a0 = 13
  ·subst q13
   simp only [Int.reduceEq, if_true, if_false, ↓reduceIte] at h
   obtain rfl := Option.some.inj h
   obtain ⟨ad, rfl, g0⟩ := Kd.at_int hr1 0 sq0 (by simp)
   obtain ⟨ad1, e1, g1⟩ := Kd.at_int hr1 1 sq0 (by simp)
   obtain rfl := Option.some.inj e1
   exact told (Ytpfnnamicbbobaa.HD.made_13 a b ad c1 w g0 g1) rfl
  rw [if_neg q13] at h
  by_cases q14 : a0 = 14
  ·subst q14
   simp only [Int.reduceEq, if_true, if_false, ↓reduceIte] at h
   obtain rfl := Option.some.inj h
   obtain ⟨ad, rfl, g0⟩ := Kd.at_int hr1 0 sq0 (by simp)
   obtain ⟨ad1, e1, g1⟩ := Kd.at_int hr1 1 sq0 (by simp)
   obtain rfl := Option.some.inj e1
   exact told (Ytpfnnamicbbobaa.HD.made_14 a b ad c1 w g0 g1) rfl
  rw [if_neg q14] at h
  by_cases q15 : a0 = 15
  ·subst q15
   simp only [Int.reduceEq, if_true, if_false, ↓reduceIte] at h
   obtain rfl := Option.some.inj h
   obtain ⟨ad, rfl, g0⟩ := Kd.at_int hr1 0 sq0 (by simp)
   obtain ⟨ad1, e1, g1⟩ := Kd.at_int hr1 1 sq0 (by simp)
   obtain rfl := Option.some.inj e1
   exact told (Ytpfnnamicbbobaa.HD.made_15 a b ad c1 w g0 g1) rfl
  rw [if_neg q15] at h
  by_cases q16 : a0 = 16
  ·subst q16
   simp only [Int.reduceEq, if_true, if_false, ↓reduceIte] at h
   obtain rfl := Option.some.inj h
   obtain ⟨ad, rfl, g0⟩ := Kd.at_int hr1 0 sq0 (by simp)
   obtain ⟨ad1, e1, g1⟩ := Kd.at_int hr1 1 sq0 (by simp)
   obtain rfl := Option.some.inj e1
   exact told (Ytpfnnamicbbobaa.HD.made_16 a b ad c1 w g0 g1) rfl
  rw [if_neg q16] at h
  by_cases q17 : a0 = 17
  ·subst q17
   simp only [Int.reduceEq, if_true, if_false, ↓reduceIte] at h
   obtain rfl := Option.some.inj h
   obtain ⟨ad, rfl, g0⟩ := Kd.at_int hr1 0 sq0 (by simp)
   obtain ⟨ad1, e1, g1⟩ := Kd.at_int hr1 1 sq0 (by simp)
   obtain rfl := Option.some.inj e1
   exact told (Ytpfnnamicbbobaa.HD.made_17 a b ad c1 w g0 g1) rfl
  rw [if_neg q17] at h
  by_cases q18 : a0 = 18
  ·subst q18
   simp only [Int.reduceEq, if_true, if_false, ↓reduceIte] at h
   obtain rfl := Option.some.inj h
   obtain ⟨ad, rfl, g0⟩ := Kd.at_int hr1 0 sq0 (by simp)
   obtain ⟨ad1, e1, g1⟩ := Kd.at_int hr1 1 sq0 (by simp)
   obtain rfl := Option.some.inj e1
   exact told (Ytpfnnamicbbobaa.HD.made_18 a b ad c1 w g0 g1) rfl
  rw [if_neg q18] at h
  by_cases q19 : a0 = 19
  ·subst q19
   simp only [Int.reduceEq, if_true, if_false, ↓reduceIte] at h
   obtain rfl := Option.some.inj h
   obtain ⟨ad, rfl, g0⟩ := Kd.at_int hr1 0 sq0 (by simp)
   obtain ⟨ad1, e1, g1⟩ := Kd.at_int hr1 1 sq0 (by simp)
   obtain rfl := Option.some.inj e1
   exact told (Ytpfnnamicbbobaa.HD.made_19 a b ad c1 w g0 g1) rfl
  rw [if_neg q19] at h
  by_cases q23 : a0 = 23
  ·subst q23
   simp only [Int.reduceEq, if_true, if_false, ↓reduceIte] at h
   obtain rfl := Option.some.inj h
   obtain ⟨ad, rfl, g0⟩ := Kd.at_int hr1 0 sq0 (by simp)
   obtain ⟨ad1, e1, g1⟩ := Kd.at_int hr1 1 sq0 (by simp)
   obtain rfl := Option.some.inj e1
   exact told (Ytpfnnamicbbobaa.HD.made_23 a b ad c1 w g0 g1) rfl
  rw [if_neg q23] at h
  by_cases q : a0 = 21 ∨ a0 = 22
  ·rw [if_pos q] at h
   exact many' q (Option.some.inj h)
  rw [if_neg q] at h
  cases h
 ·rename_i a b d
  have many' := many (by simp)
  by_cases q20 : a0 = 20
  ·subst q20
   simp only [Int.reduceEq, if_true, if_false, ↓reduceIte] at h
   obtain rfl := Option.some.inj h
   obtain ⟨ad, rfl, g0⟩ := Kd.at_int hr1 0 sq0 (by simp)
   obtain ⟨ad1, e1, g1⟩ := Kd.at_int hr1 1 sq0 (by simp)
   obtain rfl := Option.some.inj e1
   obtain ⟨ad2, e2, g2⟩ := Kd.at_int hr1 2 sq0 (by simp)
   obtain rfl := Option.some.inj e2
   exact told (Ytpfnnamicbbobaa.HD.made_20 a b d ad c1 w g0 g1 g2) rfl
  rw [if_neg q20] at h
  by_cases q : a0 = 21 ∨ a0 = 22
  ·rw [if_pos q] at h
   exact many' q (Option.some.inj h)
  rw [if_neg q] at h
  cases h
 rename_i a b d x l
 by_cases q : a0 = 21 ∨ a0 = 22
 ·rw [if_pos q] at h
  exact many (by simp) q (Option.some.inj h)
 rw [if_neg q] at h
 cases h

/-! ### tontineref18_typed: function 30 -/
def tontineref18_typed.l0 : Nat → List (S56) → List (S59) → List Int → List Int → Int → Option (List Int × Int × Int)
 | 0, _, _, _, _, _ => none
 | k + 1, x0, x1, x6, x7, x8 => if x8 < (x0.length : Int) then (if 0 ≤ x8 then ((tontineref18_parts.f k ((rd_T56 x0 x8).f0) ((rd_T56 x0 x8).f1) ((rd_T56 x0 x8).f2)).bind fun t267 => (if ((rd_T56 x0 x8).f0) = 5 then ((tontineref18_find.f k x1 ((rd_T56 x0 x8).f2)).bind fun t270 => (if t270 = 0 then (some (([] : List Int), x8, 181)) else ((some (([] : List Int) : List Int)).bind fun y271 => (if 0 ≤ (wrap64 ((x7.length : Int) - t267)) then (if (wrap64 ((x7.length : Int) - t267)) ≤ (x7.length : Int) then ((some (x7.take ((wrap64 ((x7.length : Int) - t267)) : Int).toNat : List Int)).bind fun y274 => (if y271.length + y274.length < 17592186044416 then ((some (y271 ++ y274 : List Int)).bind fun y278 => (if y278.length < 17592186044416 then (if x6.length < 17592186044416 then (tontineref18_typed.l0 k x0 x1 (x6 ++ [t270]) (y278 ++ [t270]) (wrap64 (x8 + 1))) else (none)) else (none))) else (none))) else (none)) else (none))))) else (if 0 ≤ (wrap64 ((x7.length : Int) - t267)) then (if (wrap64 ((x7.length : Int) - t267)) ≤ (x7.length : Int) then ((tontineref18_made.f k ((rd_T56 x0 x8).f0) (x7.drop ((wrap64 ((x7.length : Int) - t267)) : Int).toNat)).bind fun t292 => (if t292 = 0 then (some (([] : List Int), x8, 180)) else ((some (([] : List Int) : List Int)).bind fun y293 => ((some (x7.take ((wrap64 ((x7.length : Int) - t267)) : Int).toNat : List Int)).bind fun y296 => (if y293.length + y296.length < 17592186044416 then ((some (y293 ++ y296 : List Int)).bind fun y300 => (if y300.length < 17592186044416 then (if x6.length < 17592186044416 then (tontineref18_typed.l0 k x0 x1 (x6 ++ [t292]) (y300 ++ [t292]) (wrap64 (x8 + 1))) else (none)) else (none))) else (none)))))) else (none)) else (none)))) else (none)) else (some (x6, 0, 0))
def tontineref18_typed.f (k : Nat) (l0 : List (S56)) (l1 : List (S59)) : Option (List Int × Int × Int) := tontineref18_typed.l0 k l0 l1 ([] : List Int) ([] : List Int) 0
theorem tontineref18_typed.mono_l : ∀ k, (∀ y0 y1 y2 y3 y4, LeO (tontineref18_typed.l0 k y0 y1 y2 y3 y4) (tontineref18_typed.l0 (k + 1) y0 y1 y2 y3 y4))
 | 0 => fun _ _ _ _ _ r h => by simp [tontineref18_typed.l0] at h
 | k + 1 => by
  have ih0 := tontineref18_typed.mono_l k
  ·intro y0 y1 y2 y3 y4
   unfold tontineref18_typed.l0
   exact sq143
theorem tontineref18_typed.mono : ∀ a0 a1 k, LeO (tontineref18_typed.f k a0 a1) (tontineref18_typed.f (k + 1) a0 a1) := by
 intro a0 a1 k
 have ih0 := tontineref18_typed.mono_l k
 unfold tontineref18_typed.f
 exact sq143
set_option maxHeartbeats 8000000 in
set_option maxRecDepth 100000 in
theorem tontineref18_typed.calls (k : Nat) (A0 : Option Addr) (c0 : Nat) (l0 : List (S56)) (A1 : Option Addr) (c1 : Nat) (l1 : List (S59)) (r1 : List Int) (r2 : Int) (r3 : Int) (w : World) (hr0 : Kd.C k56 w A0 l0.length l0) (hc0 : l0.length ≤ c0) (hr1 : Kd.C k59 w A1 l1.length l1) (hc1 : l1.length ≤ c1) (h : tontineref18_typed.f k l0 l1 = some (r1, r2, r3)) :
  Calls Try.prog 30 #[.slice A0 l0.length c0, .slice A1 l1.length c1] w fun e w' => ∃ v0_ : Value, e = .returned (.tuple #[v0_, .agg #[.int .i64 r2, .int .i64 r3]]) ∧ Kd.R (Kd.int .i64) 3 w' w.heap.size (fun _ => True) v0_ r1 ∧ Below w.heap.size w w' := by
 have hu32 := Try.underlying32
 have hu56 := Try.underlying56
 have HR0 := Aside0.mk hr0
 have HC0 := Aside0.mk hc0
 clear hr0 hc0
 have HR1 := Aside0.mk hr1
 have HC1 := Aside0.mk hc1
 clear hr1 hc1
 have HB := Aside0.mk (Below.refl w.heap.size w)
 have H : (tontineref18_typed.l0 k l0 l1 ([] : List Int) ([] : List Int) 0) = some (r1, r2, r3) := h
 clear h
 have H' := Aside0.mk H
 clear H
 go_enter Try.func30, Try.ntmps30
 go_wp2_with (first | ((with_reducible refine gate_dst (N := 5) rfl ?_); refine box_event ?hg (N := 5) ?hd (cs := #[.int .i64 0, .int .i64 0]) (t := 32) ?hr ?_; (case hd => rfl); (case hg => rfl); (case hr => first | (go_simp; done) | (go_simp; rfl)); intro gb265 hg w3 hbox hb; have n0_ := Aside0.mk (below_step sq49 hb); have n1_ := Aside0.mk (hbox); have n2_ := Aside0.mk ((by rw [hg]; exact (below_size sq49) : w.heap.size ≤ gb265)); have n3_ := Aside0.mk ((by rw [hg]; exact (below_size sq49) : w.heap.size ≤ gb265)); clear HB; have HB := n0_; have BK265 := n1_; have GW265 := n2_; have GE265 := n3_; clear n0_ n1_ n2_ n3_; clear hb hbox hg))
 repeat (go_quiet (first | ((with_reducible refine gate_dst (N := 5) rfl ?_); refine box_event ?hg (N := 5) ?hd (cs := #[.int .i64 0, .int .i64 0]) (t := 32) ?hr ?_; (case hd => rfl); (case hg => rfl); (case hr => first | (go_simp; done) | (go_simp; rfl)); intro gb265 hg w3 hbox hb; have n0_ := Aside0.mk (below_step sq49 hb); have n1_ := Aside0.mk (hbox); have n2_ := Aside0.mk ((by rw [hg]; exact (below_size sq49) : w.heap.size ≤ gb265)); have n3_ := Aside0.mk ((by rw [hg]; exact (below_size sq49) : w.heap.size ≤ gb265)); clear HB; have HB := n0_; have BK265 := n1_; have GW265 := n2_; have GE265 := n3_; clear n0_ n1_ n2_ n3_; clear hb hbox hg)); try go_wp2_with (first | ((with_reducible refine gate_dst (N := 5) rfl ?_); refine box_event ?hg (N := 5) ?hd (cs := #[.int .i64 0, .int .i64 0]) (t := 32) ?hr ?_; (case hd => rfl); (case hg => rfl); (case hr => first | (go_simp; done) | (go_simp; rfl)); intro gb265 hg w3 hbox hb; have n0_ := Aside0.mk (below_step sq49 hb); have n1_ := Aside0.mk (hbox); have n2_ := Aside0.mk ((by rw [hg]; exact (below_size sq49) : w.heap.size ≤ gb265)); have n3_ := Aside0.mk ((by rw [hg]; exact (below_size sq49) : w.heap.size ≤ gb265)); clear HB; have HB := n0_; have BK265 := n1_; have GW265 := n2_; have GE265 := n3_; clear n0_ n1_ n2_ n3_; clear hb hbox hg)))
 go_loopg [6, 7, 8] k (fun kq v6 v7 v8 w' => ∃ (x6_1 : List Int) (x7_1 : List Int) (x8_1 : Int) (x266000_1 : Int) (x266001_1 : Int), v8 = .int .i64 x8_1 ∧ Aside0 (tontineref18_typed.l0 kq l0 l1 x6_1 x7_1 x8_1 = some (r1, r2, r3)) ∧ Aside0 (kq ≤ k) ∧ Aside0 (Kd.R (Kd.int .i64) 3 w' w.heap.size (fun k_ => some k_ ≠ (v7 : Value).ownBlock) v6 x6_1) ∧ Aside0 (Kd.R (Kd.int .i64) 3 w' w.heap.size (fun k_ => some k_ ≠ (v6 : Value).ownBlock) v7 x7_1) ∧ Aside0 (w'.heap[gb265]? = some (.cells #[.int .i64 x266000_1, .int .i64 x266001_1] 32 (0, 0))) ∧ Aside0 (Below w.heap.size w w'))
 case atStart => exact ⟨(([] : List Int)), (([] : List Int)), (0), (0), (0), sq6, H', ⟨Nat.le_refl _⟩, ⟨sq51⟩, ⟨sq51⟩, ⟨sq42⟩, ⟨sq68⟩⟩
 case round =>
  clear H'
  try clear c1; try clear p2; try clear c3
  obtain ⟨x6_1, x7_1, x8_1, x266000_1, x266001_1, rfl, HA, HK1, HO_6, HO_7, BK265, HB⟩ := hrel
  cases gk with
  | zero => exact absurd HA.out (by simp [tontineref18_typed.l0])
  | succ k1 =>
   have H := HA.out
   clear HA
   simp only [tontineref18_typed.l0] at H
   by_cases c4 : x8_1 < (l0.length : Int)
   ·rw [if_pos c4] at H
    have c4b0 : decide (x8_1 < (l0.length : Int)) = true := decide_eq_true c4; clear c4
    by_cases c5 : 0 ≤ x8_1
    ·rw [if_pos c5] at H
     have c5b0 : decide (0 ≤ x8_1) = true := decide_eq_true c5; clear c5
     replace H := Option.bind_eq_some_iff.mp H
     obtain ⟨t267, A60, H⟩ := H
     replace H : (if ((rd_T56 l0 x8_1).f0) = 5 then ((tontineref18_find.f k1 l1 ((rd_T56 l0 x8_1).f2)).bind fun t270 => (if t270 = 0 then (some (([] : List Int), x8_1, 181)) else ((some (([] : List Int) : List Int)).bind fun y271 => (if 0 ≤ (wrap64 ((x7_1.length : Int) - t267)) then (if (wrap64 ((x7_1.length : Int) - t267)) ≤ (x7_1.length : Int) then ((some (x7_1.take ((wrap64 ((x7_1.length : Int) - t267)) : Int).toNat : List Int)).bind fun y274 => (if y271.length + y274.length < 17592186044416 then ((some (y271 ++ y274 : List Int)).bind fun y278 => (if y278.length < 17592186044416 then (if x6_1.length < 17592186044416 then (tontineref18_typed.l0 k1 l0 l1 (x6_1 ++ [t270]) (y278 ++ [t270]) (wrap64 (x8_1 + 1))) else (none)) else (none))) else (none))) else (none)) else (none))))) else (if 0 ≤ (wrap64 ((x7_1.length : Int) - t267)) then (if (wrap64 ((x7_1.length : Int) - t267)) ≤ (x7_1.length : Int) then ((tontineref18_made.f k1 ((rd_T56 l0 x8_1).f0) (x7_1.drop ((wrap64 ((x7_1.length : Int) - t267)) : Int).toNat)).bind fun t292 => (if t292 = 0 then (some (([] : List Int), x8_1, 180)) else ((some (([] : List Int) : List Int)).bind fun y293 => ((some (x7_1.take ((wrap64 ((x7_1.length : Int) - t267)) : Int).toNat : List Int)).bind fun y296 => (if y293.length + y296.length < 17592186044416 then ((some (y293 ++ y296 : List Int)).bind fun y300 => (if y300.length < 17592186044416 then (if x6_1.length < 17592186044416 then (tontineref18_typed.l0 k1 l0 l1 (x6_1 ++ [t292]) (y300 ++ [t292]) (wrap64 (x8_1 + 1))) else (none)) else (none))) else (none)))))) else (none)) else (none))) = some (r1, r2, r3) := H
     have A6 := Aside0.mk A60
     clear A60
     by_cases c7 : ((rd_T56 l0 x8_1).f0) = 5
     ·rw [if_pos c7] at H
      have c7b0 : (((rd_T56 l0 x8_1).f0) == 5) = true := beq_iff_eq.mpr c7
      have c7b1 : (((rd_T56 l0 x8_1).f0) != 5) = false := bne_eq_false_iff_eq.mpr c7
      clear c7
      replace H := Option.bind_eq_some_iff.mp H
      obtain ⟨t270, A80, H⟩ := H
      replace H : (if t270 = 0 then (some (([] : List Int), x8_1, 181)) else ((some (([] : List Int) : List Int)).bind fun y271 => (if 0 ≤ (wrap64 ((x7_1.length : Int) - t267)) then (if (wrap64 ((x7_1.length : Int) - t267)) ≤ (x7_1.length : Int) then ((some (x7_1.take ((wrap64 ((x7_1.length : Int) - t267)) : Int).toNat : List Int)).bind fun y274 => (if y271.length + y274.length < 17592186044416 then ((some (y271 ++ y274 : List Int)).bind fun y278 => (if y278.length < 17592186044416 then (if x6_1.length < 17592186044416 then (tontineref18_typed.l0 k1 l0 l1 (x6_1 ++ [t270]) (y278 ++ [t270]) (wrap64 (x8_1 + 1))) else (none)) else (none))) else (none))) else (none)) else (none)))) = some (r1, r2, r3) := H
      have A8 := Aside0.mk A80
      clear A80
      by_cases c9 : t270 = 0
      ·rw [if_pos c9] at H
       have c9b0 : (t270 == 0) = true := beq_iff_eq.mpr c9
       have c9b1 : (t270 != 0) = false := bne_eq_false_iff_eq.mpr c9
       clear c9
       simp only [Option.some.injEq, Prod.mk.injEq] at H
       obtain ⟨rfl, rfl, rfl⟩ := H
       have p266 : 0 ≤ (x8_1 : Int) := of_decide_eq_true sq7
       have q266 : x8_1 < (l0.length : Int) := of_decide_eq_true sq7
       obtain ⟨ad266, e266, hx266_0, hx266_1, hx266_2⟩ := at_T56 HR0.out x8_1 p266 q266
       cases e266
       try replace hx266_0 := (HB.out.cell (World.block_lt_of_cell? w _ hx266_0)).trans hx266_0
       try replace hx266_1 := (HB.out.cell (World.block_lt_of_cell? w _ hx266_1)).trans hx266_1
       try replace hx266_2 := (HB.out.cell (World.block_lt_of_cell? w _ hx266_2)).trans hx266_2
       replace p266 := eq_true p266
       replace q266 := eq_true q266
       go_wp2_with (first | (go_at_call 43; (with_reducible refine (tontineref18_parts.calls k1 ((rd_T56 l0 x8_1).f0) ((rd_T56 l0 x8_1).f1) ((rd_T56 l0 x8_1).f2) t267 _ A6.out).mono ?_); rintro e w10 ⟨rfl, hb⟩; have n0_ := Aside0.mk (Kd.R_below sq14 hb); have n1_ := Aside0.mk (Kd.R_below sq15 hb); have n2_ := Aside0.mk (blk_below (g := gb265) (o := .cells #[.int .i64 x266000_1, .int .i64 x266001_1] 32 (0, 0)) sq42 hb); have n3_ := Aside0.mk (below_step sq68 hb); clear HO_6; clear HO_7; clear BK265; clear HB; have HO_6 := n0_; have HO_7 := n1_; have BK265 := n2_; have HB := n3_; clear n0_ n1_ n2_ n3_; (try clear hb); (try clear hb2); (try clear hk); (try clear hi); have p268 : 0 ≤ (x8_1 : Int) := of_decide_eq_true sq7; have q268 : x8_1 < (l0.length : Int) := of_decide_eq_true sq7; obtain ⟨ad268, e268, hx268_0, hx268_1, hx268_2⟩ := at_T56 HR0.out x8_1 p268 q268; obtain rfl : ad266 = ad268 := (by injection e268); replace hx268_0 := (HB.out.cell (World.block_lt_of_cell? w _ hx268_0)).trans hx268_0; replace hx268_1 := (HB.out.cell (World.block_lt_of_cell? w _ hx268_1)).trans hx268_1; replace hx268_2 := (HB.out.cell (World.block_lt_of_cell? w _ hx268_2)).trans hx268_2; replace p268 := eq_true p268; replace q268 := eq_true q268; have p269 : 0 ≤ (x8_1 : Int) := of_decide_eq_true sq7; have q269 : x8_1 < (l0.length : Int) := of_decide_eq_true sq7; obtain ⟨ad269, e269, hx269_0, hx269_1, hx269_2⟩ := at_T56 HR0.out x8_1 p269 q269; obtain rfl : ad266 = ad269 := (by injection e269); replace hx269_0 := (HB.out.cell (World.block_lt_of_cell? w _ hx269_0)).trans hx269_0; replace hx269_1 := (HB.out.cell (World.block_lt_of_cell? w _ hx269_1)).trans hx269_1; replace hx269_2 := (HB.out.cell (World.block_lt_of_cell? w _ hx269_2)).trans hx269_2; replace p269 := eq_true p269; replace q269 := eq_true q269) | (go_at_call 44; (with_reducible refine (tontineref18_find.calls k1 _ _ l1 ((rd_T56 l0 x8_1).f2) t270 _ ?side1 ?side2 A8.out).mono ?_); (case side1 => repeat (first | exact (Kd.C_below HR1.out HB.out) | (with_reducible refine Kd.C_alloc ?_ _) | (with_reducible refine Kd.C_drewN ?_ _) | (with_reducible refine Kd.C_drew ?_))); (case side2 => exact HC1.out); rintro e w' ⟨rfl, ⟨nd, rfl⟩⟩; (try first | exact ⟨rfl, _, World.drewN_drewN _ _ _⟩ | exact ⟨rfl, _, Eq.trans (World.drewN_drewN _ _ _) (congrArg (World.drewN _) (Nat.add_assoc _ _ _))⟩); have hcz11_0 : w10.cell? ⟨gb265, 0, none⟩ = some (.int .i64 x266000_1) := (blk_cell BK265.out 0).trans rfl; have hcz11_1 : w10.cell? ⟨gb265, 1, none⟩ = some (.int .i64 x266001_1) := (blk_cell BK265.out 1).trans rfl; have hfz11_0 := blk_frozen BK265.out 0; have hfz11_1 := blk_frozen BK265.out 1))
       repeat (go_quiet (first | (go_at_call 43; (with_reducible refine (tontineref18_parts.calls k1 ((rd_T56 l0 x8_1).f0) ((rd_T56 l0 x8_1).f1) ((rd_T56 l0 x8_1).f2) t267 _ A6.out).mono ?_); rintro e w10 ⟨rfl, hb⟩; have n0_ := Aside0.mk (Kd.R_below sq14 hb); have n1_ := Aside0.mk (Kd.R_below sq15 hb); have n2_ := Aside0.mk (blk_below (g := gb265) (o := .cells #[.int .i64 x266000_1, .int .i64 x266001_1] 32 (0, 0)) sq42 hb); have n3_ := Aside0.mk (below_step sq68 hb); clear HO_6; clear HO_7; clear BK265; clear HB; have HO_6 := n0_; have HO_7 := n1_; have BK265 := n2_; have HB := n3_; clear n0_ n1_ n2_ n3_; (try clear hb); (try clear hb2); (try clear hk); (try clear hi); have p268 : 0 ≤ (x8_1 : Int) := of_decide_eq_true sq7; have q268 : x8_1 < (l0.length : Int) := of_decide_eq_true sq7; obtain ⟨ad268, e268, hx268_0, hx268_1, hx268_2⟩ := at_T56 HR0.out x8_1 p268 q268; obtain rfl : ad266 = ad268 := (by injection e268); replace hx268_0 := (HB.out.cell (World.block_lt_of_cell? w _ hx268_0)).trans hx268_0; replace hx268_1 := (HB.out.cell (World.block_lt_of_cell? w _ hx268_1)).trans hx268_1; replace hx268_2 := (HB.out.cell (World.block_lt_of_cell? w _ hx268_2)).trans hx268_2; replace p268 := eq_true p268; replace q268 := eq_true q268; have p269 : 0 ≤ (x8_1 : Int) := of_decide_eq_true sq7; have q269 : x8_1 < (l0.length : Int) := of_decide_eq_true sq7; obtain ⟨ad269, e269, hx269_0, hx269_1, hx269_2⟩ := at_T56 HR0.out x8_1 p269 q269; obtain rfl : ad266 = ad269 := (by injection e269); replace hx269_0 := (HB.out.cell (World.block_lt_of_cell? w _ hx269_0)).trans hx269_0; replace hx269_1 := (HB.out.cell (World.block_lt_of_cell? w _ hx269_1)).trans hx269_1; replace hx269_2 := (HB.out.cell (World.block_lt_of_cell? w _ hx269_2)).trans hx269_2; replace p269 := eq_true p269; replace q269 := eq_true q269) | (go_at_call 44; (with_reducible refine (tontineref18_find.calls k1 _ _ l1 ((rd_T56 l0 x8_1).f2) t270 _ ?side1 ?side2 A8.out).mono ?_); (case side1 => repeat (first | exact (Kd.C_below HR1.out HB.out) | (with_reducible refine Kd.C_alloc ?_ _) | (with_reducible refine Kd.C_drewN ?_ _) | (with_reducible refine Kd.C_drew ?_))); (case side2 => exact HC1.out); rintro e w' ⟨rfl, ⟨nd, rfl⟩⟩; (try first | exact ⟨rfl, _, World.drewN_drewN _ _ _⟩ | exact ⟨rfl, _, Eq.trans (World.drewN_drewN _ _ _) (congrArg (World.drewN _) (Nat.add_assoc _ _ _))⟩); have hcz11_0 : w10.cell? ⟨gb265, 0, none⟩ = some (.int .i64 x266000_1) := (blk_cell BK265.out 0).trans rfl; have hcz11_1 : w10.cell? ⟨gb265, 1, none⟩ = some (.int .i64 x266001_1) := (blk_cell BK265.out 1).trans rfl; have hfz11_0 := blk_frozen BK265.out 0; have hfz11_1 := blk_frozen BK265.out 1)); try go_wp2_with (first | (go_at_call 43; (with_reducible refine (tontineref18_parts.calls k1 ((rd_T56 l0 x8_1).f0) ((rd_T56 l0 x8_1).f1) ((rd_T56 l0 x8_1).f2) t267 _ A6.out).mono ?_); rintro e w10 ⟨rfl, hb⟩; have n0_ := Aside0.mk (Kd.R_below sq14 hb); have n1_ := Aside0.mk (Kd.R_below sq15 hb); have n2_ := Aside0.mk (blk_below (g := gb265) (o := .cells #[.int .i64 x266000_1, .int .i64 x266001_1] 32 (0, 0)) sq42 hb); have n3_ := Aside0.mk (below_step sq68 hb); clear HO_6; clear HO_7; clear BK265; clear HB; have HO_6 := n0_; have HO_7 := n1_; have BK265 := n2_; have HB := n3_; clear n0_ n1_ n2_ n3_; (try clear hb); (try clear hb2); (try clear hk); (try clear hi); have p268 : 0 ≤ (x8_1 : Int) := of_decide_eq_true sq7; have q268 : x8_1 < (l0.length : Int) := of_decide_eq_true sq7; obtain ⟨ad268, e268, hx268_0, hx268_1, hx268_2⟩ := at_T56 HR0.out x8_1 p268 q268; obtain rfl : ad266 = ad268 := (by injection e268); replace hx268_0 := (HB.out.cell (World.block_lt_of_cell? w _ hx268_0)).trans hx268_0; replace hx268_1 := (HB.out.cell (World.block_lt_of_cell? w _ hx268_1)).trans hx268_1; replace hx268_2 := (HB.out.cell (World.block_lt_of_cell? w _ hx268_2)).trans hx268_2; replace p268 := eq_true p268; replace q268 := eq_true q268; have p269 : 0 ≤ (x8_1 : Int) := of_decide_eq_true sq7; have q269 : x8_1 < (l0.length : Int) := of_decide_eq_true sq7; obtain ⟨ad269, e269, hx269_0, hx269_1, hx269_2⟩ := at_T56 HR0.out x8_1 p269 q269; obtain rfl : ad266 = ad269 := (by injection e269); replace hx269_0 := (HB.out.cell (World.block_lt_of_cell? w _ hx269_0)).trans hx269_0; replace hx269_1 := (HB.out.cell (World.block_lt_of_cell? w _ hx269_1)).trans hx269_1; replace hx269_2 := (HB.out.cell (World.block_lt_of_cell? w _ hx269_2)).trans hx269_2; replace p269 := eq_true p269; replace q269 := eq_true q269) | (go_at_call 44; (with_reducible refine (tontineref18_find.calls k1 _ _ l1 ((rd_T56 l0 x8_1).f2) t270 _ ?side1 ?side2 A8.out).mono ?_); (case side1 => repeat (first | exact (Kd.C_below HR1.out HB.out) | (with_reducible refine Kd.C_alloc ?_ _) | (with_reducible refine Kd.C_drewN ?_ _) | (with_reducible refine Kd.C_drew ?_))); (case side2 => exact HC1.out); rintro e w' ⟨rfl, ⟨nd, rfl⟩⟩; (try first | exact ⟨rfl, _, World.drewN_drewN _ _ _⟩ | exact ⟨rfl, _, Eq.trans (World.drewN_drewN _ _ _) (congrArg (World.drewN _) (Nat.add_assoc _ _ _))⟩); have hcz11_0 : w10.cell? ⟨gb265, 0, none⟩ = some (.int .i64 x266000_1) := (blk_cell BK265.out 0).trans rfl; have hcz11_1 : w10.cell? ⟨gb265, 1, none⟩ = some (.int .i64 x266001_1) := (blk_cell BK265.out 1).trans rfl; have hfz11_0 := blk_frozen BK265.out 0; have hfz11_1 := blk_frozen BK265.out 1)))
       refine bodyPost_ret (results_tc rfl _ _ gb265 32 #[.int .i64 x8_1, .int .i64 181] (0, 0) _ rfl (by (with_reducible repeat (first | refine blk_drewN ?_ _ | refine blk_drew ?_ | refine blk_alloc ?_ _)); refine blk_put (cs := #[.int .i64 x8_1, .int .i64 x266001_1]) ?_ 1 _ rfl; (with_reducible repeat (first | refine blk_drewN ?_ _ | refine blk_drew ?_ | refine blk_alloc ?_ _)); refine blk_put (cs := #[.int .i64 x266000_1, .int .i64 x266001_1]) ?_ 0 _ rfl; (with_reducible repeat (first | refine blk_drewN ?_ _ | refine blk_drew ?_ | refine blk_alloc ?_ _)); exact BK265.out) Try.underlying32 rfl (by kernel_rfl)) rfl ?_
       exact ⟨_, sq13, sq51, sq68⟩
      rw [if_neg c9] at H
      have c9b0 : (t270 == 0) = false := beq_eq_false_iff_ne.mpr c9
      have c9b1 : (t270 != 0) = true := bne_iff_ne.mpr c9
      obtain ⟨y271, hy271⟩ : ∃ y_ : List Int, y_ = (([] : List Int)) := ⟨_, rfl⟩
      replace H : (if 0 ≤ (wrap64 ((x7_1.length : Int) - t267)) then (if (wrap64 ((x7_1.length : Int) - t267)) ≤ (x7_1.length : Int) then ((some (x7_1.take ((wrap64 ((x7_1.length : Int) - t267)) : Int).toNat : List Int)).bind fun y274 => (if y271.length + y274.length < 17592186044416 then ((some (y271 ++ y274 : List Int)).bind fun y278 => (if y278.length < 17592186044416 then (if x6_1.length < 17592186044416 then (tontineref18_typed.l0 k1 l0 l1 (x6_1 ++ [t270]) (y278 ++ [t270]) (wrap64 (x8_1 + 1))) else (none)) else (none))) else (none))) else (none)) else (none)) = some (r1, r2, r3) := by first | (rw [hy271]; with_reducible exact H) | (have H2_ := (Option.bind_some _ _).symm.trans H; rw [hy271]; with_reducible exact H2_) | (have H2_ := (Option.bind_some _ _).symm.trans H; with_reducible exact H2_) | with_reducible exact H | (rw [hy271]; exact H) | exact H
      have Ny271 := Aside0.mk hy271
      clear hy271
      obtain ⟨ji12, hji12⟩ : ∃ j_ : Int, (wrap64 ((x7_1.length : Int) - t267)) = j_ := ⟨_, rfl⟩
      replace H : (if 0 ≤ (ji12) then (if (ji12) ≤ (x7_1.length : Int) then ((some (x7_1.take ((ji12) : Int).toNat : List Int)).bind fun y274 => (if y271.length + y274.length < 17592186044416 then ((some (y271 ++ y274 : List Int)).bind fun y278 => (if y278.length < 17592186044416 then (if x6_1.length < 17592186044416 then (tontineref18_typed.l0 k1 l0 l1 (x6_1 ++ [t270]) (y278 ++ [t270]) (wrap64 (x8_1 + 1))) else (none)) else (none))) else (none))) else (none)) else (none)) = some (r1, r2, r3) := by first | (rw [hji12] at H; exact H) | (simp only [hji12] at H ⊢; exact H)
      (try rw [hji12] at A6)
      (try rw [hji12] at A8)
      have hji12w : (IntKind.i64.wrap ((x7_1.length : Int) - t267)) = ji12 := (i64_w _).trans hji12
      by_cases c13 : 0 ≤ (ji12)
      ·rw [if_pos c13] at H
       have c13b0 := eq_true c13
       have c13b1 : decide (0 ≤ (ji12)) = true := decide_eq_true c13
       clear c13
       by_cases c14 : (ji12) ≤ (x7_1.length : Int)
       ·rw [if_pos c14] at H
        have c14b0 := eq_true c14
        have c14b1 : decide ((ji12) ≤ (x7_1.length : Int)) = true := decide_eq_true c14
        clear c14
        obtain ⟨y274, hy274⟩ : ∃ y_ : List Int, y_ = (x7_1.take ((ji12) : Int).toNat) := ⟨_, rfl⟩
        replace H : (if y271.length + y274.length < 17592186044416 then ((some (y271 ++ y274 : List Int)).bind fun y278 => (if y278.length < 17592186044416 then (if x6_1.length < 17592186044416 then (tontineref18_typed.l0 k1 l0 l1 (x6_1 ++ [t270]) (y278 ++ [t270]) (wrap64 (x8_1 + 1))) else (none)) else (none))) else (none)) = some (r1, r2, r3) := by first | (rw [hy274]; with_reducible exact H) | (have H2_ := (Option.bind_some _ _).symm.trans H; rw [hy274]; with_reducible exact H2_) | (have H2_ := (Option.bind_some _ _).symm.trans H; with_reducible exact H2_) | with_reducible exact H | (rw [hy274]; exact H) | exact H
        have Ny274 := Aside0.mk hy274
        clear hy274
        by_cases c15 : y271.length + y274.length < 17592186044416
        ·rw [if_pos c15] at H
         have LMc15 := Aside0.mk c15
         clear c15
         obtain ⟨y278, hy278⟩ : ∃ y_ : List Int, y_ = (y271 ++ y274) := ⟨_, rfl⟩
         replace H : (if y278.length < 17592186044416 then (if x6_1.length < 17592186044416 then (tontineref18_typed.l0 k1 l0 l1 (x6_1 ++ [t270]) (y278 ++ [t270]) (wrap64 (x8_1 + 1))) else (none)) else (none)) = some (r1, r2, r3) := by first | (rw [hy278]; with_reducible exact H) | (have H2_ := (Option.bind_some _ _).symm.trans H; rw [hy278]; with_reducible exact H2_) | (have H2_ := (Option.bind_some _ _).symm.trans H; with_reducible exact H2_) | with_reducible exact H | (rw [hy278]; exact H) | exact H
         have Ny278 := Aside0.mk hy278
         clear hy278
         by_cases c16 : y278.length < 17592186044416
         ·rw [if_pos c16] at H
          have LMc16 := Aside0.mk c16
          clear c16
          obtain ⟨y281, hy281⟩ : ∃ y_ : List Int, y_ = (y278 ++ [t270]) := ⟨_, rfl⟩
          replace H : (if x6_1.length < 17592186044416 then (tontineref18_typed.l0 k1 l0 l1 (x6_1 ++ [t270]) y281 (wrap64 (x8_1 + 1))) else (none)) = some (r1, r2, r3) := by first | (rw [hy281]; with_reducible exact H) | (have H2_ := (Option.bind_some _ _).symm.trans H; rw [hy281]; with_reducible exact H2_) | (have H2_ := (Option.bind_some _ _).symm.trans H; with_reducible exact H2_) | with_reducible exact H | (rw [hy281]; exact H) | exact H
          have Ny281 := Aside0.mk hy281
          clear hy281
          by_cases c17 : x6_1.length < 17592186044416
          ·rw [if_pos c17] at H
           have LMc17 := Aside0.mk c17
           clear c17
           obtain ⟨y284, hy284⟩ : ∃ y_ : List Int, y_ = (x6_1 ++ [t270]) := ⟨_, rfl⟩
           replace H : (tontineref18_typed.l0 k1 l0 l1 y284 y281 (wrap64 (x8_1 + 1))) = some (r1, r2, r3) := by first | (rw [hy284]; with_reducible exact H) | (have H2_ := (Option.bind_some _ _).symm.trans H; rw [hy284]; with_reducible exact H2_) | (have H2_ := (Option.bind_some _ _).symm.trans H; with_reducible exact H2_) | with_reducible exact H | (rw [hy284]; exact H) | exact H
           have Ny284 := Aside0.mk hy284
           clear hy284
           have H' := Aside0.mk H
           clear H
           have p266 : 0 ≤ (x8_1 : Int) := of_decide_eq_true sq7
           have q266 : x8_1 < (l0.length : Int) := of_decide_eq_true sq7
           obtain ⟨ad266, e266, hx266_0, hx266_1, hx266_2⟩ := at_T56 HR0.out x8_1 p266 q266
           cases e266
           try replace hx266_0 := (HB.out.cell (World.block_lt_of_cell? w _ hx266_0)).trans hx266_0
           try replace hx266_1 := (HB.out.cell (World.block_lt_of_cell? w _ hx266_1)).trans hx266_1
           try replace hx266_2 := (HB.out.cell (World.block_lt_of_cell? w _ hx266_2)).trans hx266_2
           replace p266 := eq_true p266
           replace q266 := eq_true q266
           go_wp2_with (first | (go_at_call 43; (with_reducible refine (tontineref18_parts.calls k1 ((rd_T56 l0 x8_1).f0) ((rd_T56 l0 x8_1).f1) ((rd_T56 l0 x8_1).f2) t267 _ A6.out).mono ?_); rintro e w18 ⟨rfl, hb⟩; have n0_ := Aside0.mk (Kd.R_below sq14 hb); have n1_ := Aside0.mk (Kd.R_below sq15 hb); have n2_ := Aside0.mk (blk_below (g := gb265) (o := .cells #[.int .i64 x266000_1, .int .i64 x266001_1] 32 (0, 0)) sq42 hb); have n3_ := Aside0.mk (below_step sq68 hb); clear HO_6; clear HO_7; clear BK265; clear HB; have HO_6 := n0_; have HO_7 := n1_; have BK265 := n2_; have HB := n3_; clear n0_ n1_ n2_ n3_; (try clear hb); (try clear hb2); (try clear hk); (try clear hi); have p268 : 0 ≤ (x8_1 : Int) := of_decide_eq_true sq7; have q268 : x8_1 < (l0.length : Int) := of_decide_eq_true sq7; obtain ⟨ad268, e268, hx268_0, hx268_1, hx268_2⟩ := at_T56 HR0.out x8_1 p268 q268; obtain rfl : ad266 = ad268 := (by injection e268); replace hx268_0 := (HB.out.cell (World.block_lt_of_cell? w _ hx268_0)).trans hx268_0; replace hx268_1 := (HB.out.cell (World.block_lt_of_cell? w _ hx268_1)).trans hx268_1; replace hx268_2 := (HB.out.cell (World.block_lt_of_cell? w _ hx268_2)).trans hx268_2; replace p268 := eq_true p268; replace q268 := eq_true q268; have p269 : 0 ≤ (x8_1 : Int) := of_decide_eq_true sq7; have q269 : x8_1 < (l0.length : Int) := of_decide_eq_true sq7; obtain ⟨ad269, e269, hx269_0, hx269_1, hx269_2⟩ := at_T56 HR0.out x8_1 p269 q269; obtain rfl : ad266 = ad269 := (by injection e269); replace hx269_0 := (HB.out.cell (World.block_lt_of_cell? w _ hx269_0)).trans hx269_0; replace hx269_1 := (HB.out.cell (World.block_lt_of_cell? w _ hx269_1)).trans hx269_1; replace hx269_2 := (HB.out.cell (World.block_lt_of_cell? w _ hx269_2)).trans hx269_2; replace p269 := eq_true p269; replace q269 := eq_true q269) | (go_at_call 44; (with_reducible refine (tontineref18_find.calls k1 _ _ l1 ((rd_T56 l0 x8_1).f2) t270 _ ?side1 ?side2 A8.out).mono ?_); (case side1 => repeat (first | exact (Kd.C_below HR1.out HB.out) | (with_reducible refine Kd.C_alloc ?_ _) | (with_reducible refine Kd.C_drewN ?_ _) | (with_reducible refine Kd.C_drew ?_))); (case side2 => exact HC1.out); rintro e w' ⟨rfl, ⟨nd, rfl⟩⟩; (try first | exact ⟨rfl, _, World.drewN_drewN _ _ _⟩ | exact ⟨rfl, _, Eq.trans (World.drewN_drewN _ _ _) (congrArg (World.drewN _) (Nat.add_assoc _ _ _))⟩)) | ((with_reducible refine gate_dst (N := 53) rfl ?_); refine Kd.R_lit (Kd.int .i64) _ 3 ?hg (N := 53) ?hd (xs := ([] : List Int)) (inner := []) (ok := fun _ => True) (okp := fun _ => True) ?hr ?hp (fun _ hk => hk) trivial (Below.refl _ _) (Nat.le_refl _) (by simp) ?_; (case hd => rfl); (case hg => rfl); (case hr => first | (go_simp; done) | (go_simp; rfl)); (case hp => exact (Reps.none _ _)); intro v272 w19 ho20 hb hg_ hnew_; clear hg_ hnew_; (first | rw [← Ny271.out] at ho20 | (simp only [Int.reduceToNat] at ho20; rw [← Ny271.out] at ho20)); have n0_ := Aside0.mk (Kd.R_elder' sq14 (Kd.R_base ho20) hb); have n1_ := Aside0.mk (Kd.R_elder' sq15 (Kd.R_base ho20) hb); have n2_ := Aside0.mk (Kd.R_lower (Kd.R_new' (Kd.R_new' ho20 (Kd.R_lt sq14)) (Kd.R_lt sq15)) (below_size sq68)); have n3_ := Aside0.mk (blk_below (g := gb265) (o := .cells #[.int .i64 x266000_1, .int .i64 x266001_1] 32 (0, 0)) sq42 hb); have n4_ := Aside0.mk (below_step sq68 hb); clear HO_6; clear HO_7; clear BK265; clear HB; have HO_6 := n0_; have HO_7 := n1_; have HO273 := n2_; have BK265 := n3_; have HB := n4_; clear n0_ n1_ n2_ n3_ n4_; clear hb ho20; obtain ⟨Ao21, co21, eo21⟩ := Kd.R_slice HO_7.out; subst eo21; have q22 : ((ji12) : Int) ≤ ((x7_1.length : Int) : Int) := of_decide_eq_true sq7; obtain ⟨i022, hi022, _, hsz22, _⟩ := info_parts info3; have hroom22 : x7_1.length ≤ co21 := (Kd.R_reads' HO_7.out).2.1; have hC22 : Kd.C (Kd.int .i64) _ Ao21 x7_1.length x7_1 := (Kd.R_reads' HO_7.out).2.2; have hcut22 := cut_to (P := Try.prog) 36 3 .i64 Try.underlying36 hi022 Ao21 x7_1.length co21 (ji12) (of_decide_eq_true sq7) q22 hroom22; have hr22 := Kd.C_take (m := ((ji12) : Int).toNat) hC22 sq0; have hy22 : y274.length = ((ji12) : Int).toNat := (by rw [Ny274.out, List.length_take]; omega); rw [← Ny274.out] at hr22; rw [← hy22] at hcut22; have HR277 := Aside0.mk hr22; have HC277 := Aside0.mk (show y274.length ≤ co21 from by omega); clear hr22 hC22 hroom22 hi022 hsz22; have KY22 := Aside0.mk hy22; clear hy22; have KL22 := Aside0.mk (show ((ji12) : Int).toNat ≤ x7_1.length from by omega); replace q22 := eq_true q22) | ((with_reducible refine gate_builtin (b := .append) (xs := #[.tmp 53, .tmp 59]) rfl ?_); at_builtin; refine Kd.R_append_rows (Kd.int .i64) (w0 := w) w.heap.size rfl (.tmp 53) (.tmp 59) 36 3 (.int .i64 0) 8 rfl Try.underlying36 info3 rfl sq1 sq0 v272 y271 y274 _ _ _ (fun k_ => some k_ ≠ (u6 : Value).ownBlock ∧ some k_ ≠ (.slice Ao21 x7_1.length co21 : Value).ownBlock) (fun _ => False) rfl rfl ?aO ?aR (fun _ _ h => h) (fun _ h => h.elim) ?aF ?aB ?aS ?aL ?_; (case aR => repeat (first | exact sq81 | (with_reducible refine Kd.C_alloc ?_ _) | (with_reducible refine Kd.C_drewN ?_ _) | (with_reducible refine Kd.C_drew ?_))); (case aB => exact sq68); (case aF => exact (fun k_ hk => ⟨Kd.fresh' (Kd.R_lt sq14) k_ hk, Kd.fresh' (Kd.R_lt sq15) k_ hk⟩)); (case aO => exact sq55); (case aS => exact (below_size sq68)); (case aL => have := LMc15.out; omega); intro v279 w23 ho hb hg hat; rw [← Ny278.out] at ho; have n0_ := Aside0.mk (Kd.R_after (ok := (fun k_ => some k_ ≠ (.slice Ao21 x7_1.length co21 : Value).ownBlock)) sq14 hg hat); have n1_ := Aside0.mk (Kd.R_after (ok := (fun k_ => some k_ ≠ (u6 : Value).ownBlock)) sq15 hg hat); have n2_ := Aside0.mk (blk_grown (g := gb265) (o := .cells #[.int .i64 x266000_1, .int .i64 x266001_1] 32 (0, 0)) sq42 hg (Kd.R_ne HO273.out BK265.out sq1)); have n3_ := Aside0.mk (hb); have n4_ := Aside0.mk ((show Kd.C (Kd.int .i64) w23 Ao21 y274.length y274 from by rw [Ny274.out]; exact Kd.C_take (m := ((ji12) : Int).toNat) ((Kd.R_reads' (Kd.R_after (ok := (fun k_ => some k_ ≠ (u6 : Value).ownBlock)) sq15 hg hat)).2.2) KL22.out)); have n5_ := Aside0.mk (ho); clear HO_6; clear HO_7; clear BK265; clear HB; clear HR277; clear HO273; have HO_6 := n0_; have HO_7 := n1_; have BK265 := n2_; have HB := n3_; have HR277 := n4_; have HO280 := n5_; clear n0_ n1_ n2_ n3_ n4_ n5_; clear ho hb hg hat) | ((with_reducible refine gate_builtin (b := .append) (xs := #[.tmp 60, .tmp 62]) rfl ?_); at_builtin; refine Kd.R_append (Kd.int .i64) (w0 := w) w.heap.size rfl (.tmp 60) (.tmp 62) 36 3 (.int .i64 0) 8 rfl Try.underlying36 info3 rfl sq1 sq0 v279 y278 t270 [.int .i64 t270] (fun k_ => some k_ ≠ (u6 : Value).ownBlock ∧ some k_ ≠ (.slice Ao21 x7_1.length co21 : Value).ownBlock) (fun _ => False) rfl rfl ?aP (fun _ hk => hk.elim) ?aF ?aO ?aB ?aS ?aL ?_; (case aP => exact rfl); (case aB => exact sq68); (case aF => exact (fun k_ hk => ⟨Kd.fresh' (Kd.R_lt sq14) k_ hk, Kd.fresh' (Kd.R_lt sq15) k_ hk⟩)); (case aO => exact sq20); (case aS => exact (below_size sq68)); (case aL => have := LMc16.out; omega); intro v282 w24 ho hb hg hat; rw [← Ny281.out] at ho; have n0_ := Aside0.mk (Kd.R_after (ok := (fun k_ => some k_ ≠ (.slice Ao21 x7_1.length co21 : Value).ownBlock)) sq14 hg hat); have n1_ := Aside0.mk (Kd.R_after (ok := (fun k_ => some k_ ≠ (u6 : Value).ownBlock)) sq15 hg hat); have n2_ := Aside0.mk (blk_grown (g := gb265) (o := .cells #[.int .i64 x266000_1, .int .i64 x266001_1] 32 (0, 0)) sq42 hg (Kd.R_ne HO280.out BK265.out sq1)); have n3_ := Aside0.mk (hb); have n4_ := Aside0.mk ((show Kd.C (Kd.int .i64) w24 Ao21 y274.length y274 from by rw [Ny274.out]; exact Kd.C_take (m := ((ji12) : Int).toNat) ((Kd.R_reads' (Kd.R_after (ok := (fun k_ => some k_ ≠ (u6 : Value).ownBlock)) sq15 hg hat)).2.2) KL22.out)); have n5_ := Aside0.mk (ho); clear HO_6; clear HO_7; clear BK265; clear HB; clear HR277; clear HO280; have HO_6 := n0_; have HO_7 := n1_; have BK265 := n2_; have HB := n3_; have HR277 := n4_; have HO283 := n5_; clear n0_ n1_ n2_ n3_ n4_ n5_; clear ho hb hg hat) | ((with_reducible refine gate_builtin (b := .append) (xs := #[.tmp 64, .tmp 66]) rfl ?_); at_builtin; refine Kd.R_append (Kd.int .i64) (w0 := w) w.heap.size rfl (.tmp 64) (.tmp 66) 36 3 (.int .i64 0) 8 rfl Try.underlying36 info3 rfl sq1 sq0 u6 x6_1 t270 [.int .i64 t270] (fun k_ => some k_ ≠ (.slice Ao21 x7_1.length co21 : Value).ownBlock ∧ some k_ ≠ (v282 : Value).ownBlock) (fun _ => False) rfl rfl ?aP (fun _ hk => hk.elim) ?aF ?aO ?aB ?aS ?aL ?_; (case aP => exact rfl); (case aB => exact sq68); (case aF => exact (fun k_ hk => ⟨Kd.fresh' (Kd.R_lt sq15) k_ hk, Kd.fresh' (Kd.R_lt sq21) k_ hk⟩)); (case aO => exact sq14); (case aS => exact (below_size sq68)); (case aL => have := LMc17.out; omega); intro v285 w25 ho hb hg hat; rw [← Ny284.out] at ho; have n0_ := Aside0.mk (Kd.R_after (ok := (fun k_ => some k_ ≠ (v282 : Value).ownBlock)) sq52 hg hat); have n1_ := Aside0.mk (blk_grown (g := gb265) (o := .cells #[.int .i64 x266000_1, .int .i64 x266001_1] 32 (0, 0)) sq42 hg (Kd.R_ne HO_6.out BK265.out sq1)); have n2_ := Aside0.mk (Kd.R_after (ok := (fun k_ => some k_ ≠ (.slice Ao21 x7_1.length co21 : Value).ownBlock)) sq53 hg hat); have n3_ := Aside0.mk (hb); have n4_ := Aside0.mk ((show Kd.C (Kd.int .i64) w25 Ao21 y274.length y274 from by rw [Ny274.out]; exact Kd.C_take (m := ((ji12) : Int).toNat) ((Kd.R_reads' (Kd.R_after (ok := (fun k_ => some k_ ≠ (v282 : Value).ownBlock)) sq52 hg hat)).2.2) KL22.out)); have n5_ := Aside0.mk (ho); clear HO_7; clear BK265; clear HO283; clear HB; clear HR277; clear HO_6; have HO_7 := n0_; have BK265 := n1_; have HO283 := n2_; have HB := n3_; have HR277 := n4_; have HO286 := n5_; clear n0_ n1_ n2_ n3_ n4_ n5_; clear ho hb hg hat))
           repeat (go_quiet (first | (go_at_call 43; (with_reducible refine (tontineref18_parts.calls k1 ((rd_T56 l0 x8_1).f0) ((rd_T56 l0 x8_1).f1) ((rd_T56 l0 x8_1).f2) t267 _ A6.out).mono ?_); rintro e w18 ⟨rfl, hb⟩; have n0_ := Aside0.mk (Kd.R_below sq14 hb); have n1_ := Aside0.mk (Kd.R_below sq15 hb); have n2_ := Aside0.mk (blk_below (g := gb265) (o := .cells #[.int .i64 x266000_1, .int .i64 x266001_1] 32 (0, 0)) sq42 hb); have n3_ := Aside0.mk (below_step sq68 hb); clear HO_6; clear HO_7; clear BK265; clear HB; have HO_6 := n0_; have HO_7 := n1_; have BK265 := n2_; have HB := n3_; clear n0_ n1_ n2_ n3_; (try clear hb); (try clear hb2); (try clear hk); (try clear hi); have p268 : 0 ≤ (x8_1 : Int) := of_decide_eq_true sq7; have q268 : x8_1 < (l0.length : Int) := of_decide_eq_true sq7; obtain ⟨ad268, e268, hx268_0, hx268_1, hx268_2⟩ := at_T56 HR0.out x8_1 p268 q268; obtain rfl : ad266 = ad268 := (by injection e268); replace hx268_0 := (HB.out.cell (World.block_lt_of_cell? w _ hx268_0)).trans hx268_0; replace hx268_1 := (HB.out.cell (World.block_lt_of_cell? w _ hx268_1)).trans hx268_1; replace hx268_2 := (HB.out.cell (World.block_lt_of_cell? w _ hx268_2)).trans hx268_2; replace p268 := eq_true p268; replace q268 := eq_true q268; have p269 : 0 ≤ (x8_1 : Int) := of_decide_eq_true sq7; have q269 : x8_1 < (l0.length : Int) := of_decide_eq_true sq7; obtain ⟨ad269, e269, hx269_0, hx269_1, hx269_2⟩ := at_T56 HR0.out x8_1 p269 q269; obtain rfl : ad266 = ad269 := (by injection e269); replace hx269_0 := (HB.out.cell (World.block_lt_of_cell? w _ hx269_0)).trans hx269_0; replace hx269_1 := (HB.out.cell (World.block_lt_of_cell? w _ hx269_1)).trans hx269_1; replace hx269_2 := (HB.out.cell (World.block_lt_of_cell? w _ hx269_2)).trans hx269_2; replace p269 := eq_true p269; replace q269 := eq_true q269) | (go_at_call 44; (with_reducible refine (tontineref18_find.calls k1 _ _ l1 ((rd_T56 l0 x8_1).f2) t270 _ ?side1 ?side2 A8.out).mono ?_); (case side1 => repeat (first | exact (Kd.C_below HR1.out HB.out) | (with_reducible refine Kd.C_alloc ?_ _) | (with_reducible refine Kd.C_drewN ?_ _) | (with_reducible refine Kd.C_drew ?_))); (case side2 => exact HC1.out); rintro e w' ⟨rfl, ⟨nd, rfl⟩⟩; (try first | exact ⟨rfl, _, World.drewN_drewN _ _ _⟩ | exact ⟨rfl, _, Eq.trans (World.drewN_drewN _ _ _) (congrArg (World.drewN _) (Nat.add_assoc _ _ _))⟩)) | ((with_reducible refine gate_dst (N := 53) rfl ?_); refine Kd.R_lit (Kd.int .i64) _ 3 ?hg (N := 53) ?hd (xs := ([] : List Int)) (inner := []) (ok := fun _ => True) (okp := fun _ => True) ?hr ?hp (fun _ hk => hk) trivial (Below.refl _ _) (Nat.le_refl _) (by simp) ?_; (case hd => rfl); (case hg => rfl); (case hr => first | (go_simp; done) | (go_simp; rfl)); (case hp => exact (Reps.none _ _)); intro v272 w19 ho20 hb hg_ hnew_; clear hg_ hnew_; (first | rw [← Ny271.out] at ho20 | (simp only [Int.reduceToNat] at ho20; rw [← Ny271.out] at ho20)); have n0_ := Aside0.mk (Kd.R_elder' sq14 (Kd.R_base ho20) hb); have n1_ := Aside0.mk (Kd.R_elder' sq15 (Kd.R_base ho20) hb); have n2_ := Aside0.mk (Kd.R_lower (Kd.R_new' (Kd.R_new' ho20 (Kd.R_lt sq14)) (Kd.R_lt sq15)) (below_size sq68)); have n3_ := Aside0.mk (blk_below (g := gb265) (o := .cells #[.int .i64 x266000_1, .int .i64 x266001_1] 32 (0, 0)) sq42 hb); have n4_ := Aside0.mk (below_step sq68 hb); clear HO_6; clear HO_7; clear BK265; clear HB; have HO_6 := n0_; have HO_7 := n1_; have HO273 := n2_; have BK265 := n3_; have HB := n4_; clear n0_ n1_ n2_ n3_ n4_; clear hb ho20; obtain ⟨Ao21, co21, eo21⟩ := Kd.R_slice HO_7.out; subst eo21; have q22 : ((ji12) : Int) ≤ ((x7_1.length : Int) : Int) := of_decide_eq_true sq7; obtain ⟨i022, hi022, _, hsz22, _⟩ := info_parts info3; have hroom22 : x7_1.length ≤ co21 := (Kd.R_reads' HO_7.out).2.1; have hC22 : Kd.C (Kd.int .i64) _ Ao21 x7_1.length x7_1 := (Kd.R_reads' HO_7.out).2.2; have hcut22 := cut_to (P := Try.prog) 36 3 .i64 Try.underlying36 hi022 Ao21 x7_1.length co21 (ji12) (of_decide_eq_true sq7) q22 hroom22; have hr22 := Kd.C_take (m := ((ji12) : Int).toNat) hC22 sq0; have hy22 : y274.length = ((ji12) : Int).toNat := (by rw [Ny274.out, List.length_take]; omega); rw [← Ny274.out] at hr22; rw [← hy22] at hcut22; have HR277 := Aside0.mk hr22; have HC277 := Aside0.mk (show y274.length ≤ co21 from by omega); clear hr22 hC22 hroom22 hi022 hsz22; have KY22 := Aside0.mk hy22; clear hy22; have KL22 := Aside0.mk (show ((ji12) : Int).toNat ≤ x7_1.length from by omega); replace q22 := eq_true q22) | ((with_reducible refine gate_builtin (b := .append) (xs := #[.tmp 53, .tmp 59]) rfl ?_); at_builtin; refine Kd.R_append_rows (Kd.int .i64) (w0 := w) w.heap.size rfl (.tmp 53) (.tmp 59) 36 3 (.int .i64 0) 8 rfl Try.underlying36 info3 rfl sq1 sq0 v272 y271 y274 _ _ _ (fun k_ => some k_ ≠ (u6 : Value).ownBlock ∧ some k_ ≠ (.slice Ao21 x7_1.length co21 : Value).ownBlock) (fun _ => False) rfl rfl ?aO ?aR (fun _ _ h => h) (fun _ h => h.elim) ?aF ?aB ?aS ?aL ?_; (case aR => repeat (first | exact sq81 | (with_reducible refine Kd.C_alloc ?_ _) | (with_reducible refine Kd.C_drewN ?_ _) | (with_reducible refine Kd.C_drew ?_))); (case aB => exact sq68); (case aF => exact (fun k_ hk => ⟨Kd.fresh' (Kd.R_lt sq14) k_ hk, Kd.fresh' (Kd.R_lt sq15) k_ hk⟩)); (case aO => exact sq55); (case aS => exact (below_size sq68)); (case aL => have := LMc15.out; omega); intro v279 w23 ho hb hg hat; rw [← Ny278.out] at ho; have n0_ := Aside0.mk (Kd.R_after (ok := (fun k_ => some k_ ≠ (.slice Ao21 x7_1.length co21 : Value).ownBlock)) sq14 hg hat); have n1_ := Aside0.mk (Kd.R_after (ok := (fun k_ => some k_ ≠ (u6 : Value).ownBlock)) sq15 hg hat); have n2_ := Aside0.mk (blk_grown (g := gb265) (o := .cells #[.int .i64 x266000_1, .int .i64 x266001_1] 32 (0, 0)) sq42 hg (Kd.R_ne HO273.out BK265.out sq1)); have n3_ := Aside0.mk (hb); have n4_ := Aside0.mk ((show Kd.C (Kd.int .i64) w23 Ao21 y274.length y274 from by rw [Ny274.out]; exact Kd.C_take (m := ((ji12) : Int).toNat) ((Kd.R_reads' (Kd.R_after (ok := (fun k_ => some k_ ≠ (u6 : Value).ownBlock)) sq15 hg hat)).2.2) KL22.out)); have n5_ := Aside0.mk (ho); clear HO_6; clear HO_7; clear BK265; clear HB; clear HR277; clear HO273; have HO_6 := n0_; have HO_7 := n1_; have BK265 := n2_; have HB := n3_; have HR277 := n4_; have HO280 := n5_; clear n0_ n1_ n2_ n3_ n4_ n5_; clear ho hb hg hat) | ((with_reducible refine gate_builtin (b := .append) (xs := #[.tmp 60, .tmp 62]) rfl ?_); at_builtin; refine Kd.R_append (Kd.int .i64) (w0 := w) w.heap.size rfl (.tmp 60) (.tmp 62) 36 3 (.int .i64 0) 8 rfl Try.underlying36 info3 rfl sq1 sq0 v279 y278 t270 [.int .i64 t270] (fun k_ => some k_ ≠ (u6 : Value).ownBlock ∧ some k_ ≠ (.slice Ao21 x7_1.length co21 : Value).ownBlock) (fun _ => False) rfl rfl ?aP (fun _ hk => hk.elim) ?aF ?aO ?aB ?aS ?aL ?_; (case aP => exact rfl); (case aB => exact sq68); (case aF => exact (fun k_ hk => ⟨Kd.fresh' (Kd.R_lt sq14) k_ hk, Kd.fresh' (Kd.R_lt sq15) k_ hk⟩)); (case aO => exact sq20); (case aS => exact (below_size sq68)); (case aL => have := LMc16.out; omega); intro v282 w24 ho hb hg hat; rw [← Ny281.out] at ho; have n0_ := Aside0.mk (Kd.R_after (ok := (fun k_ => some k_ ≠ (.slice Ao21 x7_1.length co21 : Value).ownBlock)) sq14 hg hat); have n1_ := Aside0.mk (Kd.R_after (ok := (fun k_ => some k_ ≠ (u6 : Value).ownBlock)) sq15 hg hat); have n2_ := Aside0.mk (blk_grown (g := gb265) (o := .cells #[.int .i64 x266000_1, .int .i64 x266001_1] 32 (0, 0)) sq42 hg (Kd.R_ne HO280.out BK265.out sq1)); have n3_ := Aside0.mk (hb); have n4_ := Aside0.mk ((show Kd.C (Kd.int .i64) w24 Ao21 y274.length y274 from by rw [Ny274.out]; exact Kd.C_take (m := ((ji12) : Int).toNat) ((Kd.R_reads' (Kd.R_after (ok := (fun k_ => some k_ ≠ (u6 : Value).ownBlock)) sq15 hg hat)).2.2) KL22.out)); have n5_ := Aside0.mk (ho); clear HO_6; clear HO_7; clear BK265; clear HB; clear HR277; clear HO280; have HO_6 := n0_; have HO_7 := n1_; have BK265 := n2_; have HB := n3_; have HR277 := n4_; have HO283 := n5_; clear n0_ n1_ n2_ n3_ n4_ n5_; clear ho hb hg hat) | ((with_reducible refine gate_builtin (b := .append) (xs := #[.tmp 64, .tmp 66]) rfl ?_); at_builtin; refine Kd.R_append (Kd.int .i64) (w0 := w) w.heap.size rfl (.tmp 64) (.tmp 66) 36 3 (.int .i64 0) 8 rfl Try.underlying36 info3 rfl sq1 sq0 u6 x6_1 t270 [.int .i64 t270] (fun k_ => some k_ ≠ (.slice Ao21 x7_1.length co21 : Value).ownBlock ∧ some k_ ≠ (v282 : Value).ownBlock) (fun _ => False) rfl rfl ?aP (fun _ hk => hk.elim) ?aF ?aO ?aB ?aS ?aL ?_; (case aP => exact rfl); (case aB => exact sq68); (case aF => exact (fun k_ hk => ⟨Kd.fresh' (Kd.R_lt sq15) k_ hk, Kd.fresh' (Kd.R_lt sq21) k_ hk⟩)); (case aO => exact sq14); (case aS => exact (below_size sq68)); (case aL => have := LMc17.out; omega); intro v285 w25 ho hb hg hat; rw [← Ny284.out] at ho; have n0_ := Aside0.mk (Kd.R_after (ok := (fun k_ => some k_ ≠ (v282 : Value).ownBlock)) sq52 hg hat); have n1_ := Aside0.mk (blk_grown (g := gb265) (o := .cells #[.int .i64 x266000_1, .int .i64 x266001_1] 32 (0, 0)) sq42 hg (Kd.R_ne HO_6.out BK265.out sq1)); have n2_ := Aside0.mk (Kd.R_after (ok := (fun k_ => some k_ ≠ (.slice Ao21 x7_1.length co21 : Value).ownBlock)) sq53 hg hat); have n3_ := Aside0.mk (hb); have n4_ := Aside0.mk ((show Kd.C (Kd.int .i64) w25 Ao21 y274.length y274 from by rw [Ny274.out]; exact Kd.C_take (m := ((ji12) : Int).toNat) ((Kd.R_reads' (Kd.R_after (ok := (fun k_ => some k_ ≠ (v282 : Value).ownBlock)) sq52 hg hat)).2.2) KL22.out)); have n5_ := Aside0.mk (ho); clear HO_7; clear BK265; clear HO283; clear HB; clear HR277; clear HO_6; have HO_7 := n0_; have BK265 := n1_; have HO283 := n2_; have HB := n3_; have HR277 := n4_; have HO286 := n5_; clear n0_ n1_ n2_ n3_ n4_ n5_; clear ho hb hg hat)); try go_wp2_with (first | (go_at_call 43; (with_reducible refine (tontineref18_parts.calls k1 ((rd_T56 l0 x8_1).f0) ((rd_T56 l0 x8_1).f1) ((rd_T56 l0 x8_1).f2) t267 _ A6.out).mono ?_); rintro e w18 ⟨rfl, hb⟩; have n0_ := Aside0.mk (Kd.R_below sq14 hb); have n1_ := Aside0.mk (Kd.R_below sq15 hb); have n2_ := Aside0.mk (blk_below (g := gb265) (o := .cells #[.int .i64 x266000_1, .int .i64 x266001_1] 32 (0, 0)) sq42 hb); have n3_ := Aside0.mk (below_step sq68 hb); clear HO_6; clear HO_7; clear BK265; clear HB; have HO_6 := n0_; have HO_7 := n1_; have BK265 := n2_; have HB := n3_; clear n0_ n1_ n2_ n3_; (try clear hb); (try clear hb2); (try clear hk); (try clear hi); have p268 : 0 ≤ (x8_1 : Int) := of_decide_eq_true sq7; have q268 : x8_1 < (l0.length : Int) := of_decide_eq_true sq7; obtain ⟨ad268, e268, hx268_0, hx268_1, hx268_2⟩ := at_T56 HR0.out x8_1 p268 q268; obtain rfl : ad266 = ad268 := (by injection e268); replace hx268_0 := (HB.out.cell (World.block_lt_of_cell? w _ hx268_0)).trans hx268_0; replace hx268_1 := (HB.out.cell (World.block_lt_of_cell? w _ hx268_1)).trans hx268_1; replace hx268_2 := (HB.out.cell (World.block_lt_of_cell? w _ hx268_2)).trans hx268_2; replace p268 := eq_true p268; replace q268 := eq_true q268; have p269 : 0 ≤ (x8_1 : Int) := of_decide_eq_true sq7; have q269 : x8_1 < (l0.length : Int) := of_decide_eq_true sq7; obtain ⟨ad269, e269, hx269_0, hx269_1, hx269_2⟩ := at_T56 HR0.out x8_1 p269 q269; obtain rfl : ad266 = ad269 := (by injection e269); replace hx269_0 := (HB.out.cell (World.block_lt_of_cell? w _ hx269_0)).trans hx269_0; replace hx269_1 := (HB.out.cell (World.block_lt_of_cell? w _ hx269_1)).trans hx269_1; replace hx269_2 := (HB.out.cell (World.block_lt_of_cell? w _ hx269_2)).trans hx269_2; replace p269 := eq_true p269; replace q269 := eq_true q269) | (go_at_call 44; (with_reducible refine (tontineref18_find.calls k1 _ _ l1 ((rd_T56 l0 x8_1).f2) t270 _ ?side1 ?side2 A8.out).mono ?_); (case side1 => repeat (first | exact (Kd.C_below HR1.out HB.out) | (with_reducible refine Kd.C_alloc ?_ _) | (with_reducible refine Kd.C_drewN ?_ _) | (with_reducible refine Kd.C_drew ?_))); (case side2 => exact HC1.out); rintro e w' ⟨rfl, ⟨nd, rfl⟩⟩; (try first | exact ⟨rfl, _, World.drewN_drewN _ _ _⟩ | exact ⟨rfl, _, Eq.trans (World.drewN_drewN _ _ _) (congrArg (World.drewN _) (Nat.add_assoc _ _ _))⟩)) | ((with_reducible refine gate_dst (N := 53) rfl ?_); refine Kd.R_lit (Kd.int .i64) _ 3 ?hg (N := 53) ?hd (xs := ([] : List Int)) (inner := []) (ok := fun _ => True) (okp := fun _ => True) ?hr ?hp (fun _ hk => hk) trivial (Below.refl _ _) (Nat.le_refl _) (by simp) ?_; (case hd => rfl); (case hg => rfl); (case hr => first | (go_simp; done) | (go_simp; rfl)); (case hp => exact (Reps.none _ _)); intro v272 w19 ho20 hb hg_ hnew_; clear hg_ hnew_; (first | rw [← Ny271.out] at ho20 | (simp only [Int.reduceToNat] at ho20; rw [← Ny271.out] at ho20)); have n0_ := Aside0.mk (Kd.R_elder' sq14 (Kd.R_base ho20) hb); have n1_ := Aside0.mk (Kd.R_elder' sq15 (Kd.R_base ho20) hb); have n2_ := Aside0.mk (Kd.R_lower (Kd.R_new' (Kd.R_new' ho20 (Kd.R_lt sq14)) (Kd.R_lt sq15)) (below_size sq68)); have n3_ := Aside0.mk (blk_below (g := gb265) (o := .cells #[.int .i64 x266000_1, .int .i64 x266001_1] 32 (0, 0)) sq42 hb); have n4_ := Aside0.mk (below_step sq68 hb); clear HO_6; clear HO_7; clear BK265; clear HB; have HO_6 := n0_; have HO_7 := n1_; have HO273 := n2_; have BK265 := n3_; have HB := n4_; clear n0_ n1_ n2_ n3_ n4_; clear hb ho20; obtain ⟨Ao21, co21, eo21⟩ := Kd.R_slice HO_7.out; subst eo21; have q22 : ((ji12) : Int) ≤ ((x7_1.length : Int) : Int) := of_decide_eq_true sq7; obtain ⟨i022, hi022, _, hsz22, _⟩ := info_parts info3; have hroom22 : x7_1.length ≤ co21 := (Kd.R_reads' HO_7.out).2.1; have hC22 : Kd.C (Kd.int .i64) _ Ao21 x7_1.length x7_1 := (Kd.R_reads' HO_7.out).2.2; have hcut22 := cut_to (P := Try.prog) 36 3 .i64 Try.underlying36 hi022 Ao21 x7_1.length co21 (ji12) (of_decide_eq_true sq7) q22 hroom22; have hr22 := Kd.C_take (m := ((ji12) : Int).toNat) hC22 sq0; have hy22 : y274.length = ((ji12) : Int).toNat := (by rw [Ny274.out, List.length_take]; omega); rw [← Ny274.out] at hr22; rw [← hy22] at hcut22; have HR277 := Aside0.mk hr22; have HC277 := Aside0.mk (show y274.length ≤ co21 from by omega); clear hr22 hC22 hroom22 hi022 hsz22; have KY22 := Aside0.mk hy22; clear hy22; have KL22 := Aside0.mk (show ((ji12) : Int).toNat ≤ x7_1.length from by omega); replace q22 := eq_true q22) | ((with_reducible refine gate_builtin (b := .append) (xs := #[.tmp 53, .tmp 59]) rfl ?_); at_builtin; refine Kd.R_append_rows (Kd.int .i64) (w0 := w) w.heap.size rfl (.tmp 53) (.tmp 59) 36 3 (.int .i64 0) 8 rfl Try.underlying36 info3 rfl sq1 sq0 v272 y271 y274 _ _ _ (fun k_ => some k_ ≠ (u6 : Value).ownBlock ∧ some k_ ≠ (.slice Ao21 x7_1.length co21 : Value).ownBlock) (fun _ => False) rfl rfl ?aO ?aR (fun _ _ h => h) (fun _ h => h.elim) ?aF ?aB ?aS ?aL ?_; (case aR => repeat (first | exact sq81 | (with_reducible refine Kd.C_alloc ?_ _) | (with_reducible refine Kd.C_drewN ?_ _) | (with_reducible refine Kd.C_drew ?_))); (case aB => exact sq68); (case aF => exact (fun k_ hk => ⟨Kd.fresh' (Kd.R_lt sq14) k_ hk, Kd.fresh' (Kd.R_lt sq15) k_ hk⟩)); (case aO => exact sq55); (case aS => exact (below_size sq68)); (case aL => have := LMc15.out; omega); intro v279 w23 ho hb hg hat; rw [← Ny278.out] at ho; have n0_ := Aside0.mk (Kd.R_after (ok := (fun k_ => some k_ ≠ (.slice Ao21 x7_1.length co21 : Value).ownBlock)) sq14 hg hat); have n1_ := Aside0.mk (Kd.R_after (ok := (fun k_ => some k_ ≠ (u6 : Value).ownBlock)) sq15 hg hat); have n2_ := Aside0.mk (blk_grown (g := gb265) (o := .cells #[.int .i64 x266000_1, .int .i64 x266001_1] 32 (0, 0)) sq42 hg (Kd.R_ne HO273.out BK265.out sq1)); have n3_ := Aside0.mk (hb); have n4_ := Aside0.mk ((show Kd.C (Kd.int .i64) w23 Ao21 y274.length y274 from by rw [Ny274.out]; exact Kd.C_take (m := ((ji12) : Int).toNat) ((Kd.R_reads' (Kd.R_after (ok := (fun k_ => some k_ ≠ (u6 : Value).ownBlock)) sq15 hg hat)).2.2) KL22.out)); have n5_ := Aside0.mk (ho); clear HO_6; clear HO_7; clear BK265; clear HB; clear HR277; clear HO273; have HO_6 := n0_; have HO_7 := n1_; have BK265 := n2_; have HB := n3_; have HR277 := n4_; have HO280 := n5_; clear n0_ n1_ n2_ n3_ n4_ n5_; clear ho hb hg hat) | ((with_reducible refine gate_builtin (b := .append) (xs := #[.tmp 60, .tmp 62]) rfl ?_); at_builtin; refine Kd.R_append (Kd.int .i64) (w0 := w) w.heap.size rfl (.tmp 60) (.tmp 62) 36 3 (.int .i64 0) 8 rfl Try.underlying36 info3 rfl sq1 sq0 v279 y278 t270 [.int .i64 t270] (fun k_ => some k_ ≠ (u6 : Value).ownBlock ∧ some k_ ≠ (.slice Ao21 x7_1.length co21 : Value).ownBlock) (fun _ => False) rfl rfl ?aP (fun _ hk => hk.elim) ?aF ?aO ?aB ?aS ?aL ?_; (case aP => exact rfl); (case aB => exact sq68); (case aF => exact (fun k_ hk => ⟨Kd.fresh' (Kd.R_lt sq14) k_ hk, Kd.fresh' (Kd.R_lt sq15) k_ hk⟩)); (case aO => exact sq20); (case aS => exact (below_size sq68)); (case aL => have := LMc16.out; omega); intro v282 w24 ho hb hg hat; rw [← Ny281.out] at ho; have n0_ := Aside0.mk (Kd.R_after (ok := (fun k_ => some k_ ≠ (.slice Ao21 x7_1.length co21 : Value).ownBlock)) sq14 hg hat); have n1_ := Aside0.mk (Kd.R_after (ok := (fun k_ => some k_ ≠ (u6 : Value).ownBlock)) sq15 hg hat); have n2_ := Aside0.mk (blk_grown (g := gb265) (o := .cells #[.int .i64 x266000_1, .int .i64 x266001_1] 32 (0, 0)) sq42 hg (Kd.R_ne HO280.out BK265.out sq1)); have n3_ := Aside0.mk (hb); have n4_ := Aside0.mk ((show Kd.C (Kd.int .i64) w24 Ao21 y274.length y274 from by rw [Ny274.out]; exact Kd.C_take (m := ((ji12) : Int).toNat) ((Kd.R_reads' (Kd.R_after (ok := (fun k_ => some k_ ≠ (u6 : Value).ownBlock)) sq15 hg hat)).2.2) KL22.out)); have n5_ := Aside0.mk (ho); clear HO_6; clear HO_7; clear BK265; clear HB; clear HR277; clear HO280; have HO_6 := n0_; have HO_7 := n1_; have BK265 := n2_; have HB := n3_; have HR277 := n4_; have HO283 := n5_; clear n0_ n1_ n2_ n3_ n4_ n5_; clear ho hb hg hat) | ((with_reducible refine gate_builtin (b := .append) (xs := #[.tmp 64, .tmp 66]) rfl ?_); at_builtin; refine Kd.R_append (Kd.int .i64) (w0 := w) w.heap.size rfl (.tmp 64) (.tmp 66) 36 3 (.int .i64 0) 8 rfl Try.underlying36 info3 rfl sq1 sq0 u6 x6_1 t270 [.int .i64 t270] (fun k_ => some k_ ≠ (.slice Ao21 x7_1.length co21 : Value).ownBlock ∧ some k_ ≠ (v282 : Value).ownBlock) (fun _ => False) rfl rfl ?aP (fun _ hk => hk.elim) ?aF ?aO ?aB ?aS ?aL ?_; (case aP => exact rfl); (case aB => exact sq68); (case aF => exact (fun k_ hk => ⟨Kd.fresh' (Kd.R_lt sq15) k_ hk, Kd.fresh' (Kd.R_lt sq21) k_ hk⟩)); (case aO => exact sq14); (case aS => exact (below_size sq68)); (case aL => have := LMc17.out; omega); intro v285 w25 ho hb hg hat; rw [← Ny284.out] at ho; have n0_ := Aside0.mk (Kd.R_after (ok := (fun k_ => some k_ ≠ (v282 : Value).ownBlock)) sq52 hg hat); have n1_ := Aside0.mk (blk_grown (g := gb265) (o := .cells #[.int .i64 x266000_1, .int .i64 x266001_1] 32 (0, 0)) sq42 hg (Kd.R_ne HO_6.out BK265.out sq1)); have n2_ := Aside0.mk (Kd.R_after (ok := (fun k_ => some k_ ≠ (.slice Ao21 x7_1.length co21 : Value).ownBlock)) sq53 hg hat); have n3_ := Aside0.mk (hb); have n4_ := Aside0.mk ((show Kd.C (Kd.int .i64) w25 Ao21 y274.length y274 from by rw [Ny274.out]; exact Kd.C_take (m := ((ji12) : Int).toNat) ((Kd.R_reads' (Kd.R_after (ok := (fun k_ => some k_ ≠ (v282 : Value).ownBlock)) sq52 hg hat)).2.2) KL22.out)); have n5_ := Aside0.mk (ho); clear HO_7; clear BK265; clear HO283; clear HB; clear HR277; clear HO_6; have HO_7 := n0_; have BK265 := n1_; have HO283 := n2_; have HB := n3_; have HR277 := n4_; have HO286 := n5_; clear n0_ n1_ n2_ n3_ n4_ n5_; clear ho hb hg hat)))
           go_roundg k1
           case measure => have := HK1.out; omega
           case rel => exact ⟨(y284), (y281), (wrap64 (x8_1 + 1)), (x266000_1), (x266001_1), sq6, H', ⟨sq3⟩, ⟨by (with_reducible repeat (first | apply Kd.R_alloc | apply Kd.R_drewN | apply Kd.R_drew)); exact Kd.R_mono HO286.out (fun _ hk => hk.2)⟩, ⟨by (with_reducible repeat (first | apply Kd.R_alloc | apply Kd.R_drewN | apply Kd.R_drew)); exact Kd.R_mono HO283.out (fun _ hk => hk.2)⟩, ⟨sq42⟩, ⟨sq68⟩⟩
          rw [if_neg c17] at H
          exact absurd H (by simp)
         rw [if_neg c16] at H
         exact absurd H (by simp)
        rw [if_neg c15] at H
        exact absurd H (by simp)
       rw [if_neg c14] at H
       exact absurd H (by simp)
      rw [if_neg c13] at H
      exact absurd H (by simp)
     rw [if_neg c7] at H
     have c7b0 : (((rd_T56 l0 x8_1).f0) == 5) = false := beq_eq_false_iff_ne.mpr c7
     have c7b1 : (((rd_T56 l0 x8_1).f0) != 5) = true := bne_iff_ne.mpr c7
     obtain ⟨ji26, hji26⟩ : ∃ j_ : Int, (wrap64 ((x7_1.length : Int) - t267)) = j_ := ⟨_, rfl⟩
     replace H : (if 0 ≤ (ji26) then (if (ji26) ≤ (x7_1.length : Int) then ((tontineref18_made.f k1 ((rd_T56 l0 x8_1).f0) (x7_1.drop ((ji26) : Int).toNat)).bind fun t292 => (if t292 = 0 then (some (([] : List Int), x8_1, 180)) else ((some (([] : List Int) : List Int)).bind fun y293 => ((some (x7_1.take ((ji26) : Int).toNat : List Int)).bind fun y296 => (if y293.length + y296.length < 17592186044416 then ((some (y293 ++ y296 : List Int)).bind fun y300 => (if y300.length < 17592186044416 then (if x6_1.length < 17592186044416 then (tontineref18_typed.l0 k1 l0 l1 (x6_1 ++ [t292]) (y300 ++ [t292]) (wrap64 (x8_1 + 1))) else (none)) else (none))) else (none)))))) else (none)) else (none)) = some (r1, r2, r3) := by first | (rw [hji26] at H; exact H) | (simp only [hji26] at H ⊢; exact H)
     (try rw [hji26] at A6)
     have hji26w : (IntKind.i64.wrap ((x7_1.length : Int) - t267)) = ji26 := (i64_w _).trans hji26
     by_cases c27 : 0 ≤ (ji26)
     ·rw [if_pos c27] at H
      have c27b0 := eq_true c27
      have c27b1 : decide (0 ≤ (ji26)) = true := decide_eq_true c27
      clear c27
      by_cases c28 : (ji26) ≤ (x7_1.length : Int)
      ·rw [if_pos c28] at H
       have c28b0 := eq_true c28
       have c28b1 : decide ((ji26) ≤ (x7_1.length : Int)) = true := decide_eq_true c28
       clear c28
       obtain ⟨y288, hy288⟩ : ∃ y_ : List Int, y_ = (x7_1.drop ((ji26) : Int).toNat) := ⟨_, rfl⟩
       replace H : ((tontineref18_made.f k1 ((rd_T56 l0 x8_1).f0) y288).bind fun t292 => (if t292 = 0 then (some (([] : List Int), x8_1, 180)) else ((some (([] : List Int) : List Int)).bind fun y293 => ((some (x7_1.take ((ji26) : Int).toNat : List Int)).bind fun y296 => (if y293.length + y296.length < 17592186044416 then ((some (y293 ++ y296 : List Int)).bind fun y300 => (if y300.length < 17592186044416 then (if x6_1.length < 17592186044416 then (tontineref18_typed.l0 k1 l0 l1 (x6_1 ++ [t292]) (y300 ++ [t292]) (wrap64 (x8_1 + 1))) else (none)) else (none))) else (none)))))) = some (r1, r2, r3) := by first | (rw [hy288]; with_reducible exact H) | (have H2_ := (Option.bind_some _ _).symm.trans H; rw [hy288]; with_reducible exact H2_) | (have H2_ := (Option.bind_some _ _).symm.trans H; with_reducible exact H2_) | with_reducible exact H | (rw [hy288]; exact H) | exact H
       have Ny288 := Aside0.mk hy288
       clear hy288
       replace H := Option.bind_eq_some_iff.mp H
       obtain ⟨t292, A290, H⟩ := H
       replace H : (if t292 = 0 then (some (([] : List Int), x8_1, 180)) else ((some (([] : List Int) : List Int)).bind fun y293 => ((some (x7_1.take ((ji26) : Int).toNat : List Int)).bind fun y296 => (if y293.length + y296.length < 17592186044416 then ((some (y293 ++ y296 : List Int)).bind fun y300 => (if y300.length < 17592186044416 then (if x6_1.length < 17592186044416 then (tontineref18_typed.l0 k1 l0 l1 (x6_1 ++ [t292]) (y300 ++ [t292]) (wrap64 (x8_1 + 1))) else (none)) else (none))) else (none))))) = some (r1, r2, r3) := H
       have A29 := Aside0.mk A290
       clear A290
       by_cases c30 : t292 = 0
       ·rw [if_pos c30] at H
        have c30b0 : (t292 == 0) = true := beq_iff_eq.mpr c30
        have c30b1 : (t292 != 0) = false := bne_eq_false_iff_eq.mpr c30
        clear c30
        simp only [Option.some.injEq, Prod.mk.injEq] at H
        obtain ⟨rfl, rfl, rfl⟩ := H
        have p266 : 0 ≤ (x8_1 : Int) := of_decide_eq_true sq7
        have q266 : x8_1 < (l0.length : Int) := of_decide_eq_true sq7
        obtain ⟨ad266, e266, hx266_0, hx266_1, hx266_2⟩ := at_T56 HR0.out x8_1 p266 q266
        cases e266
        try replace hx266_0 := (HB.out.cell (World.block_lt_of_cell? w _ hx266_0)).trans hx266_0
        try replace hx266_1 := (HB.out.cell (World.block_lt_of_cell? w _ hx266_1)).trans hx266_1
        try replace hx266_2 := (HB.out.cell (World.block_lt_of_cell? w _ hx266_2)).trans hx266_2
        replace p266 := eq_true p266
        replace q266 := eq_true q266
        go_wp2_with (first | (go_at_call 43; (with_reducible refine (tontineref18_parts.calls k1 ((rd_T56 l0 x8_1).f0) ((rd_T56 l0 x8_1).f1) ((rd_T56 l0 x8_1).f2) t267 _ A6.out).mono ?_); rintro e w31 ⟨rfl, hb⟩; have n0_ := Aside0.mk (Kd.R_below sq14 hb); have n1_ := Aside0.mk (Kd.R_below sq15 hb); have n2_ := Aside0.mk (blk_below (g := gb265) (o := .cells #[.int .i64 x266000_1, .int .i64 x266001_1] 32 (0, 0)) sq42 hb); have n3_ := Aside0.mk (below_step sq68 hb); clear HO_6; clear HO_7; clear BK265; clear HB; have HO_6 := n0_; have HO_7 := n1_; have BK265 := n2_; have HB := n3_; clear n0_ n1_ n2_ n3_; (try clear hb); (try clear hb2); (try clear hk); (try clear hi); have p268 : 0 ≤ (x8_1 : Int) := of_decide_eq_true sq7; have q268 : x8_1 < (l0.length : Int) := of_decide_eq_true sq7; obtain ⟨ad268, e268, hx268_0, hx268_1, hx268_2⟩ := at_T56 HR0.out x8_1 p268 q268; obtain rfl : ad266 = ad268 := (by injection e268); replace hx268_0 := (HB.out.cell (World.block_lt_of_cell? w _ hx268_0)).trans hx268_0; replace hx268_1 := (HB.out.cell (World.block_lt_of_cell? w _ hx268_1)).trans hx268_1; replace hx268_2 := (HB.out.cell (World.block_lt_of_cell? w _ hx268_2)).trans hx268_2; replace p268 := eq_true p268; replace q268 := eq_true q268; have p287 : 0 ≤ (x8_1 : Int) := of_decide_eq_true sq7; have q287 : x8_1 < (l0.length : Int) := of_decide_eq_true sq7; obtain ⟨ad287, e287, hx287_0, hx287_1, hx287_2⟩ := at_T56 HR0.out x8_1 p287 q287; obtain rfl : ad266 = ad287 := (by injection e287); replace hx287_0 := (HB.out.cell (World.block_lt_of_cell? w _ hx287_0)).trans hx287_0; replace hx287_1 := (HB.out.cell (World.block_lt_of_cell? w _ hx287_1)).trans hx287_1; replace hx287_2 := (HB.out.cell (World.block_lt_of_cell? w _ hx287_2)).trans hx287_2; replace p287 := eq_true p287; replace q287 := eq_true q287; obtain ⟨Ao32, co32, eo32⟩ := Kd.R_slice HO_7.out; subst eo32; have q33 : ((ji26) : Int) ≤ ((x7_1.length : Int) : Int) := of_decide_eq_true sq7; obtain ⟨i033, hi033, _, hsz33, _⟩ := info_parts info3; have hroom33 : x7_1.length ≤ co32 := (Kd.R_reads' HO_7.out).2.1; have hC33 : Kd.C (Kd.int .i64) _ Ao32 x7_1.length x7_1 := (Kd.R_reads' HO_7.out).2.2; have q033 : (0 : Int) ≤ ((ji26) : Int) := of_decide_eq_true sq7; have hcut33 := cut_from (P := Try.prog) 36 3 .i64 Try.underlying36 hi033 1 hsz33 Ao32 x7_1.length co32 (ji26) q033 q33; have hr33 := Kd.C_drop (m := ((ji26) : Int).toNat) (c := co32) hC33 sq0 hroom33; obtain ⟨A33, hA33⟩ : ∃ A1, A1 = (if co32 = ((ji26) : Int).toNat then Ao32 else (Ao32 : Option Addr).map (·.add (((ji26) : Int).toNat * 1))) := ⟨_, rfl⟩; obtain ⟨c33, hc33⟩ : ∃ c1, c1 = co32 - ((ji26) : Int).toNat := ⟨_, rfl⟩; have hy33 : y288.length = x7_1.length - ((ji26) : Int).toNat := (by rw [Ny288.out, List.length_drop] <;> omega); rw [show (x7_1).drop ((ji26) : Int).toNat = y288 from Ny288.out.symm] at hr33; replace hr33 : Kd.C (Kd.int .i64) _ A33 y288.length y288 := (by rw [hA33]; exact hr33); rw [← hy33, ← hA33, ← hc33] at hcut33; have HR291 := Aside0.mk hr33; have HC291 := Aside0.mk (show y288.length ≤ c33 from by rw [hy33, hc33]; exact Nat.sub_le_sub_right hroom33 _); clear hr33 hC33 hroom33 hi033 hsz33 hc33; have KY33 := Aside0.mk hy33; have KA33 := Aside0.mk hA33; clear hy33 hA33; have KL33 := Aside0.mk (show ((ji26) : Int).toNat ≤ x7_1.length from by omega); replace q33 := eq_true q33) | (go_at_call 45; (with_reducible refine (tontineref18_made.calls k1 ((rd_T56 l0 x8_1).f0) _ _ y288 t292 _ ?side1 ?side2 A29.out).mono ?_); (case side1 => repeat (first | exact sq82 | (with_reducible refine Kd.C_alloc ?_ _) | (with_reducible refine Kd.C_drewN ?_ _) | (with_reducible refine Kd.C_drew ?_))); (case side2 => exact HC291.out); rintro e w' ⟨rfl, ⟨nd, rfl⟩⟩; (try first | exact ⟨rfl, _, World.drewN_drewN _ _ _⟩ | exact ⟨rfl, _, Eq.trans (World.drewN_drewN _ _ _) (congrArg (World.drewN _) (Nat.add_assoc _ _ _))⟩); have hcz34_0 : w31.cell? ⟨gb265, 0, none⟩ = some (.int .i64 x266000_1) := (blk_cell BK265.out 0).trans rfl; have hcz34_1 : w31.cell? ⟨gb265, 1, none⟩ = some (.int .i64 x266001_1) := (blk_cell BK265.out 1).trans rfl; have hfz34_0 := blk_frozen BK265.out 0; have hfz34_1 := blk_frozen BK265.out 1))
        repeat (go_quiet (first | (go_at_call 43; (with_reducible refine (tontineref18_parts.calls k1 ((rd_T56 l0 x8_1).f0) ((rd_T56 l0 x8_1).f1) ((rd_T56 l0 x8_1).f2) t267 _ A6.out).mono ?_); rintro e w31 ⟨rfl, hb⟩; have n0_ := Aside0.mk (Kd.R_below sq14 hb); have n1_ := Aside0.mk (Kd.R_below sq15 hb); have n2_ := Aside0.mk (blk_below (g := gb265) (o := .cells #[.int .i64 x266000_1, .int .i64 x266001_1] 32 (0, 0)) sq42 hb); have n3_ := Aside0.mk (below_step sq68 hb); clear HO_6; clear HO_7; clear BK265; clear HB; have HO_6 := n0_; have HO_7 := n1_; have BK265 := n2_; have HB := n3_; clear n0_ n1_ n2_ n3_; (try clear hb); (try clear hb2); (try clear hk); (try clear hi); have p268 : 0 ≤ (x8_1 : Int) := of_decide_eq_true sq7; have q268 : x8_1 < (l0.length : Int) := of_decide_eq_true sq7; obtain ⟨ad268, e268, hx268_0, hx268_1, hx268_2⟩ := at_T56 HR0.out x8_1 p268 q268; obtain rfl : ad266 = ad268 := (by injection e268); replace hx268_0 := (HB.out.cell (World.block_lt_of_cell? w _ hx268_0)).trans hx268_0; replace hx268_1 := (HB.out.cell (World.block_lt_of_cell? w _ hx268_1)).trans hx268_1; replace hx268_2 := (HB.out.cell (World.block_lt_of_cell? w _ hx268_2)).trans hx268_2; replace p268 := eq_true p268; replace q268 := eq_true q268; have p287 : 0 ≤ (x8_1 : Int) := of_decide_eq_true sq7; have q287 : x8_1 < (l0.length : Int) := of_decide_eq_true sq7; obtain ⟨ad287, e287, hx287_0, hx287_1, hx287_2⟩ := at_T56 HR0.out x8_1 p287 q287; obtain rfl : ad266 = ad287 := (by injection e287); replace hx287_0 := (HB.out.cell (World.block_lt_of_cell? w _ hx287_0)).trans hx287_0; replace hx287_1 := (HB.out.cell (World.block_lt_of_cell? w _ hx287_1)).trans hx287_1; replace hx287_2 := (HB.out.cell (World.block_lt_of_cell? w _ hx287_2)).trans hx287_2; replace p287 := eq_true p287; replace q287 := eq_true q287; obtain ⟨Ao32, co32, eo32⟩ := Kd.R_slice HO_7.out; subst eo32; have q33 : ((ji26) : Int) ≤ ((x7_1.length : Int) : Int) := of_decide_eq_true sq7; obtain ⟨i033, hi033, _, hsz33, _⟩ := info_parts info3; have hroom33 : x7_1.length ≤ co32 := (Kd.R_reads' HO_7.out).2.1; have hC33 : Kd.C (Kd.int .i64) _ Ao32 x7_1.length x7_1 := (Kd.R_reads' HO_7.out).2.2; have q033 : (0 : Int) ≤ ((ji26) : Int) := of_decide_eq_true sq7; have hcut33 := cut_from (P := Try.prog) 36 3 .i64 Try.underlying36 hi033 1 hsz33 Ao32 x7_1.length co32 (ji26) q033 q33; have hr33 := Kd.C_drop (m := ((ji26) : Int).toNat) (c := co32) hC33 sq0 hroom33; obtain ⟨A33, hA33⟩ : ∃ A1, A1 = (if co32 = ((ji26) : Int).toNat then Ao32 else (Ao32 : Option Addr).map (·.add (((ji26) : Int).toNat * 1))) := ⟨_, rfl⟩; obtain ⟨c33, hc33⟩ : ∃ c1, c1 = co32 - ((ji26) : Int).toNat := ⟨_, rfl⟩; have hy33 : y288.length = x7_1.length - ((ji26) : Int).toNat := (by rw [Ny288.out, List.length_drop] <;> omega); rw [show (x7_1).drop ((ji26) : Int).toNat = y288 from Ny288.out.symm] at hr33; replace hr33 : Kd.C (Kd.int .i64) _ A33 y288.length y288 := (by rw [hA33]; exact hr33); rw [← hy33, ← hA33, ← hc33] at hcut33; have HR291 := Aside0.mk hr33; have HC291 := Aside0.mk (show y288.length ≤ c33 from by rw [hy33, hc33]; exact Nat.sub_le_sub_right hroom33 _); clear hr33 hC33 hroom33 hi033 hsz33 hc33; have KY33 := Aside0.mk hy33; have KA33 := Aside0.mk hA33; clear hy33 hA33; have KL33 := Aside0.mk (show ((ji26) : Int).toNat ≤ x7_1.length from by omega); replace q33 := eq_true q33) | (go_at_call 45; (with_reducible refine (tontineref18_made.calls k1 ((rd_T56 l0 x8_1).f0) _ _ y288 t292 _ ?side1 ?side2 A29.out).mono ?_); (case side1 => repeat (first | exact sq82 | (with_reducible refine Kd.C_alloc ?_ _) | (with_reducible refine Kd.C_drewN ?_ _) | (with_reducible refine Kd.C_drew ?_))); (case side2 => exact HC291.out); rintro e w' ⟨rfl, ⟨nd, rfl⟩⟩; (try first | exact ⟨rfl, _, World.drewN_drewN _ _ _⟩ | exact ⟨rfl, _, Eq.trans (World.drewN_drewN _ _ _) (congrArg (World.drewN _) (Nat.add_assoc _ _ _))⟩); have hcz34_0 : w31.cell? ⟨gb265, 0, none⟩ = some (.int .i64 x266000_1) := (blk_cell BK265.out 0).trans rfl; have hcz34_1 : w31.cell? ⟨gb265, 1, none⟩ = some (.int .i64 x266001_1) := (blk_cell BK265.out 1).trans rfl; have hfz34_0 := blk_frozen BK265.out 0; have hfz34_1 := blk_frozen BK265.out 1)); try go_wp2_with (first | (go_at_call 43; (with_reducible refine (tontineref18_parts.calls k1 ((rd_T56 l0 x8_1).f0) ((rd_T56 l0 x8_1).f1) ((rd_T56 l0 x8_1).f2) t267 _ A6.out).mono ?_); rintro e w31 ⟨rfl, hb⟩; have n0_ := Aside0.mk (Kd.R_below sq14 hb); have n1_ := Aside0.mk (Kd.R_below sq15 hb); have n2_ := Aside0.mk (blk_below (g := gb265) (o := .cells #[.int .i64 x266000_1, .int .i64 x266001_1] 32 (0, 0)) sq42 hb); have n3_ := Aside0.mk (below_step sq68 hb); clear HO_6; clear HO_7; clear BK265; clear HB; have HO_6 := n0_; have HO_7 := n1_; have BK265 := n2_; have HB := n3_; clear n0_ n1_ n2_ n3_; (try clear hb); (try clear hb2); (try clear hk); (try clear hi); have p268 : 0 ≤ (x8_1 : Int) := of_decide_eq_true sq7; have q268 : x8_1 < (l0.length : Int) := of_decide_eq_true sq7; obtain ⟨ad268, e268, hx268_0, hx268_1, hx268_2⟩ := at_T56 HR0.out x8_1 p268 q268; obtain rfl : ad266 = ad268 := (by injection e268); replace hx268_0 := (HB.out.cell (World.block_lt_of_cell? w _ hx268_0)).trans hx268_0; replace hx268_1 := (HB.out.cell (World.block_lt_of_cell? w _ hx268_1)).trans hx268_1; replace hx268_2 := (HB.out.cell (World.block_lt_of_cell? w _ hx268_2)).trans hx268_2; replace p268 := eq_true p268; replace q268 := eq_true q268; have p287 : 0 ≤ (x8_1 : Int) := of_decide_eq_true sq7; have q287 : x8_1 < (l0.length : Int) := of_decide_eq_true sq7; obtain ⟨ad287, e287, hx287_0, hx287_1, hx287_2⟩ := at_T56 HR0.out x8_1 p287 q287; obtain rfl : ad266 = ad287 := (by injection e287); replace hx287_0 := (HB.out.cell (World.block_lt_of_cell? w _ hx287_0)).trans hx287_0; replace hx287_1 := (HB.out.cell (World.block_lt_of_cell? w _ hx287_1)).trans hx287_1; replace hx287_2 := (HB.out.cell (World.block_lt_of_cell? w _ hx287_2)).trans hx287_2; replace p287 := eq_true p287; replace q287 := eq_true q287; obtain ⟨Ao32, co32, eo32⟩ := Kd.R_slice HO_7.out; subst eo32; have q33 : ((ji26) : Int) ≤ ((x7_1.length : Int) : Int) := of_decide_eq_true sq7; obtain ⟨i033, hi033, _, hsz33, _⟩ := info_parts info3; have hroom33 : x7_1.length ≤ co32 := (Kd.R_reads' HO_7.out).2.1; have hC33 : Kd.C (Kd.int .i64) _ Ao32 x7_1.length x7_1 := (Kd.R_reads' HO_7.out).2.2; have q033 : (0 : Int) ≤ ((ji26) : Int) := of_decide_eq_true sq7; have hcut33 := cut_from (P := Try.prog) 36 3 .i64 Try.underlying36 hi033 1 hsz33 Ao32 x7_1.length co32 (ji26) q033 q33; have hr33 := Kd.C_drop (m := ((ji26) : Int).toNat) (c := co32) hC33 sq0 hroom33; obtain ⟨A33, hA33⟩ : ∃ A1, A1 = (if co32 = ((ji26) : Int).toNat then Ao32 else (Ao32 : Option Addr).map (·.add (((ji26) : Int).toNat * 1))) := ⟨_, rfl⟩; obtain ⟨c33, hc33⟩ : ∃ c1, c1 = co32 - ((ji26) : Int).toNat := ⟨_, rfl⟩; have hy33 : y288.length = x7_1.length - ((ji26) : Int).toNat := (by rw [Ny288.out, List.length_drop] <;> omega); rw [show (x7_1).drop ((ji26) : Int).toNat = y288 from Ny288.out.symm] at hr33; replace hr33 : Kd.C (Kd.int .i64) _ A33 y288.length y288 := (by rw [hA33]; exact hr33); rw [← hy33, ← hA33, ← hc33] at hcut33; have HR291 := Aside0.mk hr33; have HC291 := Aside0.mk (show y288.length ≤ c33 from by rw [hy33, hc33]; exact Nat.sub_le_sub_right hroom33 _); clear hr33 hC33 hroom33 hi033 hsz33 hc33; have KY33 := Aside0.mk hy33; have KA33 := Aside0.mk hA33; clear hy33 hA33; have KL33 := Aside0.mk (show ((ji26) : Int).toNat ≤ x7_1.length from by omega); replace q33 := eq_true q33) | (go_at_call 45; (with_reducible refine (tontineref18_made.calls k1 ((rd_T56 l0 x8_1).f0) _ _ y288 t292 _ ?side1 ?side2 A29.out).mono ?_); (case side1 => repeat (first | exact sq82 | (with_reducible refine Kd.C_alloc ?_ _) | (with_reducible refine Kd.C_drewN ?_ _) | (with_reducible refine Kd.C_drew ?_))); (case side2 => exact HC291.out); rintro e w' ⟨rfl, ⟨nd, rfl⟩⟩; (try first | exact ⟨rfl, _, World.drewN_drewN _ _ _⟩ | exact ⟨rfl, _, Eq.trans (World.drewN_drewN _ _ _) (congrArg (World.drewN _) (Nat.add_assoc _ _ _))⟩); have hcz34_0 : w31.cell? ⟨gb265, 0, none⟩ = some (.int .i64 x266000_1) := (blk_cell BK265.out 0).trans rfl; have hcz34_1 : w31.cell? ⟨gb265, 1, none⟩ = some (.int .i64 x266001_1) := (blk_cell BK265.out 1).trans rfl; have hfz34_0 := blk_frozen BK265.out 0; have hfz34_1 := blk_frozen BK265.out 1)))
        refine bodyPost_ret (results_tc rfl _ _ gb265 32 #[.int .i64 x8_1, .int .i64 180] (0, 0) _ rfl (by (with_reducible repeat (first | refine blk_drewN ?_ _ | refine blk_drew ?_ | refine blk_alloc ?_ _)); refine blk_put (cs := #[.int .i64 x8_1, .int .i64 x266001_1]) ?_ 1 _ rfl; (with_reducible repeat (first | refine blk_drewN ?_ _ | refine blk_drew ?_ | refine blk_alloc ?_ _)); refine blk_put (cs := #[.int .i64 x266000_1, .int .i64 x266001_1]) ?_ 0 _ rfl; (with_reducible repeat (first | refine blk_drewN ?_ _ | refine blk_drew ?_ | refine blk_alloc ?_ _)); exact BK265.out) Try.underlying32 rfl (by kernel_rfl)) rfl ?_
        exact ⟨_, by first | rfl | (simp [errW_none, errW_some] <;> rfl) | (simp only [← hji26]; first | rfl | (simp [errW_none, errW_some] <;> rfl)) | (simp [*, errW_none, errW_some] <;> rfl), sq51, sq68⟩
       rw [if_neg c30] at H
       have c30b0 : (t292 == 0) = false := beq_eq_false_iff_ne.mpr c30
       have c30b1 : (t292 != 0) = true := bne_iff_ne.mpr c30
       obtain ⟨y293, hy293⟩ : ∃ y_ : List Int, y_ = (([] : List Int)) := ⟨_, rfl⟩
       replace H : ((some (x7_1.take ((ji26) : Int).toNat : List Int)).bind fun y296 => (if y293.length + y296.length < 17592186044416 then ((some (y293 ++ y296 : List Int)).bind fun y300 => (if y300.length < 17592186044416 then (if x6_1.length < 17592186044416 then (tontineref18_typed.l0 k1 l0 l1 (x6_1 ++ [t292]) (y300 ++ [t292]) (wrap64 (x8_1 + 1))) else (none)) else (none))) else (none))) = some (r1, r2, r3) := by first | (rw [hy293]; with_reducible exact H) | (have H2_ := (Option.bind_some _ _).symm.trans H; rw [hy293]; with_reducible exact H2_) | (have H2_ := (Option.bind_some _ _).symm.trans H; with_reducible exact H2_) | with_reducible exact H | (rw [hy293]; exact H) | exact H
       have Ny293 := Aside0.mk hy293
       clear hy293
       have c35b0 := eq_true (of_decide_eq_true sq7 : 0 ≤ (ji26))
       have c36b0 := eq_true (of_decide_eq_true sq7 : (ji26) ≤ (x7_1.length : Int))
       obtain ⟨y296, hy296⟩ : ∃ y_ : List Int, y_ = (x7_1.take ((ji26) : Int).toNat) := ⟨_, rfl⟩
       replace H : (if y293.length + y296.length < 17592186044416 then ((some (y293 ++ y296 : List Int)).bind fun y300 => (if y300.length < 17592186044416 then (if x6_1.length < 17592186044416 then (tontineref18_typed.l0 k1 l0 l1 (x6_1 ++ [t292]) (y300 ++ [t292]) (wrap64 (x8_1 + 1))) else (none)) else (none))) else (none)) = some (r1, r2, r3) := by first | (rw [hy296]; with_reducible exact H) | (have H2_ := (Option.bind_some _ _).symm.trans H; rw [hy296]; with_reducible exact H2_) | (have H2_ := (Option.bind_some _ _).symm.trans H; with_reducible exact H2_) | with_reducible exact H | (rw [hy296]; exact H) | exact H
       have Ny296 := Aside0.mk hy296
       clear hy296
       by_cases c37 : y293.length + y296.length < 17592186044416
       ·rw [if_pos c37] at H
        have LMc37 := Aside0.mk c37
        clear c37
        obtain ⟨y300, hy300⟩ : ∃ y_ : List Int, y_ = (y293 ++ y296) := ⟨_, rfl⟩
        replace H : (if y300.length < 17592186044416 then (if x6_1.length < 17592186044416 then (tontineref18_typed.l0 k1 l0 l1 (x6_1 ++ [t292]) (y300 ++ [t292]) (wrap64 (x8_1 + 1))) else (none)) else (none)) = some (r1, r2, r3) := by first | (rw [hy300]; with_reducible exact H) | (have H2_ := (Option.bind_some _ _).symm.trans H; rw [hy300]; with_reducible exact H2_) | (have H2_ := (Option.bind_some _ _).symm.trans H; with_reducible exact H2_) | with_reducible exact H | (rw [hy300]; exact H) | exact H
        have Ny300 := Aside0.mk hy300
        clear hy300
        by_cases c38 : y300.length < 17592186044416
        ·rw [if_pos c38] at H
         have LMc38 := Aside0.mk c38
         clear c38
         obtain ⟨y303, hy303⟩ : ∃ y_ : List Int, y_ = (y300 ++ [t292]) := ⟨_, rfl⟩
         replace H : (if x6_1.length < 17592186044416 then (tontineref18_typed.l0 k1 l0 l1 (x6_1 ++ [t292]) y303 (wrap64 (x8_1 + 1))) else (none)) = some (r1, r2, r3) := by first | (rw [hy303]; with_reducible exact H) | (have H2_ := (Option.bind_some _ _).symm.trans H; rw [hy303]; with_reducible exact H2_) | (have H2_ := (Option.bind_some _ _).symm.trans H; with_reducible exact H2_) | with_reducible exact H | (rw [hy303]; exact H) | exact H
         have Ny303 := Aside0.mk hy303
         clear hy303
         by_cases c39 : x6_1.length < 17592186044416
         ·rw [if_pos c39] at H
          have LMc39 := Aside0.mk c39
          clear c39
          obtain ⟨y306, hy306⟩ : ∃ y_ : List Int, y_ = (x6_1 ++ [t292]) := ⟨_, rfl⟩
          replace H : (tontineref18_typed.l0 k1 l0 l1 y306 y303 (wrap64 (x8_1 + 1))) = some (r1, r2, r3) := by first | (rw [hy306]; with_reducible exact H) | (have H2_ := (Option.bind_some _ _).symm.trans H; rw [hy306]; with_reducible exact H2_) | (have H2_ := (Option.bind_some _ _).symm.trans H; with_reducible exact H2_) | with_reducible exact H | (rw [hy306]; exact H) | exact H
          have Ny306 := Aside0.mk hy306
          clear hy306
          have H' := Aside0.mk H
          clear H
          have p266 : 0 ≤ (x8_1 : Int) := of_decide_eq_true sq7
          have q266 : x8_1 < (l0.length : Int) := of_decide_eq_true sq7
          obtain ⟨ad266, e266, hx266_0, hx266_1, hx266_2⟩ := at_T56 HR0.out x8_1 p266 q266
          cases e266
          try replace hx266_0 := (HB.out.cell (World.block_lt_of_cell? w _ hx266_0)).trans hx266_0
          try replace hx266_1 := (HB.out.cell (World.block_lt_of_cell? w _ hx266_1)).trans hx266_1
          try replace hx266_2 := (HB.out.cell (World.block_lt_of_cell? w _ hx266_2)).trans hx266_2
          replace p266 := eq_true p266
          replace q266 := eq_true q266
          go_wp2_with (first | (go_at_call 43; (with_reducible refine (tontineref18_parts.calls k1 ((rd_T56 l0 x8_1).f0) ((rd_T56 l0 x8_1).f1) ((rd_T56 l0 x8_1).f2) t267 _ A6.out).mono ?_); rintro e w40 ⟨rfl, hb⟩; have n0_ := Aside0.mk (Kd.R_below sq14 hb); have n1_ := Aside0.mk (Kd.R_below sq15 hb); have n2_ := Aside0.mk (blk_below (g := gb265) (o := .cells #[.int .i64 x266000_1, .int .i64 x266001_1] 32 (0, 0)) sq42 hb); have n3_ := Aside0.mk (below_step sq68 hb); clear HO_6; clear HO_7; clear BK265; clear HB; have HO_6 := n0_; have HO_7 := n1_; have BK265 := n2_; have HB := n3_; clear n0_ n1_ n2_ n3_; (try clear hb); (try clear hb2); (try clear hk); (try clear hi); have p268 : 0 ≤ (x8_1 : Int) := of_decide_eq_true sq7; have q268 : x8_1 < (l0.length : Int) := of_decide_eq_true sq7; obtain ⟨ad268, e268, hx268_0, hx268_1, hx268_2⟩ := at_T56 HR0.out x8_1 p268 q268; obtain rfl : ad266 = ad268 := (by injection e268); replace hx268_0 := (HB.out.cell (World.block_lt_of_cell? w _ hx268_0)).trans hx268_0; replace hx268_1 := (HB.out.cell (World.block_lt_of_cell? w _ hx268_1)).trans hx268_1; replace hx268_2 := (HB.out.cell (World.block_lt_of_cell? w _ hx268_2)).trans hx268_2; replace p268 := eq_true p268; replace q268 := eq_true q268; have p287 : 0 ≤ (x8_1 : Int) := of_decide_eq_true sq7; have q287 : x8_1 < (l0.length : Int) := of_decide_eq_true sq7; obtain ⟨ad287, e287, hx287_0, hx287_1, hx287_2⟩ := at_T56 HR0.out x8_1 p287 q287; obtain rfl : ad266 = ad287 := (by injection e287); replace hx287_0 := (HB.out.cell (World.block_lt_of_cell? w _ hx287_0)).trans hx287_0; replace hx287_1 := (HB.out.cell (World.block_lt_of_cell? w _ hx287_1)).trans hx287_1; replace hx287_2 := (HB.out.cell (World.block_lt_of_cell? w _ hx287_2)).trans hx287_2; replace p287 := eq_true p287; replace q287 := eq_true q287; obtain ⟨Ao41, co41, eo41⟩ := Kd.R_slice HO_7.out; subst eo41; have q42 : ((ji26) : Int) ≤ ((x7_1.length : Int) : Int) := of_decide_eq_true sq7; obtain ⟨i042, hi042, _, hsz42, _⟩ := info_parts info3; have hroom42 : x7_1.length ≤ co41 := (Kd.R_reads' HO_7.out).2.1; have hC42 : Kd.C (Kd.int .i64) _ Ao41 x7_1.length x7_1 := (Kd.R_reads' HO_7.out).2.2; have q042 : (0 : Int) ≤ ((ji26) : Int) := of_decide_eq_true sq7; have hcut42 := cut_from (P := Try.prog) 36 3 .i64 Try.underlying36 hi042 1 hsz42 Ao41 x7_1.length co41 (ji26) q042 q42; have hr42 := Kd.C_drop (m := ((ji26) : Int).toNat) (c := co41) hC42 sq0 hroom42; obtain ⟨A42, hA42⟩ : ∃ A1, A1 = (if co41 = ((ji26) : Int).toNat then Ao41 else (Ao41 : Option Addr).map (·.add (((ji26) : Int).toNat * 1))) := ⟨_, rfl⟩; obtain ⟨c42, hc42⟩ : ∃ c1, c1 = co41 - ((ji26) : Int).toNat := ⟨_, rfl⟩; have hy42 : y288.length = x7_1.length - ((ji26) : Int).toNat := (by rw [Ny288.out, List.length_drop] <;> omega); rw [show (x7_1).drop ((ji26) : Int).toNat = y288 from Ny288.out.symm] at hr42; replace hr42 : Kd.C (Kd.int .i64) _ A42 y288.length y288 := (by rw [hA42]; exact hr42); rw [← hy42, ← hA42, ← hc42] at hcut42; have HR291 := Aside0.mk hr42; have HC291 := Aside0.mk (show y288.length ≤ c42 from by rw [hy42, hc42]; exact Nat.sub_le_sub_right hroom42 _); clear hr42 hC42 hroom42 hi042 hsz42 hc42; have KY42 := Aside0.mk hy42; have KA42 := Aside0.mk hA42; clear hy42 hA42; have KL42 := Aside0.mk (show ((ji26) : Int).toNat ≤ x7_1.length from by omega); replace q42 := eq_true q42) | (go_at_call 45; (with_reducible refine (tontineref18_made.calls k1 ((rd_T56 l0 x8_1).f0) _ _ y288 t292 _ ?side1 ?side2 A29.out).mono ?_); (case side1 => repeat (first | exact sq82 | (with_reducible refine Kd.C_alloc ?_ _) | (with_reducible refine Kd.C_drewN ?_ _) | (with_reducible refine Kd.C_drew ?_))); (case side2 => exact HC291.out); rintro e w' ⟨rfl, ⟨nd, rfl⟩⟩; (try first | exact ⟨rfl, _, World.drewN_drewN _ _ _⟩ | exact ⟨rfl, _, Eq.trans (World.drewN_drewN _ _ _) (congrArg (World.drewN _) (Nat.add_assoc _ _ _))⟩)) | ((with_reducible refine gate_dst (N := 53) rfl ?_); refine Kd.R_lit (Kd.int .i64) _ 3 ?hg (N := 53) ?hd (xs := ([] : List Int)) (inner := []) (ok := fun _ => True) (okp := fun _ => True) ?hr ?hp (fun _ hk => hk) trivial (Below.refl _ _) (Nat.le_refl _) (by simp) ?_; (case hd => rfl); (case hg => rfl); (case hr => first | (go_simp; done) | (go_simp; rfl)); (case hp => exact (Reps.none _ _)); intro v294 w43 ho44 hb hg_ hnew_; clear hg_ hnew_; (first | rw [← Ny293.out] at ho44 | (simp only [Int.reduceToNat] at ho44; rw [← Ny293.out] at ho44)); have n0_ := Aside0.mk (Kd.R_elder' sq14 (Kd.R_base ho44) hb); have n1_ := Aside0.mk (Kd.R_elder' sq15 (Kd.R_base ho44) hb); have n2_ := Aside0.mk (Kd.R_lower (Kd.R_new' (Kd.R_new' ho44 (Kd.R_lt sq14)) (Kd.R_lt sq15)) (below_size sq68)); have n3_ := Aside0.mk (blk_below (g := gb265) (o := .cells #[.int .i64 x266000_1, .int .i64 x266001_1] 32 (0, 0)) sq42 hb); have n4_ := Aside0.mk (Kd.C_below sq82 hb); have n5_ := Aside0.mk (below_step sq68 hb); clear HO_6; clear HO_7; clear BK265; clear HR291; clear HB; have HO_6 := n0_; have HO_7 := n1_; have HO295 := n2_; have BK265 := n3_; have HR291 := n4_; have HB := n5_; clear n0_ n1_ n2_ n3_ n4_ n5_; clear hb ho44; have q45 : ((ji26) : Int) ≤ ((x7_1.length : Int) : Int) := of_decide_eq_true sq7; obtain ⟨i045, hi045, _, hsz45, _⟩ := info_parts info3; have hroom45 : x7_1.length ≤ co41 := (Kd.R_reads' HO_7.out).2.1; have hC45 : Kd.C (Kd.int .i64) _ Ao41 x7_1.length x7_1 := (Kd.R_reads' HO_7.out).2.2; have hcut45 := cut_to (P := Try.prog) 36 3 .i64 Try.underlying36 hi045 Ao41 x7_1.length co41 (ji26) (of_decide_eq_true sq7) q45 hroom45; have hr45 := Kd.C_take (m := ((ji26) : Int).toNat) hC45 sq0; have hy45 : y296.length = ((ji26) : Int).toNat := (by rw [Ny296.out, List.length_take]; omega); rw [← Ny296.out] at hr45; rw [← hy45] at hcut45; have HR299 := Aside0.mk hr45; have HC299 := Aside0.mk (show y296.length ≤ co41 from by omega); clear hr45 hC45 hroom45 hi045 hsz45; have KY45 := Aside0.mk hy45; clear hy45; have KL45 := Aside0.mk (show ((ji26) : Int).toNat ≤ x7_1.length from by omega); replace q45 := eq_true q45) | ((with_reducible refine gate_builtin (b := .append) (xs := #[.tmp 53, .tmp 59]) rfl ?_); at_builtin; refine Kd.R_append_rows (Kd.int .i64) (w0 := w) w.heap.size rfl (.tmp 53) (.tmp 59) 36 3 (.int .i64 0) 8 rfl Try.underlying36 info3 rfl sq1 sq0 v294 y293 y296 _ _ _ (fun k_ => some k_ ≠ (u6 : Value).ownBlock ∧ some k_ ≠ (.slice Ao41 x7_1.length co41 : Value).ownBlock) (fun _ => False) rfl rfl ?aO ?aR (fun _ _ h => h) (fun _ h => h.elim) ?aF ?aB ?aS ?aL ?_; (case aR => repeat (first | exact sq83 | (with_reducible refine Kd.C_alloc ?_ _) | (with_reducible refine Kd.C_drewN ?_ _) | (with_reducible refine Kd.C_drew ?_))); (case aB => exact sq68); (case aF => exact (fun k_ hk => ⟨Kd.fresh' (Kd.R_lt sq14) k_ hk, Kd.fresh' (Kd.R_lt sq15) k_ hk⟩)); (case aO => exact sq56); (case aS => exact (below_size sq68)); (case aL => have := LMc37.out; omega); intro v301 w46 ho hb hg hat; rw [← Ny300.out] at ho; have n0_ := Aside0.mk (Kd.R_after (ok := (fun k_ => some k_ ≠ (.slice Ao41 x7_1.length co41 : Value).ownBlock)) sq14 hg hat); have n1_ := Aside0.mk (Kd.R_after (ok := (fun k_ => some k_ ≠ (u6 : Value).ownBlock)) sq15 hg hat); have n2_ := Aside0.mk (blk_grown (g := gb265) (o := .cells #[.int .i64 x266000_1, .int .i64 x266001_1] 32 (0, 0)) sq42 hg (Kd.R_ne HO295.out BK265.out sq1)); have n3_ := Aside0.mk (hb); have n4_ := Aside0.mk ((show Kd.C (Kd.int .i64) w46 A42 y288.length y288 from by rw [Ny288.out, KA42.out]; exact Kd.C_drop (m := ((ji26) : Int).toNat) (c := co41) ((Kd.R_reads' (Kd.R_after (ok := (fun k_ => some k_ ≠ (u6 : Value).ownBlock)) sq15 hg hat)).2.2) KL42.out ((Kd.R_reads' (Kd.R_after (ok := (fun k_ => some k_ ≠ (u6 : Value).ownBlock)) sq15 hg hat)).2.1))); have n5_ := Aside0.mk ((show Kd.C (Kd.int .i64) w46 Ao41 y296.length y296 from by rw [Ny296.out]; exact Kd.C_take (m := ((ji26) : Int).toNat) ((Kd.R_reads' (Kd.R_after (ok := (fun k_ => some k_ ≠ (u6 : Value).ownBlock)) sq15 hg hat)).2.2) KL45.out)); have n6_ := Aside0.mk (ho); clear HO_6; clear HO_7; clear BK265; clear HB; clear HR291; clear HR299; clear HO295; have HO_6 := n0_; have HO_7 := n1_; have BK265 := n2_; have HB := n3_; have HR291 := n4_; have HR299 := n5_; have HO302 := n6_; clear n0_ n1_ n2_ n3_ n4_ n5_ n6_; clear ho hb hg hat) | ((with_reducible refine gate_builtin (b := .append) (xs := #[.tmp 60, .tmp 62]) rfl ?_); at_builtin; refine Kd.R_append (Kd.int .i64) (w0 := w) w.heap.size rfl (.tmp 60) (.tmp 62) 36 3 (.int .i64 0) 8 rfl Try.underlying36 info3 rfl sq1 sq0 v301 y300 t292 [.int .i64 t292] (fun k_ => some k_ ≠ (u6 : Value).ownBlock ∧ some k_ ≠ (.slice Ao41 x7_1.length co41 : Value).ownBlock) (fun _ => False) rfl rfl ?aP (fun _ hk => hk.elim) ?aF ?aO ?aB ?aS ?aL ?_; (case aP => exact rfl); (case aB => exact sq68); (case aF => exact (fun k_ hk => ⟨Kd.fresh' (Kd.R_lt sq14) k_ hk, Kd.fresh' (Kd.R_lt sq15) k_ hk⟩)); (case aO => exact sq22); (case aS => exact (below_size sq68)); (case aL => have := LMc38.out; omega); intro v304 w47 ho hb hg hat; rw [← Ny303.out] at ho; have n0_ := Aside0.mk (Kd.R_after (ok := (fun k_ => some k_ ≠ (.slice Ao41 x7_1.length co41 : Value).ownBlock)) sq14 hg hat); have n1_ := Aside0.mk (Kd.R_after (ok := (fun k_ => some k_ ≠ (u6 : Value).ownBlock)) sq15 hg hat); have n2_ := Aside0.mk (blk_grown (g := gb265) (o := .cells #[.int .i64 x266000_1, .int .i64 x266001_1] 32 (0, 0)) sq42 hg (Kd.R_ne HO302.out BK265.out sq1)); have n3_ := Aside0.mk (hb); have n4_ := Aside0.mk ((show Kd.C (Kd.int .i64) w47 A42 y288.length y288 from by rw [Ny288.out, KA42.out]; exact Kd.C_drop (m := ((ji26) : Int).toNat) (c := co41) ((Kd.R_reads' (Kd.R_after (ok := (fun k_ => some k_ ≠ (u6 : Value).ownBlock)) sq15 hg hat)).2.2) KL42.out ((Kd.R_reads' (Kd.R_after (ok := (fun k_ => some k_ ≠ (u6 : Value).ownBlock)) sq15 hg hat)).2.1))); have n5_ := Aside0.mk ((show Kd.C (Kd.int .i64) w47 Ao41 y296.length y296 from by rw [Ny296.out]; exact Kd.C_take (m := ((ji26) : Int).toNat) ((Kd.R_reads' (Kd.R_after (ok := (fun k_ => some k_ ≠ (u6 : Value).ownBlock)) sq15 hg hat)).2.2) KL45.out)); have n6_ := Aside0.mk (ho); clear HO_6; clear HO_7; clear BK265; clear HB; clear HR291; clear HR299; clear HO302; have HO_6 := n0_; have HO_7 := n1_; have BK265 := n2_; have HB := n3_; have HR291 := n4_; have HR299 := n5_; have HO305 := n6_; clear n0_ n1_ n2_ n3_ n4_ n5_ n6_; clear ho hb hg hat) | ((with_reducible refine gate_builtin (b := .append) (xs := #[.tmp 64, .tmp 66]) rfl ?_); at_builtin; refine Kd.R_append (Kd.int .i64) (w0 := w) w.heap.size rfl (.tmp 64) (.tmp 66) 36 3 (.int .i64 0) 8 rfl Try.underlying36 info3 rfl sq1 sq0 u6 x6_1 t292 [.int .i64 t292] (fun k_ => some k_ ≠ (.slice Ao41 x7_1.length co41 : Value).ownBlock ∧ some k_ ≠ (v304 : Value).ownBlock) (fun _ => False) rfl rfl ?aP (fun _ hk => hk.elim) ?aF ?aO ?aB ?aS ?aL ?_; (case aP => exact rfl); (case aB => exact sq68); (case aF => exact (fun k_ hk => ⟨Kd.fresh' (Kd.R_lt sq15) k_ hk, Kd.fresh' (Kd.R_lt sq23) k_ hk⟩)); (case aO => exact sq14); (case aS => exact (below_size sq68)); (case aL => have := LMc39.out; omega); intro v307 w48 ho hb hg hat; rw [← Ny306.out] at ho; have n0_ := Aside0.mk (Kd.R_after (ok := (fun k_ => some k_ ≠ (v304 : Value).ownBlock)) sq52 hg hat); have n1_ := Aside0.mk (blk_grown (g := gb265) (o := .cells #[.int .i64 x266000_1, .int .i64 x266001_1] 32 (0, 0)) sq42 hg (Kd.R_ne HO_6.out BK265.out sq1)); have n2_ := Aside0.mk (Kd.R_after (ok := (fun k_ => some k_ ≠ (.slice Ao41 x7_1.length co41 : Value).ownBlock)) sq54 hg hat); have n3_ := Aside0.mk (hb); have n4_ := Aside0.mk ((show Kd.C (Kd.int .i64) w48 A42 y288.length y288 from by rw [Ny288.out, KA42.out]; exact Kd.C_drop (m := ((ji26) : Int).toNat) (c := co41) ((Kd.R_reads' (Kd.R_after (ok := (fun k_ => some k_ ≠ (v304 : Value).ownBlock)) sq52 hg hat)).2.2) KL42.out ((Kd.R_reads' (Kd.R_after (ok := (fun k_ => some k_ ≠ (v304 : Value).ownBlock)) sq52 hg hat)).2.1))); have n5_ := Aside0.mk ((show Kd.C (Kd.int .i64) w48 Ao41 y296.length y296 from by rw [Ny296.out]; exact Kd.C_take (m := ((ji26) : Int).toNat) ((Kd.R_reads' (Kd.R_after (ok := (fun k_ => some k_ ≠ (v304 : Value).ownBlock)) sq52 hg hat)).2.2) KL45.out)); have n6_ := Aside0.mk (ho); clear HO_7; clear BK265; clear HO305; clear HB; clear HR291; clear HR299; clear HO_6; have HO_7 := n0_; have BK265 := n1_; have HO305 := n2_; have HB := n3_; have HR291 := n4_; have HR299 := n5_; have HO308 := n6_; clear n0_ n1_ n2_ n3_ n4_ n5_ n6_; clear ho hb hg hat))
          repeat (go_quiet (first | (go_at_call 43; (with_reducible refine (tontineref18_parts.calls k1 ((rd_T56 l0 x8_1).f0) ((rd_T56 l0 x8_1).f1) ((rd_T56 l0 x8_1).f2) t267 _ A6.out).mono ?_); rintro e w40 ⟨rfl, hb⟩; have n0_ := Aside0.mk (Kd.R_below sq14 hb); have n1_ := Aside0.mk (Kd.R_below sq15 hb); have n2_ := Aside0.mk (blk_below (g := gb265) (o := .cells #[.int .i64 x266000_1, .int .i64 x266001_1] 32 (0, 0)) sq42 hb); have n3_ := Aside0.mk (below_step sq68 hb); clear HO_6; clear HO_7; clear BK265; clear HB; have HO_6 := n0_; have HO_7 := n1_; have BK265 := n2_; have HB := n3_; clear n0_ n1_ n2_ n3_; (try clear hb); (try clear hb2); (try clear hk); (try clear hi); have p268 : 0 ≤ (x8_1 : Int) := of_decide_eq_true sq7; have q268 : x8_1 < (l0.length : Int) := of_decide_eq_true sq7; obtain ⟨ad268, e268, hx268_0, hx268_1, hx268_2⟩ := at_T56 HR0.out x8_1 p268 q268; obtain rfl : ad266 = ad268 := (by injection e268); replace hx268_0 := (HB.out.cell (World.block_lt_of_cell? w _ hx268_0)).trans hx268_0; replace hx268_1 := (HB.out.cell (World.block_lt_of_cell? w _ hx268_1)).trans hx268_1; replace hx268_2 := (HB.out.cell (World.block_lt_of_cell? w _ hx268_2)).trans hx268_2; replace p268 := eq_true p268; replace q268 := eq_true q268; have p287 : 0 ≤ (x8_1 : Int) := of_decide_eq_true sq7; have q287 : x8_1 < (l0.length : Int) := of_decide_eq_true sq7; obtain ⟨ad287, e287, hx287_0, hx287_1, hx287_2⟩ := at_T56 HR0.out x8_1 p287 q287; obtain rfl : ad266 = ad287 := (by injection e287); replace hx287_0 := (HB.out.cell (World.block_lt_of_cell? w _ hx287_0)).trans hx287_0; replace hx287_1 := (HB.out.cell (World.block_lt_of_cell? w _ hx287_1)).trans hx287_1; replace hx287_2 := (HB.out.cell (World.block_lt_of_cell? w _ hx287_2)).trans hx287_2; replace p287 := eq_true p287; replace q287 := eq_true q287; obtain ⟨Ao41, co41, eo41⟩ := Kd.R_slice HO_7.out; subst eo41; have q42 : ((ji26) : Int) ≤ ((x7_1.length : Int) : Int) := of_decide_eq_true sq7; obtain ⟨i042, hi042, _, hsz42, _⟩ := info_parts info3; have hroom42 : x7_1.length ≤ co41 := (Kd.R_reads' HO_7.out).2.1; have hC42 : Kd.C (Kd.int .i64) _ Ao41 x7_1.length x7_1 := (Kd.R_reads' HO_7.out).2.2; have q042 : (0 : Int) ≤ ((ji26) : Int) := of_decide_eq_true sq7; have hcut42 := cut_from (P := Try.prog) 36 3 .i64 Try.underlying36 hi042 1 hsz42 Ao41 x7_1.length co41 (ji26) q042 q42; have hr42 := Kd.C_drop (m := ((ji26) : Int).toNat) (c := co41) hC42 sq0 hroom42; obtain ⟨A42, hA42⟩ : ∃ A1, A1 = (if co41 = ((ji26) : Int).toNat then Ao41 else (Ao41 : Option Addr).map (·.add (((ji26) : Int).toNat * 1))) := ⟨_, rfl⟩; obtain ⟨c42, hc42⟩ : ∃ c1, c1 = co41 - ((ji26) : Int).toNat := ⟨_, rfl⟩; have hy42 : y288.length = x7_1.length - ((ji26) : Int).toNat := (by rw [Ny288.out, List.length_drop] <;> omega); rw [show (x7_1).drop ((ji26) : Int).toNat = y288 from Ny288.out.symm] at hr42; replace hr42 : Kd.C (Kd.int .i64) _ A42 y288.length y288 := (by rw [hA42]; exact hr42); rw [← hy42, ← hA42, ← hc42] at hcut42; have HR291 := Aside0.mk hr42; have HC291 := Aside0.mk (show y288.length ≤ c42 from by rw [hy42, hc42]; exact Nat.sub_le_sub_right hroom42 _); clear hr42 hC42 hroom42 hi042 hsz42 hc42; have KY42 := Aside0.mk hy42; have KA42 := Aside0.mk hA42; clear hy42 hA42; have KL42 := Aside0.mk (show ((ji26) : Int).toNat ≤ x7_1.length from by omega); replace q42 := eq_true q42) | (go_at_call 45; (with_reducible refine (tontineref18_made.calls k1 ((rd_T56 l0 x8_1).f0) _ _ y288 t292 _ ?side1 ?side2 A29.out).mono ?_); (case side1 => repeat (first | exact sq82 | (with_reducible refine Kd.C_alloc ?_ _) | (with_reducible refine Kd.C_drewN ?_ _) | (with_reducible refine Kd.C_drew ?_))); (case side2 => exact HC291.out); rintro e w' ⟨rfl, ⟨nd, rfl⟩⟩; (try first | exact ⟨rfl, _, World.drewN_drewN _ _ _⟩ | exact ⟨rfl, _, Eq.trans (World.drewN_drewN _ _ _) (congrArg (World.drewN _) (Nat.add_assoc _ _ _))⟩)) | ((with_reducible refine gate_dst (N := 53) rfl ?_); refine Kd.R_lit (Kd.int .i64) _ 3 ?hg (N := 53) ?hd (xs := ([] : List Int)) (inner := []) (ok := fun _ => True) (okp := fun _ => True) ?hr ?hp (fun _ hk => hk) trivial (Below.refl _ _) (Nat.le_refl _) (by simp) ?_; (case hd => rfl); (case hg => rfl); (case hr => first | (go_simp; done) | (go_simp; rfl)); (case hp => exact (Reps.none _ _)); intro v294 w43 ho44 hb hg_ hnew_; clear hg_ hnew_; (first | rw [← Ny293.out] at ho44 | (simp only [Int.reduceToNat] at ho44; rw [← Ny293.out] at ho44)); have n0_ := Aside0.mk (Kd.R_elder' sq14 (Kd.R_base ho44) hb); have n1_ := Aside0.mk (Kd.R_elder' sq15 (Kd.R_base ho44) hb); have n2_ := Aside0.mk (Kd.R_lower (Kd.R_new' (Kd.R_new' ho44 (Kd.R_lt sq14)) (Kd.R_lt sq15)) (below_size sq68)); have n3_ := Aside0.mk (blk_below (g := gb265) (o := .cells #[.int .i64 x266000_1, .int .i64 x266001_1] 32 (0, 0)) sq42 hb); have n4_ := Aside0.mk (Kd.C_below sq82 hb); have n5_ := Aside0.mk (below_step sq68 hb); clear HO_6; clear HO_7; clear BK265; clear HR291; clear HB; have HO_6 := n0_; have HO_7 := n1_; have HO295 := n2_; have BK265 := n3_; have HR291 := n4_; have HB := n5_; clear n0_ n1_ n2_ n3_ n4_ n5_; clear hb ho44; have q45 : ((ji26) : Int) ≤ ((x7_1.length : Int) : Int) := of_decide_eq_true sq7; obtain ⟨i045, hi045, _, hsz45, _⟩ := info_parts info3; have hroom45 : x7_1.length ≤ co41 := (Kd.R_reads' HO_7.out).2.1; have hC45 : Kd.C (Kd.int .i64) _ Ao41 x7_1.length x7_1 := (Kd.R_reads' HO_7.out).2.2; have hcut45 := cut_to (P := Try.prog) 36 3 .i64 Try.underlying36 hi045 Ao41 x7_1.length co41 (ji26) (of_decide_eq_true sq7) q45 hroom45; have hr45 := Kd.C_take (m := ((ji26) : Int).toNat) hC45 sq0; have hy45 : y296.length = ((ji26) : Int).toNat := (by rw [Ny296.out, List.length_take]; omega); rw [← Ny296.out] at hr45; rw [← hy45] at hcut45; have HR299 := Aside0.mk hr45; have HC299 := Aside0.mk (show y296.length ≤ co41 from by omega); clear hr45 hC45 hroom45 hi045 hsz45; have KY45 := Aside0.mk hy45; clear hy45; have KL45 := Aside0.mk (show ((ji26) : Int).toNat ≤ x7_1.length from by omega); replace q45 := eq_true q45) | ((with_reducible refine gate_builtin (b := .append) (xs := #[.tmp 53, .tmp 59]) rfl ?_); at_builtin; refine Kd.R_append_rows (Kd.int .i64) (w0 := w) w.heap.size rfl (.tmp 53) (.tmp 59) 36 3 (.int .i64 0) 8 rfl Try.underlying36 info3 rfl sq1 sq0 v294 y293 y296 _ _ _ (fun k_ => some k_ ≠ (u6 : Value).ownBlock ∧ some k_ ≠ (.slice Ao41 x7_1.length co41 : Value).ownBlock) (fun _ => False) rfl rfl ?aO ?aR (fun _ _ h => h) (fun _ h => h.elim) ?aF ?aB ?aS ?aL ?_; (case aR => repeat (first | exact sq83 | (with_reducible refine Kd.C_alloc ?_ _) | (with_reducible refine Kd.C_drewN ?_ _) | (with_reducible refine Kd.C_drew ?_))); (case aB => exact sq68); (case aF => exact (fun k_ hk => ⟨Kd.fresh' (Kd.R_lt sq14) k_ hk, Kd.fresh' (Kd.R_lt sq15) k_ hk⟩)); (case aO => exact sq56); (case aS => exact (below_size sq68)); (case aL => have := LMc37.out; omega); intro v301 w46 ho hb hg hat; rw [← Ny300.out] at ho; have n0_ := Aside0.mk (Kd.R_after (ok := (fun k_ => some k_ ≠ (.slice Ao41 x7_1.length co41 : Value).ownBlock)) sq14 hg hat); have n1_ := Aside0.mk (Kd.R_after (ok := (fun k_ => some k_ ≠ (u6 : Value).ownBlock)) sq15 hg hat); have n2_ := Aside0.mk (blk_grown (g := gb265) (o := .cells #[.int .i64 x266000_1, .int .i64 x266001_1] 32 (0, 0)) sq42 hg (Kd.R_ne HO295.out BK265.out sq1)); have n3_ := Aside0.mk (hb); have n4_ := Aside0.mk ((show Kd.C (Kd.int .i64) w46 A42 y288.length y288 from by rw [Ny288.out, KA42.out]; exact Kd.C_drop (m := ((ji26) : Int).toNat) (c := co41) ((Kd.R_reads' (Kd.R_after (ok := (fun k_ => some k_ ≠ (u6 : Value).ownBlock)) sq15 hg hat)).2.2) KL42.out ((Kd.R_reads' (Kd.R_after (ok := (fun k_ => some k_ ≠ (u6 : Value).ownBlock)) sq15 hg hat)).2.1))); have n5_ := Aside0.mk ((show Kd.C (Kd.int .i64) w46 Ao41 y296.length y296 from by rw [Ny296.out]; exact Kd.C_take (m := ((ji26) : Int).toNat) ((Kd.R_reads' (Kd.R_after (ok := (fun k_ => some k_ ≠ (u6 : Value).ownBlock)) sq15 hg hat)).2.2) KL45.out)); have n6_ := Aside0.mk (ho); clear HO_6; clear HO_7; clear BK265; clear HB; clear HR291; clear HR299; clear HO295; have HO_6 := n0_; have HO_7 := n1_; have BK265 := n2_; have HB := n3_; have HR291 := n4_; have HR299 := n5_; have HO302 := n6_; clear n0_ n1_ n2_ n3_ n4_ n5_ n6_; clear ho hb hg hat) | ((with_reducible refine gate_builtin (b := .append) (xs := #[.tmp 60, .tmp 62]) rfl ?_); at_builtin; refine Kd.R_append (Kd.int .i64) (w0 := w) w.heap.size rfl (.tmp 60) (.tmp 62) 36 3 (.int .i64 0) 8 rfl Try.underlying36 info3 rfl sq1 sq0 v301 y300 t292 [.int .i64 t292] (fun k_ => some k_ ≠ (u6 : Value).ownBlock ∧ some k_ ≠ (.slice Ao41 x7_1.length co41 : Value).ownBlock) (fun _ => False) rfl rfl ?aP (fun _ hk => hk.elim) ?aF ?aO ?aB ?aS ?aL ?_; (case aP => exact rfl); (case aB => exact sq68); (case aF => exact (fun k_ hk => ⟨Kd.fresh' (Kd.R_lt sq14) k_ hk, Kd.fresh' (Kd.R_lt sq15) k_ hk⟩)); (case aO => exact sq22); (case aS => exact (below_size sq68)); (case aL => have := LMc38.out; omega); intro v304 w47 ho hb hg hat; rw [← Ny303.out] at ho; have n0_ := Aside0.mk (Kd.R_after (ok := (fun k_ => some k_ ≠ (.slice Ao41 x7_1.length co41 : Value).ownBlock)) sq14 hg hat); have n1_ := Aside0.mk (Kd.R_after (ok := (fun k_ => some k_ ≠ (u6 : Value).ownBlock)) sq15 hg hat); have n2_ := Aside0.mk (blk_grown (g := gb265) (o := .cells #[.int .i64 x266000_1, .int .i64 x266001_1] 32 (0, 0)) sq42 hg (Kd.R_ne HO302.out BK265.out sq1)); have n3_ := Aside0.mk (hb); have n4_ := Aside0.mk ((show Kd.C (Kd.int .i64) w47 A42 y288.length y288 from by rw [Ny288.out, KA42.out]; exact Kd.C_drop (m := ((ji26) : Int).toNat) (c := co41) ((Kd.R_reads' (Kd.R_after (ok := (fun k_ => some k_ ≠ (u6 : Value).ownBlock)) sq15 hg hat)).2.2) KL42.out ((Kd.R_reads' (Kd.R_after (ok := (fun k_ => some k_ ≠ (u6 : Value).ownBlock)) sq15 hg hat)).2.1))); have n5_ := Aside0.mk ((show Kd.C (Kd.int .i64) w47 Ao41 y296.length y296 from by rw [Ny296.out]; exact Kd.C_take (m := ((ji26) : Int).toNat) ((Kd.R_reads' (Kd.R_after (ok := (fun k_ => some k_ ≠ (u6 : Value).ownBlock)) sq15 hg hat)).2.2) KL45.out)); have n6_ := Aside0.mk (ho); clear HO_6; clear HO_7; clear BK265; clear HB; clear HR291; clear HR299; clear HO302; have HO_6 := n0_; have HO_7 := n1_; have BK265 := n2_; have HB := n3_; have HR291 := n4_; have HR299 := n5_; have HO305 := n6_; clear n0_ n1_ n2_ n3_ n4_ n5_ n6_; clear ho hb hg hat) | ((with_reducible refine gate_builtin (b := .append) (xs := #[.tmp 64, .tmp 66]) rfl ?_); at_builtin; refine Kd.R_append (Kd.int .i64) (w0 := w) w.heap.size rfl (.tmp 64) (.tmp 66) 36 3 (.int .i64 0) 8 rfl Try.underlying36 info3 rfl sq1 sq0 u6 x6_1 t292 [.int .i64 t292] (fun k_ => some k_ ≠ (.slice Ao41 x7_1.length co41 : Value).ownBlock ∧ some k_ ≠ (v304 : Value).ownBlock) (fun _ => False) rfl rfl ?aP (fun _ hk => hk.elim) ?aF ?aO ?aB ?aS ?aL ?_; (case aP => exact rfl); (case aB => exact sq68); (case aF => exact (fun k_ hk => ⟨Kd.fresh' (Kd.R_lt sq15) k_ hk, Kd.fresh' (Kd.R_lt sq23) k_ hk⟩)); (case aO => exact sq14); (case aS => exact (below_size sq68)); (case aL => have := LMc39.out; omega); intro v307 w48 ho hb hg hat; rw [← Ny306.out] at ho; have n0_ := Aside0.mk (Kd.R_after (ok := (fun k_ => some k_ ≠ (v304 : Value).ownBlock)) sq52 hg hat); have n1_ := Aside0.mk (blk_grown (g := gb265) (o := .cells #[.int .i64 x266000_1, .int .i64 x266001_1] 32 (0, 0)) sq42 hg (Kd.R_ne HO_6.out BK265.out sq1)); have n2_ := Aside0.mk (Kd.R_after (ok := (fun k_ => some k_ ≠ (.slice Ao41 x7_1.length co41 : Value).ownBlock)) sq54 hg hat); have n3_ := Aside0.mk (hb); have n4_ := Aside0.mk ((show Kd.C (Kd.int .i64) w48 A42 y288.length y288 from by rw [Ny288.out, KA42.out]; exact Kd.C_drop (m := ((ji26) : Int).toNat) (c := co41) ((Kd.R_reads' (Kd.R_after (ok := (fun k_ => some k_ ≠ (v304 : Value).ownBlock)) sq52 hg hat)).2.2) KL42.out ((Kd.R_reads' (Kd.R_after (ok := (fun k_ => some k_ ≠ (v304 : Value).ownBlock)) sq52 hg hat)).2.1))); have n5_ := Aside0.mk ((show Kd.C (Kd.int .i64) w48 Ao41 y296.length y296 from by rw [Ny296.out]; exact Kd.C_take (m := ((ji26) : Int).toNat) ((Kd.R_reads' (Kd.R_after (ok := (fun k_ => some k_ ≠ (v304 : Value).ownBlock)) sq52 hg hat)).2.2) KL45.out)); have n6_ := Aside0.mk (ho); clear HO_7; clear BK265; clear HO305; clear HB; clear HR291; clear HR299; clear HO_6; have HO_7 := n0_; have BK265 := n1_; have HO305 := n2_; have HB := n3_; have HR291 := n4_; have HR299 := n5_; have HO308 := n6_; clear n0_ n1_ n2_ n3_ n4_ n5_ n6_; clear ho hb hg hat)); try go_wp2_with (first | (go_at_call 43; (with_reducible refine (tontineref18_parts.calls k1 ((rd_T56 l0 x8_1).f0) ((rd_T56 l0 x8_1).f1) ((rd_T56 l0 x8_1).f2) t267 _ A6.out).mono ?_); rintro e w40 ⟨rfl, hb⟩; have n0_ := Aside0.mk (Kd.R_below sq14 hb); have n1_ := Aside0.mk (Kd.R_below sq15 hb); have n2_ := Aside0.mk (blk_below (g := gb265) (o := .cells #[.int .i64 x266000_1, .int .i64 x266001_1] 32 (0, 0)) sq42 hb); have n3_ := Aside0.mk (below_step sq68 hb); clear HO_6; clear HO_7; clear BK265; clear HB; have HO_6 := n0_; have HO_7 := n1_; have BK265 := n2_; have HB := n3_; clear n0_ n1_ n2_ n3_; (try clear hb); (try clear hb2); (try clear hk); (try clear hi); have p268 : 0 ≤ (x8_1 : Int) := of_decide_eq_true sq7; have q268 : x8_1 < (l0.length : Int) := of_decide_eq_true sq7; obtain ⟨ad268, e268, hx268_0, hx268_1, hx268_2⟩ := at_T56 HR0.out x8_1 p268 q268; obtain rfl : ad266 = ad268 := (by injection e268); replace hx268_0 := (HB.out.cell (World.block_lt_of_cell? w _ hx268_0)).trans hx268_0; replace hx268_1 := (HB.out.cell (World.block_lt_of_cell? w _ hx268_1)).trans hx268_1; replace hx268_2 := (HB.out.cell (World.block_lt_of_cell? w _ hx268_2)).trans hx268_2; replace p268 := eq_true p268; replace q268 := eq_true q268; have p287 : 0 ≤ (x8_1 : Int) := of_decide_eq_true sq7; have q287 : x8_1 < (l0.length : Int) := of_decide_eq_true sq7; obtain ⟨ad287, e287, hx287_0, hx287_1, hx287_2⟩ := at_T56 HR0.out x8_1 p287 q287; obtain rfl : ad266 = ad287 := (by injection e287); replace hx287_0 := (HB.out.cell (World.block_lt_of_cell? w _ hx287_0)).trans hx287_0; replace hx287_1 := (HB.out.cell (World.block_lt_of_cell? w _ hx287_1)).trans hx287_1; replace hx287_2 := (HB.out.cell (World.block_lt_of_cell? w _ hx287_2)).trans hx287_2; replace p287 := eq_true p287; replace q287 := eq_true q287; obtain ⟨Ao41, co41, eo41⟩ := Kd.R_slice HO_7.out; subst eo41; have q42 : ((ji26) : Int) ≤ ((x7_1.length : Int) : Int) := of_decide_eq_true sq7; obtain ⟨i042, hi042, _, hsz42, _⟩ := info_parts info3; have hroom42 : x7_1.length ≤ co41 := (Kd.R_reads' HO_7.out).2.1; have hC42 : Kd.C (Kd.int .i64) _ Ao41 x7_1.length x7_1 := (Kd.R_reads' HO_7.out).2.2; have q042 : (0 : Int) ≤ ((ji26) : Int) := of_decide_eq_true sq7; have hcut42 := cut_from (P := Try.prog) 36 3 .i64 Try.underlying36 hi042 1 hsz42 Ao41 x7_1.length co41 (ji26) q042 q42; have hr42 := Kd.C_drop (m := ((ji26) : Int).toNat) (c := co41) hC42 sq0 hroom42; obtain ⟨A42, hA42⟩ : ∃ A1, A1 = (if co41 = ((ji26) : Int).toNat then Ao41 else (Ao41 : Option Addr).map (·.add (((ji26) : Int).toNat * 1))) := ⟨_, rfl⟩; obtain ⟨c42, hc42⟩ : ∃ c1, c1 = co41 - ((ji26) : Int).toNat := ⟨_, rfl⟩; have hy42 : y288.length = x7_1.length - ((ji26) : Int).toNat := (by rw [Ny288.out, List.length_drop] <;> omega); rw [show (x7_1).drop ((ji26) : Int).toNat = y288 from Ny288.out.symm] at hr42; replace hr42 : Kd.C (Kd.int .i64) _ A42 y288.length y288 := (by rw [hA42]; exact hr42); rw [← hy42, ← hA42, ← hc42] at hcut42; have HR291 := Aside0.mk hr42; have HC291 := Aside0.mk (show y288.length ≤ c42 from by rw [hy42, hc42]; exact Nat.sub_le_sub_right hroom42 _); clear hr42 hC42 hroom42 hi042 hsz42 hc42; have KY42 := Aside0.mk hy42; have KA42 := Aside0.mk hA42; clear hy42 hA42; have KL42 := Aside0.mk (show ((ji26) : Int).toNat ≤ x7_1.length from by omega); replace q42 := eq_true q42) | (go_at_call 45; (with_reducible refine (tontineref18_made.calls k1 ((rd_T56 l0 x8_1).f0) _ _ y288 t292 _ ?side1 ?side2 A29.out).mono ?_); (case side1 => repeat (first | exact sq82 | (with_reducible refine Kd.C_alloc ?_ _) | (with_reducible refine Kd.C_drewN ?_ _) | (with_reducible refine Kd.C_drew ?_))); (case side2 => exact HC291.out); rintro e w' ⟨rfl, ⟨nd, rfl⟩⟩; (try first | exact ⟨rfl, _, World.drewN_drewN _ _ _⟩ | exact ⟨rfl, _, Eq.trans (World.drewN_drewN _ _ _) (congrArg (World.drewN _) (Nat.add_assoc _ _ _))⟩)) | ((with_reducible refine gate_dst (N := 53) rfl ?_); refine Kd.R_lit (Kd.int .i64) _ 3 ?hg (N := 53) ?hd (xs := ([] : List Int)) (inner := []) (ok := fun _ => True) (okp := fun _ => True) ?hr ?hp (fun _ hk => hk) trivial (Below.refl _ _) (Nat.le_refl _) (by simp) ?_; (case hd => rfl); (case hg => rfl); (case hr => first | (go_simp; done) | (go_simp; rfl)); (case hp => exact (Reps.none _ _)); intro v294 w43 ho44 hb hg_ hnew_; clear hg_ hnew_; (first | rw [← Ny293.out] at ho44 | (simp only [Int.reduceToNat] at ho44; rw [← Ny293.out] at ho44)); have n0_ := Aside0.mk (Kd.R_elder' sq14 (Kd.R_base ho44) hb); have n1_ := Aside0.mk (Kd.R_elder' sq15 (Kd.R_base ho44) hb); have n2_ := Aside0.mk (Kd.R_lower (Kd.R_new' (Kd.R_new' ho44 (Kd.R_lt sq14)) (Kd.R_lt sq15)) (below_size sq68)); have n3_ := Aside0.mk (blk_below (g := gb265) (o := .cells #[.int .i64 x266000_1, .int .i64 x266001_1] 32 (0, 0)) sq42 hb); have n4_ := Aside0.mk (Kd.C_below sq82 hb); have n5_ := Aside0.mk (below_step sq68 hb); clear HO_6; clear HO_7; clear BK265; clear HR291; clear HB; have HO_6 := n0_; have HO_7 := n1_; have HO295 := n2_; have BK265 := n3_; have HR291 := n4_; have HB := n5_; clear n0_ n1_ n2_ n3_ n4_ n5_; clear hb ho44; have q45 : ((ji26) : Int) ≤ ((x7_1.length : Int) : Int) := of_decide_eq_true sq7; obtain ⟨i045, hi045, _, hsz45, _⟩ := info_parts info3; have hroom45 : x7_1.length ≤ co41 := (Kd.R_reads' HO_7.out).2.1; have hC45 : Kd.C (Kd.int .i64) _ Ao41 x7_1.length x7_1 := (Kd.R_reads' HO_7.out).2.2; have hcut45 := cut_to (P := Try.prog) 36 3 .i64 Try.underlying36 hi045 Ao41 x7_1.length co41 (ji26) (of_decide_eq_true sq7) q45 hroom45; have hr45 := Kd.C_take (m := ((ji26) : Int).toNat) hC45 sq0; have hy45 : y296.length = ((ji26) : Int).toNat := (by rw [Ny296.out, List.length_take]; omega); rw [← Ny296.out] at hr45; rw [← hy45] at hcut45; have HR299 := Aside0.mk hr45; have HC299 := Aside0.mk (show y296.length ≤ co41 from by omega); clear hr45 hC45 hroom45 hi045 hsz45; have KY45 := Aside0.mk hy45; clear hy45; have KL45 := Aside0.mk (show ((ji26) : Int).toNat ≤ x7_1.length from by omega); replace q45 := eq_true q45) | ((with_reducible refine gate_builtin (b := .append) (xs := #[.tmp 53, .tmp 59]) rfl ?_); at_builtin; refine Kd.R_append_rows (Kd.int .i64) (w0 := w) w.heap.size rfl (.tmp 53) (.tmp 59) 36 3 (.int .i64 0) 8 rfl Try.underlying36 info3 rfl sq1 sq0 v294 y293 y296 _ _ _ (fun k_ => some k_ ≠ (u6 : Value).ownBlock ∧ some k_ ≠ (.slice Ao41 x7_1.length co41 : Value).ownBlock) (fun _ => False) rfl rfl ?aO ?aR (fun _ _ h => h) (fun _ h => h.elim) ?aF ?aB ?aS ?aL ?_; (case aR => repeat (first | exact sq83 | (with_reducible refine Kd.C_alloc ?_ _) | (with_reducible refine Kd.C_drewN ?_ _) | (with_reducible refine Kd.C_drew ?_))); (case aB => exact sq68); (case aF => exact (fun k_ hk => ⟨Kd.fresh' (Kd.R_lt sq14) k_ hk, Kd.fresh' (Kd.R_lt sq15) k_ hk⟩)); (case aO => exact sq56); (case aS => exact (below_size sq68)); (case aL => have := LMc37.out; omega); intro v301 w46 ho hb hg hat; rw [← Ny300.out] at ho; have n0_ := Aside0.mk (Kd.R_after (ok := (fun k_ => some k_ ≠ (.slice Ao41 x7_1.length co41 : Value).ownBlock)) sq14 hg hat); have n1_ := Aside0.mk (Kd.R_after (ok := (fun k_ => some k_ ≠ (u6 : Value).ownBlock)) sq15 hg hat); have n2_ := Aside0.mk (blk_grown (g := gb265) (o := .cells #[.int .i64 x266000_1, .int .i64 x266001_1] 32 (0, 0)) sq42 hg (Kd.R_ne HO295.out BK265.out sq1)); have n3_ := Aside0.mk (hb); have n4_ := Aside0.mk ((show Kd.C (Kd.int .i64) w46 A42 y288.length y288 from by rw [Ny288.out, KA42.out]; exact Kd.C_drop (m := ((ji26) : Int).toNat) (c := co41) ((Kd.R_reads' (Kd.R_after (ok := (fun k_ => some k_ ≠ (u6 : Value).ownBlock)) sq15 hg hat)).2.2) KL42.out ((Kd.R_reads' (Kd.R_after (ok := (fun k_ => some k_ ≠ (u6 : Value).ownBlock)) sq15 hg hat)).2.1))); have n5_ := Aside0.mk ((show Kd.C (Kd.int .i64) w46 Ao41 y296.length y296 from by rw [Ny296.out]; exact Kd.C_take (m := ((ji26) : Int).toNat) ((Kd.R_reads' (Kd.R_after (ok := (fun k_ => some k_ ≠ (u6 : Value).ownBlock)) sq15 hg hat)).2.2) KL45.out)); have n6_ := Aside0.mk (ho); clear HO_6; clear HO_7; clear BK265; clear HB; clear HR291; clear HR299; clear HO295; have HO_6 := n0_; have HO_7 := n1_; have BK265 := n2_; have HB := n3_; have HR291 := n4_; have HR299 := n5_; have HO302 := n6_; clear n0_ n1_ n2_ n3_ n4_ n5_ n6_; clear ho hb hg hat) | ((with_reducible refine gate_builtin (b := .append) (xs := #[.tmp 60, .tmp 62]) rfl ?_); at_builtin; refine Kd.R_append (Kd.int .i64) (w0 := w) w.heap.size rfl (.tmp 60) (.tmp 62) 36 3 (.int .i64 0) 8 rfl Try.underlying36 info3 rfl sq1 sq0 v301 y300 t292 [.int .i64 t292] (fun k_ => some k_ ≠ (u6 : Value).ownBlock ∧ some k_ ≠ (.slice Ao41 x7_1.length co41 : Value).ownBlock) (fun _ => False) rfl rfl ?aP (fun _ hk => hk.elim) ?aF ?aO ?aB ?aS ?aL ?_; (case aP => exact rfl); (case aB => exact sq68); (case aF => exact (fun k_ hk => ⟨Kd.fresh' (Kd.R_lt sq14) k_ hk, Kd.fresh' (Kd.R_lt sq15) k_ hk⟩)); (case aO => exact sq22); (case aS => exact (below_size sq68)); (case aL => have := LMc38.out; omega); intro v304 w47 ho hb hg hat; rw [← Ny303.out] at ho; have n0_ := Aside0.mk (Kd.R_after (ok := (fun k_ => some k_ ≠ (.slice Ao41 x7_1.length co41 : Value).ownBlock)) sq14 hg hat); have n1_ := Aside0.mk (Kd.R_after (ok := (fun k_ => some k_ ≠ (u6 : Value).ownBlock)) sq15 hg hat); have n2_ := Aside0.mk (blk_grown (g := gb265) (o := .cells #[.int .i64 x266000_1, .int .i64 x266001_1] 32 (0, 0)) sq42 hg (Kd.R_ne HO302.out BK265.out sq1)); have n3_ := Aside0.mk (hb); have n4_ := Aside0.mk ((show Kd.C (Kd.int .i64) w47 A42 y288.length y288 from by rw [Ny288.out, KA42.out]; exact Kd.C_drop (m := ((ji26) : Int).toNat) (c := co41) ((Kd.R_reads' (Kd.R_after (ok := (fun k_ => some k_ ≠ (u6 : Value).ownBlock)) sq15 hg hat)).2.2) KL42.out ((Kd.R_reads' (Kd.R_after (ok := (fun k_ => some k_ ≠ (u6 : Value).ownBlock)) sq15 hg hat)).2.1))); have n5_ := Aside0.mk ((show Kd.C (Kd.int .i64) w47 Ao41 y296.length y296 from by rw [Ny296.out]; exact Kd.C_take (m := ((ji26) : Int).toNat) ((Kd.R_reads' (Kd.R_after (ok := (fun k_ => some k_ ≠ (u6 : Value).ownBlock)) sq15 hg hat)).2.2) KL45.out)); have n6_ := Aside0.mk (ho); clear HO_6; clear HO_7; clear BK265; clear HB; clear HR291; clear HR299; clear HO302; have HO_6 := n0_; have HO_7 := n1_; have BK265 := n2_; have HB := n3_; have HR291 := n4_; have HR299 := n5_; have HO305 := n6_; clear n0_ n1_ n2_ n3_ n4_ n5_ n6_; clear ho hb hg hat) | ((with_reducible refine gate_builtin (b := .append) (xs := #[.tmp 64, .tmp 66]) rfl ?_); at_builtin; refine Kd.R_append (Kd.int .i64) (w0 := w) w.heap.size rfl (.tmp 64) (.tmp 66) 36 3 (.int .i64 0) 8 rfl Try.underlying36 info3 rfl sq1 sq0 u6 x6_1 t292 [.int .i64 t292] (fun k_ => some k_ ≠ (.slice Ao41 x7_1.length co41 : Value).ownBlock ∧ some k_ ≠ (v304 : Value).ownBlock) (fun _ => False) rfl rfl ?aP (fun _ hk => hk.elim) ?aF ?aO ?aB ?aS ?aL ?_; (case aP => exact rfl); (case aB => exact sq68); (case aF => exact (fun k_ hk => ⟨Kd.fresh' (Kd.R_lt sq15) k_ hk, Kd.fresh' (Kd.R_lt sq23) k_ hk⟩)); (case aO => exact sq14); (case aS => exact (below_size sq68)); (case aL => have := LMc39.out; omega); intro v307 w48 ho hb hg hat; rw [← Ny306.out] at ho; have n0_ := Aside0.mk (Kd.R_after (ok := (fun k_ => some k_ ≠ (v304 : Value).ownBlock)) sq52 hg hat); have n1_ := Aside0.mk (blk_grown (g := gb265) (o := .cells #[.int .i64 x266000_1, .int .i64 x266001_1] 32 (0, 0)) sq42 hg (Kd.R_ne HO_6.out BK265.out sq1)); have n2_ := Aside0.mk (Kd.R_after (ok := (fun k_ => some k_ ≠ (.slice Ao41 x7_1.length co41 : Value).ownBlock)) sq54 hg hat); have n3_ := Aside0.mk (hb); have n4_ := Aside0.mk ((show Kd.C (Kd.int .i64) w48 A42 y288.length y288 from by rw [Ny288.out, KA42.out]; exact Kd.C_drop (m := ((ji26) : Int).toNat) (c := co41) ((Kd.R_reads' (Kd.R_after (ok := (fun k_ => some k_ ≠ (v304 : Value).ownBlock)) sq52 hg hat)).2.2) KL42.out ((Kd.R_reads' (Kd.R_after (ok := (fun k_ => some k_ ≠ (v304 : Value).ownBlock)) sq52 hg hat)).2.1))); have n5_ := Aside0.mk ((show Kd.C (Kd.int .i64) w48 Ao41 y296.length y296 from by rw [Ny296.out]; exact Kd.C_take (m := ((ji26) : Int).toNat) ((Kd.R_reads' (Kd.R_after (ok := (fun k_ => some k_ ≠ (v304 : Value).ownBlock)) sq52 hg hat)).2.2) KL45.out)); have n6_ := Aside0.mk (ho); clear HO_7; clear BK265; clear HO305; clear HB; clear HR291; clear HR299; clear HO_6; have HO_7 := n0_; have BK265 := n1_; have HO305 := n2_; have HB := n3_; have HR291 := n4_; have HR299 := n5_; have HO308 := n6_; clear n0_ n1_ n2_ n3_ n4_ n5_ n6_; clear ho hb hg hat)))
          go_roundg k1
          case measure => have := HK1.out; omega
          case rel => exact ⟨(y306), (y303), (wrap64 (x8_1 + 1)), (x266000_1), (x266001_1), sq6, H', ⟨sq3⟩, ⟨by (with_reducible repeat (first | apply Kd.R_alloc | apply Kd.R_drewN | apply Kd.R_drew)); exact Kd.R_mono HO308.out (fun _ hk => hk.2)⟩, ⟨by (with_reducible repeat (first | apply Kd.R_alloc | apply Kd.R_drewN | apply Kd.R_drew)); exact Kd.R_mono HO305.out (fun _ hk => hk.2)⟩, ⟨sq42⟩, ⟨sq68⟩⟩
         rw [if_neg c39] at H
         exact absurd H (by simp)
        rw [if_neg c38] at H
        exact absurd H (by simp)
       rw [if_neg c37] at H
       exact absurd H (by simp)
      rw [if_neg c28] at H
      exact absurd H (by simp)
     rw [if_neg c27] at H
     exact absurd H (by simp)
    rw [if_neg c5] at H
    exact absurd H (by simp)
   rw [if_neg c4] at H
   have c4b0 : decide (x8_1 < (l0.length : Int)) = false := decide_eq_false c4; clear c4
   simp only [Option.some.injEq, Prod.mk.injEq] at H
   obtain ⟨rfl, rfl, rfl⟩ := H
   have hcz49_0 : wr.cell? ⟨gb265, 0, none⟩ = some (.int .i64 x266000_1) := (blk_cell BK265.out 0).trans rfl
   have hcz49_1 : wr.cell? ⟨gb265, 1, none⟩ = some (.int .i64 x266001_1) := (blk_cell BK265.out 1).trans rfl
   have hfz49_0 := blk_frozen BK265.out 0
   have hfz49_1 := blk_frozen BK265.out 1
   go_wp2
   repeat (go_quiet (fail); try go_wp2)
   refine bodyPost_ret (results_tc rfl _ _ gb265 32 #[.int .i64 0, .int .i64 0] (0, 0) _ rfl (by (with_reducible repeat (first | refine blk_drewN ?_ _ | refine blk_drew ?_ | refine blk_alloc ?_ _)); refine blk_put (cs := #[.int .i64 0, .int .i64 x266001_1]) ?_ 1 _ rfl; (with_reducible repeat (first | refine blk_drewN ?_ _ | refine blk_drew ?_ | refine blk_alloc ?_ _)); refine blk_put (cs := #[.int .i64 x266000_1, .int .i64 x266001_1]) ?_ 0 _ rfl; (with_reducible repeat (first | refine blk_drewN ?_ _ | refine blk_drew ?_ | refine blk_alloc ?_ _)); exact BK265.out) Try.underlying32 rfl (by kernel_rfl)) rfl ?_
   exact ⟨_, sq13, by (with_reducible repeat (first | apply Kd.R_alloc | apply Kd.R_drewN | apply Kd.R_drew)); exact Kd.R_mono (Kd.R_far (p := ⟨gb265, 1, none⟩) (Kd.R_far (p := ⟨gb265, 0, none⟩) (Kd.R_types HO_6.out BK265.out sq1) (fun _ hk => hk.2) (.int .i64 0)) (fun _ hk => hk.2) (.int .i64 0)) (fun _ hk => trivial), sq68⟩

/-! ### tontineref18_Each: function 14 -/
def tontineref18_Each.f (k : Nat) (l0 : List (S56)) (l1 : List (S59)) : Option (List Int × Int × Int) := (tontineref18_looked.f k l0 l1).bind fun t310 => (if t310 = 0 then ((tontineref18_typed.f k l0 l1).bind fun bt311 => (some (bt311.1, bt311.2.1, bt311.2.2))) else (some (([] : List Int), 0, t310)))
theorem tontineref18_Each.mono : ∀ a0 a1 k, LeO (tontineref18_Each.f k a0 a1) (tontineref18_Each.f (k + 1) a0 a1) := by
 intro a0 a1 k
 unfold tontineref18_Each.f
 exact (by repeat' first | (with_reducible exact tontineref18_looked.mono _ _ _) | (with_reducible exact tontineref18_typed.mono _ _ _) | (with_reducible exact LeO.refl _) | (with_reducible exact LeO.none _) | (with_reducible refine LeO.ite ?_ ?_) | (with_reducible refine LeO.bind ?_ (fun _ => ?_)) | exact tontineref18_looked.mono _ _ _ | exact tontineref18_typed.mono _ _ _ | exact LeO.none _ | refine LeO.ite ?_ ?_ | refine LeO.bind ?_ (fun _ => ?_))
set_option maxHeartbeats 8000000 in
set_option maxRecDepth 100000 in
theorem tontineref18_Each.calls (k : Nat) (A0 : Option Addr) (c0 : Nat) (l0 : List (S56)) (A1 : Option Addr) (c1 : Nat) (l1 : List (S59)) (r1 : List Int) (r2 : Int) (r3 : Int) (w : World) (hr0 : Kd.C k56 w A0 l0.length l0) (hc0 : l0.length ≤ c0) (hr1 : Kd.C k59 w A1 l1.length l1) (hc1 : l1.length ≤ c1) (h : tontineref18_Each.f k l0 l1 = some (r1, r2, r3)) :
  Calls Try.prog 14 #[.slice A0 l0.length c0, .slice A1 l1.length c1] w fun e w' => ∃ v0_ : Value, e = .returned (.tuple #[v0_, .agg #[.int .i64 r2, .int .i64 r3]]) ∧ Kd.R (Kd.int .i64) 3 w' w.heap.size (fun _ => True) v0_ r1 ∧ Below w.heap.size w w' := by
 have hu32 := Try.underlying32
 have HR0 := Aside0.mk hr0
 have HC0 := Aside0.mk hc0
 clear hr0 hc0
 have HR1 := Aside0.mk hr1
 have HC1 := Aside0.mk hc1
 clear hr1 hc1
 have HB := Aside0.mk (Below.refl w.heap.size w)
 have H : ((tontineref18_looked.f k l0 l1).bind fun t310 => (if t310 = 0 then ((tontineref18_typed.f k l0 l1).bind fun bt311 => (some (bt311.1, bt311.2.1, bt311.2.2))) else (some (([] : List Int), 0, t310)))) = some (r1, r2, r3) := h
 clear h
 replace H := Option.bind_eq_some_iff.mp H
 obtain ⟨t310, A30, H⟩ := H
 replace H : (if t310 = 0 then ((tontineref18_typed.f k l0 l1).bind fun bt311 => (some (bt311.1, bt311.2.1, bt311.2.2))) else (some (([] : List Int), 0, t310))) = some (r1, r2, r3) := H
 have A3 := Aside0.mk A30
 clear A30
 by_cases c4 : t310 = 0
 ·rw [if_pos c4] at H
  have c4b0 : (t310 == 0) = true := beq_iff_eq.mpr c4
  have c4b1 : (t310 != 0) = false := bne_eq_false_iff_eq.mpr c4
  clear c4
  replace H := Option.bind_eq_some_iff.mp H
  obtain ⟨⟨t311, t314, t315⟩, A50, H⟩ := H
  replace H : (some (t311, t314, t315)) = some (r1, r2, r3) := H
  have A5 := Aside0.mk A50
  clear A50
  simp only [Option.some.injEq, Prod.mk.injEq] at H
  obtain ⟨rfl, rfl, rfl⟩ := H
  go_enter Try.func14, Try.ntmps14
  go_wp2_with (first | ((with_reducible refine gate_dst (N := 5) rfl ?_); refine box_event ?hg (N := 5) ?hd (cs := #[.int .i64 0, .int .i64 0]) (t := 32) ?hr ?_; (case hd => rfl); (case hg => rfl); (case hr => first | (go_simp; done) | (go_simp; rfl)); intro gb309 hg w6 hbox hb; have n0_ := Aside0.mk (below_step sq49 hb); have n1_ := Aside0.mk (hbox); have n2_ := Aside0.mk ((by rw [hg]; exact (below_size sq49) : w.heap.size ≤ gb309)); have n3_ := Aside0.mk ((by rw [hg]; exact (below_size sq49) : w.heap.size ≤ gb309)); clear HB; have HB := n0_; have BK309 := n1_; have GW309 := n2_; have GE309 := n3_; clear n0_ n1_ n2_ n3_; clear hb hbox hg) | ((with_reducible refine gate_callee (f := 29) rfl ?_); refine goesL_ (some 9) rfl rfl Try.func29 sq2 rfl #[.slice A0 l0.length c0, .slice A1 l1.length c1] rfl sq50 ?_; (with_reducible refine (tontineref18_looked.calls k _ _ l0 _ _ l1 t310 _ ?side1 ?side2 ?side3 ?side4 A3.out).mono ?_); (case side1 => repeat (first | exact (Kd.C_below HR0.out HB.out) | (with_reducible refine Kd.C_alloc ?_ _) | (with_reducible refine Kd.C_drewN ?_ _) | (with_reducible refine Kd.C_drew ?_))); (case side2 => exact HC0.out); (case side3 => repeat (first | exact (Kd.C_below HR1.out HB.out) | (with_reducible refine Kd.C_alloc ?_ _) | (with_reducible refine Kd.C_drewN ?_ _) | (with_reducible refine Kd.C_drew ?_))); (case side4 => exact HC1.out); rintro e w7 ⟨rfl, hb⟩; refine ⟨_, rfl, ?_⟩; have n0_ := Aside0.mk (blk_below (g := gb309) (o := .cells #[.int .i64 0, .int .i64 0] 32 (0, 0)) sq43 hb); have n1_ := Aside0.mk (below_step sq69 hb); clear BK309; clear HB; have BK309 := n0_; have HB := n1_; clear n0_ n1_; (try clear hb); (try clear hb2); (try clear hk); (try clear hi)) | ((with_reducible refine gate_callee (f := 30) rfl ?_); refine goesL_ (some 16) rfl rfl Try.func30 sq2 rfl #[.slice A0 l0.length c0, .slice A1 l1.length c1] rfl sq50 ?_; (with_reducible refine (tontineref18_typed.calls k _ _ l0 _ _ l1 t311 t314 t315 _ ?side1 ?side2 ?side3 ?side4 A5.out).mono ?_); (case side1 => repeat (first | exact (Kd.C_below HR0.out HB.out) | (with_reducible refine Kd.C_alloc ?_ _) | (with_reducible refine Kd.C_drewN ?_ _) | (with_reducible refine Kd.C_drew ?_))); (case side2 => exact HC0.out); (case side3 => repeat (first | exact (Kd.C_below HR1.out HB.out) | (with_reducible refine Kd.C_alloc ?_ _) | (with_reducible refine Kd.C_drewN ?_ _) | (with_reducible refine Kd.C_drew ?_))); (case side4 => exact HC1.out); rintro e w8 ⟨v312, rfl, ho0, hb⟩; refine ⟨_, rfl, ?_⟩; have n0_ := Aside0.mk (Kd.R_lower ho0 (below_size sq69)); have n1_ := Aside0.mk (blk_below (g := gb309) (o := .cells #[.int .i64 0, .int .i64 0] 32 (0, 0)) sq43 hb); have n2_ := Aside0.mk (below_step sq69 hb); clear BK309; clear HB; have HO313 := n0_; have BK309 := n1_; have HB := n2_; clear n0_ n1_ n2_; (try clear hb); (try clear hb2); (try clear hk); (try clear hi); (try clear ho0); have hcz9_0 : w8.cell? ⟨gb309, 0, none⟩ = some (.int .i64 0) := (blk_cell BK309.out 0).trans rfl; have hcz9_1 : w8.cell? ⟨gb309, 1, none⟩ = some (.int .i64 0) := (blk_cell BK309.out 1).trans rfl; have hfz9_0 := blk_frozen BK309.out 0; have hfz9_1 := blk_frozen BK309.out 1))
  refine bodyPost_ret (results_tc rfl _ _ gb309 32 #[.int .i64 t314, .int .i64 t315] (0, 0) _ rfl (by (with_reducible repeat (first | refine blk_drewN ?_ _ | refine blk_drew ?_ | refine blk_alloc ?_ _)); refine blk_put (cs := #[.int .i64 t314, .int .i64 0]) ?_ 1 _ rfl; (with_reducible repeat (first | refine blk_drewN ?_ _ | refine blk_drew ?_ | refine blk_alloc ?_ _)); refine blk_put (cs := #[.int .i64 0, .int .i64 0]) ?_ 0 _ rfl; (with_reducible repeat (first | refine blk_drewN ?_ _ | refine blk_drew ?_ | refine blk_alloc ?_ _)); exact BK309.out) Try.underlying32 rfl (by kernel_rfl)) rfl ?_
  exact ⟨_, sq13, by (with_reducible repeat (first | apply Kd.R_alloc | apply Kd.R_drewN | apply Kd.R_drew)); exact Kd.R_mono (Kd.R_far (p := ⟨gb309, 1, none⟩) (Kd.R_far (p := ⟨gb309, 0, none⟩) (Kd.R_types HO313.out BK309.out sq1) (fun _ hk => hk.2) (.int .i64 t314)) (fun _ hk => hk.2) (.int .i64 t315)) (fun _ hk => trivial), sq69⟩
 rw [if_neg c4] at H
 have c4b0 : (t310 == 0) = false := beq_eq_false_iff_ne.mpr c4
 have c4b1 : (t310 != 0) = true := bne_iff_ne.mpr c4
 simp only [Option.some.injEq, Prod.mk.injEq] at H
 obtain ⟨rfl, rfl, rfl⟩ := H
 go_enter Try.func14, Try.ntmps14
 go_wp2_with (first | ((with_reducible refine gate_dst (N := 5) rfl ?_); refine box_event ?hg (N := 5) ?hd (cs := #[.int .i64 0, .int .i64 0]) (t := 32) ?hr ?_; (case hd => rfl); (case hg => rfl); (case hr => first | (go_simp; done) | (go_simp; rfl)); intro gb309 hg w10 hbox hb; have n0_ := Aside0.mk (below_step sq49 hb); have n1_ := Aside0.mk (hbox); have n2_ := Aside0.mk ((by rw [hg]; exact (below_size sq49) : w.heap.size ≤ gb309)); have n3_ := Aside0.mk ((by rw [hg]; exact (below_size sq49) : w.heap.size ≤ gb309)); clear HB; have HB := n0_; have BK309 := n1_; have GW309 := n2_; have GE309 := n3_; clear n0_ n1_ n2_ n3_; clear hb hbox hg) | ((with_reducible refine gate_callee (f := 29) rfl ?_); refine goesL_ (some 9) rfl rfl Try.func29 sq2 rfl #[.slice A0 l0.length c0, .slice A1 l1.length c1] rfl sq50 ?_; (with_reducible refine (tontineref18_looked.calls k _ _ l0 _ _ l1 t310 _ ?side1 ?side2 ?side3 ?side4 A3.out).mono ?_); (case side1 => repeat (first | exact (Kd.C_below HR0.out HB.out) | (with_reducible refine Kd.C_alloc ?_ _) | (with_reducible refine Kd.C_drewN ?_ _) | (with_reducible refine Kd.C_drew ?_))); (case side2 => exact HC0.out); (case side3 => repeat (first | exact (Kd.C_below HR1.out HB.out) | (with_reducible refine Kd.C_alloc ?_ _) | (with_reducible refine Kd.C_drewN ?_ _) | (with_reducible refine Kd.C_drew ?_))); (case side4 => exact HC1.out); rintro e w11 ⟨rfl, hb⟩; refine ⟨_, rfl, ?_⟩; have n0_ := Aside0.mk (blk_below (g := gb309) (o := .cells #[.int .i64 0, .int .i64 0] 32 (0, 0)) sq43 hb); have n1_ := Aside0.mk (below_step sq69 hb); clear BK309; clear HB; have BK309 := n0_; have HB := n1_; clear n0_ n1_; (try clear hb); (try clear hb2); (try clear hk); (try clear hi); have hcz12_0 : w11.cell? ⟨gb309, 0, none⟩ = some (.int .i64 0) := (blk_cell BK309.out 0).trans rfl; have hcz12_1 : w11.cell? ⟨gb309, 1, none⟩ = some (.int .i64 0) := (blk_cell BK309.out 1).trans rfl; have hfz12_0 := blk_frozen BK309.out 0; have hfz12_1 := blk_frozen BK309.out 1))
 refine bodyPost_ret (results_tc rfl _ _ gb309 32 #[.int .i64 0, .int .i64 t310] (0, 0) _ rfl (by (with_reducible repeat (first | refine blk_drewN ?_ _ | refine blk_drew ?_ | refine blk_alloc ?_ _)); refine blk_put (cs := #[.int .i64 0, .int .i64 0]) ?_ 1 _ rfl; (with_reducible repeat (first | refine blk_drewN ?_ _ | refine blk_drew ?_ | refine blk_alloc ?_ _)); refine blk_put (cs := #[.int .i64 0, .int .i64 0]) ?_ 0 _ rfl; (with_reducible repeat (first | refine blk_drewN ?_ _ | refine blk_drew ?_ | refine blk_alloc ?_ _)); exact BK309.out) Try.underlying32 rfl (by kernel_rfl)) rfl ?_
 exact ⟨_, sq13, sq51, sq69⟩

/-! ### tontineref18_Of: function 11 -/
def tontineref18_Of.f (k : Nat) (l0 : List (S56)) (l1 : List (S59)) : Option (Int × Int × Int) := (tontineref18_Each.f k l0 l1).bind fun bt317 => (if bt317.2.2 = 0 then (if 0 ≤ (wrap64 ((bt317.1.length : Int) - 1)) then (if (wrap64 ((bt317.1.length : Int) - 1)) < (bt317.1.length : Int) then (some (rd bt317.1 (wrap64 ((bt317.1.length : Int) - 1)), bt317.2.1, bt317.2.2)) else (none)) else (none)) else (some (0, bt317.2.1, bt317.2.2)))
theorem tontineref18_Of.mono : ∀ a0 a1 k, LeO (tontineref18_Of.f k a0 a1) (tontineref18_Of.f (k + 1) a0 a1) := by
 intro a0 a1 k
 unfold tontineref18_Of.f
 exact (by repeat' first | (with_reducible exact tontineref18_Each.mono _ _ _) | (with_reducible exact LeO.refl _) | (with_reducible exact LeO.none _) | (with_reducible refine LeO.ite ?_ ?_) | (with_reducible refine LeO.bind ?_ (fun _ => ?_)) | exact tontineref18_Each.mono _ _ _ | exact LeO.none _ | refine LeO.ite ?_ ?_ | refine LeO.bind ?_ (fun _ => ?_))
def tontineref18_Of.T4 : Bool × List (List Nat × List Nat) := (true, [([], []), ([], []), ([1], [1]), ([2], [2]), ([0, 3], [0, 3]), ([4], [4]), ([], []), ([5, 0, 1, 2, 3, 4, 5], [5]), ([6, 7, 0, 1, 2, 3, 4, 5, 6, 7], [6])])
def tontineref18_Of.B4 : List Nat := [0, 0, 2, 6, 15, 31, 0, 63, 255]
theorem tontineref18_Of.tab4 : rtab .any (opsOf Try.f11 4) = tontineref18_Of.T4 := by kernel_rfl
theorem tontineref18_Of.bits4 : waitsOk tontineref18_Of.T4.2 tontineref18_Of.B4 = true := by kernel_rfl
set_option maxHeartbeats 8000000 in
set_option maxRecDepth 100000 in
theorem tontineref18_Of.calls (k : Nat) (A0 : Option Addr) (c0 : Nat) (l0 : List (S56)) (A1 : Option Addr) (c1 : Nat) (l1 : List (S59)) (r1 : Int) (r2 : Int) (r3 : Int) (w : World) (hr0 : Kd.C k56 w A0 l0.length l0) (hc0 : l0.length ≤ c0) (hr1 : Kd.C k59 w A1 l1.length l1) (hc1 : l1.length ≤ c1) (h : tontineref18_Of.f k l0 l1 = some (r1, r2, r3)) :
  Calls Try.prog 11 #[.slice A0 l0.length c0, .slice A1 l1.length c1] w fun e w' => e = .returned (.tuple #[.int .i64 r1, .agg #[.int .i64 r2, .int .i64 r3]]) ∧ Below w.heap.size w w' := by
 have hu32 := Try.underlying32
 have HR0 := Aside0.mk hr0
 have HC0 := Aside0.mk hc0
 clear hr0 hc0
 have HR1 := Aside0.mk hr1
 have HC1 := Aside0.mk hc1
 clear hr1 hc1
 have HB := Aside0.mk (Below.refl w.heap.size w)
 have H : ((tontineref18_Each.f k l0 l1).bind fun bt317 => (if bt317.2.2 = 0 then (if 0 ≤ (wrap64 ((bt317.1.length : Int) - 1)) then (if (wrap64 ((bt317.1.length : Int) - 1)) < (bt317.1.length : Int) then (some (rd bt317.1 (wrap64 ((bt317.1.length : Int) - 1)), bt317.2.1, bt317.2.2)) else (none)) else (none)) else (some (0, bt317.2.1, bt317.2.2)))) = some (r1, r2, r3) := h
 clear h
 replace H := Option.bind_eq_some_iff.mp H
 obtain ⟨⟨t317, t320, t321⟩, A30, H⟩ := H
 replace H : (if t321 = 0 then (if 0 ≤ (wrap64 ((t317.length : Int) - 1)) then (if (wrap64 ((t317.length : Int) - 1)) < (t317.length : Int) then (some (rd t317 (wrap64 ((t317.length : Int) - 1)), t320, t321)) else (none)) else (none)) else (some (0, t320, t321))) = some (r1, r2, r3) := H
 have A3 := Aside0.mk A30
 clear A30
 by_cases c4 : t321 = 0
 ·rw [if_pos c4] at H
  have c4b0 : (t321 == 0) = true := beq_iff_eq.mpr c4
  have c4b1 : (t321 != 0) = false := bne_eq_false_iff_eq.mpr c4
  clear c4
  obtain ⟨ji5, hji5⟩ : ∃ j_ : Int, (wrap64 ((t317.length : Int) - 1)) = j_ := ⟨_, rfl⟩
  replace H : (if 0 ≤ (ji5) then (if (ji5) < (t317.length : Int) then (some (rd t317 (ji5), t320, t321)) else (none)) else (none)) = some (r1, r2, r3) := by first | (rw [hji5] at H; exact H) | (simp only [hji5] at H ⊢; exact H)
  (try rw [hji5] at A3)
  have hji5w : (IntKind.i64.wrap ((t317.length : Int) - 1)) = ji5 := (i64_w _).trans hji5
  by_cases c6 : 0 ≤ (ji5)
  ·rw [if_pos c6] at H
   have c6b0 : decide (0 ≤ (ji5)) = true := decide_eq_true c6; clear c6
   by_cases c7 : (ji5) < (t317.length : Int)
   ·rw [if_pos c7] at H
    have c7b0 : decide ((ji5) < (t317.length : Int)) = true := decide_eq_true c7; clear c7
    simp only [Option.some.injEq, Prod.mk.injEq] at H
    obtain ⟨rfl, rfl, rfl⟩ := H
    go_enter Try.func11, Try.ntmps11
    try go_wp2_with (first | ((with_reducible refine gate_dst (N := 5) rfl ?_); refine box_event ?hg (N := 5) ?hd (cs := #[.int .i64 0, .int .i64 0]) (t := 32) ?hr ?_; (case hd => rfl); (case hg => rfl); (case hr => first | (go_simp; done) | (go_simp; rfl)); intro gb316 hg w8 hbox hb; have n0_ := Aside0.mk (below_step sq49 hb); have n1_ := Aside0.mk (hbox); have n2_ := Aside0.mk ((by rw [hg]; exact (below_size sq49) : w.heap.size ≤ gb316)); have n3_ := Aside0.mk ((by rw [hg]; exact (below_size sq49) : w.heap.size ≤ gb316)); clear HB; have HB := n0_; have BK316 := n1_; have GW316 := n2_; have GE316 := n3_; clear n0_ n1_ n2_ n3_; clear hb hbox hg) | ((with_reducible refine gate_callee (f := 14) rfl ?_); refine goesL_ (some 11) rfl rfl Try.func14 sq2 rfl #[.slice A0 l0.length c0, .slice A1 l1.length c1] rfl sq50 ?_; (with_reducible refine (tontineref18_Each.calls k _ _ l0 _ _ l1 t317 t320 t321 _ ?side1 ?side2 ?side3 ?side4 A3.out).mono ?_); (case side1 => repeat (first | exact (Kd.C_below HR0.out HB.out) | (with_reducible refine Kd.C_alloc ?_ _) | (with_reducible refine Kd.C_drewN ?_ _) | (with_reducible refine Kd.C_drew ?_))); (case side2 => exact HC0.out); (case side3 => repeat (first | exact (Kd.C_below HR1.out HB.out) | (with_reducible refine Kd.C_alloc ?_ _) | (with_reducible refine Kd.C_drewN ?_ _) | (with_reducible refine Kd.C_drew ?_))); (case side4 => exact HC1.out); rintro e w9 ⟨v318, rfl, ho0, hb⟩; refine ⟨_, rfl, ?_⟩; have n0_ := Aside0.mk (Kd.R_lower ho0 (below_size sq70)); have n1_ := Aside0.mk (blk_below (g := gb316) (o := .cells #[.int .i64 0, .int .i64 0] 32 (0, 0)) sq44 hb); have n2_ := Aside0.mk (below_step sq70 hb); clear BK316; clear HB; have HO319 := n0_; have BK316 := n1_; have HB := n2_; clear n0_ n1_ n2_; (try clear hb); (try clear hb2); (try clear hk); (try clear hi); (try clear ho0)) | ((with_reducible refine gate_dst (N := 7) rfl ?_); refine box_event ?hg (N := 7) ?hd (cs := #[.int .i64 0, .int .i64 0]) (t := 32) ?hr ?_; (case hd => rfl); (case hg => rfl); (case hr => first | (go_simp; done) | (go_simp; rfl)); intro gb322 hg w10 hbox hb; have n0_ := Aside0.mk (Kd.R_below (by (with_reducible repeat (first | apply Kd.R_alloc | apply Kd.R_drewN | apply Kd.R_drew)); exact HO319.out) hb); have n1_ := Aside0.mk (blk_below (g := gb316) (o := .cells #[.int .i64 0, .int .i64 0] 32 (0, 0)) sq44 hb); have n2_ := Aside0.mk (below_step sq70 hb); have n3_ := Aside0.mk (hbox); have n4_ := Aside0.mk ((by rw [hg]; exact (below_size sq70) : w.heap.size ≤ gb322)); have n5_ := Aside0.mk ((by rw [hg]; exact (below_size sq70) : w.heap.size ≤ gb322)); have n6_ := Aside0.mk ((by rw [hg]; exact Nat.ne_of_lt (blk_lt (g := gb316) (o := .cells #[.int .i64 0, .int .i64 0] 32 (0, 0)) sq44) : gb316 ≠ gb322)); have n7_ := Aside0.mk ((by rw [hg]; exact Nat.ne_of_gt (blk_lt (g := gb316) (o := .cells #[.int .i64 0, .int .i64 0] 32 (0, 0)) sq44) : gb322 ≠ gb316)); clear HO319; clear BK316; clear HB; have HO319 := n0_; have BK316 := n1_; have HB := n2_; have BK322 := n3_; have GW322 := n4_; have GE322 := n5_; have NB316_322 := n6_; have NB322_316 := n7_; clear n0_ n1_ n2_ n3_ n4_ n5_ n6_ n7_; clear hb hbox hg; have hnb11 := NB322_316.out; have hnc11 := NB316_322.out; have hcz12_0 : w10.cell? ⟨gb322, 0, none⟩ = some (.int .i64 0) := (blk_cell BK322.out 0).trans rfl; have hcz12_1 : w10.cell? ⟨gb322, 1, none⟩ = some (.int .i64 0) := (blk_cell BK322.out 1).trans rfl; have hfz12_0 := blk_frozen BK322.out 0; have hfz12_1 := blk_frozen BK322.out 1))
    have n0_ : Aside0 (Kd.R (Kd.int .i64) 3 ((w10.setCell ⟨gb322, 0, none⟩ (.int .i64 t320)).setCell ⟨gb322, 1, none⟩ (.int .i64 t321)) w.heap.size (fun _ => True) v318 t317) := ⟨sq110⟩
    have n1_ : Aside0 (((w10.setCell ⟨gb322, 0, none⟩ (.int .i64 t320)).setCell ⟨gb322, 1, none⟩ (.int .i64 t321)).heap[gb316]? = some (.cells #[.int .i64 0, .int .i64 0] 32 (0, 0))) := ⟨sq116⟩
    have n2_ : Aside0 (((w10.setCell ⟨gb322, 0, none⟩ (.int .i64 t320)).setCell ⟨gb322, 1, none⟩ (.int .i64 t321)).heap[gb322]? = some (.cells #[.int .i64 t320, .int .i64 t321] 32 (0, 0))) := ⟨sq127⟩
    have n3_ : Aside0 (Below w.heap.size w ((w10.setCell ⟨gb322, 0, none⟩ (.int .i64 t320)).setCell ⟨gb322, 1, none⟩ (.int .i64 t321))) := ⟨sq87⟩
    (try clear HO319)
    (try clear BK316)
    (try clear BK322)
    (try clear HB)
    generalize ((w10.setCell ⟨gb322, 0, none⟩ (.int .i64 t320)).setCell ⟨gb322, 1, none⟩ (.int .i64 t321)) = w13 at n0_ n1_ n2_ n3_ ⊢
    have HO319 := n0_
    have BK316 := n1_
    have BK322 := n2_
    have HB := n3_
    clear n0_ n1_ n2_ n3_
    have n0_ := Aside0.mk (Kd.R_drew HO319.out)
    have n1_ := Aside0.mk (blk_drew BK316.out)
    have n2_ := Aside0.mk (blk_drew BK322.out)
    have n3_ := Aside0.mk (below_drew1 HB.out)
    clear HO319; clear BK316; clear BK322; clear HB
    have HO319 := n0_
    have BK316 := n1_
    have BK322 := n2_
    have HB := n3_
    clear n0_ n1_ n2_ n3_
    obtain ⟨Ao15, co15, eo15⟩ := Kd.R_slice HO319.out
    (first | subst eo15 | (injection eo15 with f1_ f2_ f3_; have f4_ := f1_.symm; have f5_ := f3_.symm; clear f1_ f2_ f3_; subst f4_; subst f5_))
    have p323 : 0 ≤ ((ji5) : Int) := of_decide_eq_true sq7
    have q323 : (ji5) < (t317.length : Int) := of_decide_eq_true sq7
    obtain ⟨ad323, e323, hx323_0⟩ := Kd.at_int (Kd.R_reads' HO319.out).2.2 (ji5) p323 q323
    cases e323
    replace p323 := eq_true p323
    replace q323 := eq_true q323
    refine start_ (n := 9) (S := fun w' => w'.cell? ⟨gb322, 0, none⟩ = some (.int .i64 t320) ∧ w'.cell? ⟨gb322, 1, none⟩ = some (.int .i64 t321) ∧ w'.cell? (ad323.add ((ji5)).toNat) = some (.int .i64 (rd t317 (ji5)))) (ds := []) #[false, false, false, false, false, false, false, false, false] sq2 rfl rfl ⟨(blk_cell BK322.out 0).trans rfl, (blk_cell BK322.out 1).trans rfl, hx323_0⟩ (fun hHeld => ?_); refine with_tabW tontineref18_Of.tab4 tontineref18_Of.bits4 (fun HT_ HW_ => ?_)
    generalize w13.drew = w14 at HO319 BK316 BK322 HB hx323_0 hHeld ⊢
    refine pure_ (i := 0) (N := some 18) (v := ?_) (a' := ?_) #[true, false, false, false, false, false, false, false, false] rfl rfl (any_of HT_.out sq2) (fun _ _ _ h => h) (Or.inl ⟨by rfl, ?_⟩) ?_ ?_
    rotate_left
    ·intro w'
     go_simp
     with_reducible rfl
    rotate_left
    ·simp only [Act.put, List.setIfInBounds_toArray, List.set_cons_zero, List.set_cons_succ, i64_w, i32_w]
     rfl
    refine pure_ (i := 1) (N := some 19) (v := ?_) (a' := ?_) #[true, true, false, false, false, false, false, false, false] rfl rfl (any_of HT_.out sq2) (fun _ _ _ h => h) (Or.inl ⟨by rfl, ?_⟩) ?_ ?_
    rotate_left
    ·intro w'
     go_simp
     with_reducible rfl
    rotate_left
    ·simp only [Act.put, List.setIfInBounds_toArray, List.set_cons_zero, List.set_cons_succ, i64_w, i32_w]
     rfl
    refine pure_ (i := 2) (N := some 20) (v := ?_) (a' := ?_) #[true, true, true, false, false, false, false, false, false] rfl rfl (any_of HT_.out sq2) (fun _ _ _ h => h) (Or.inl ⟨by rfl, ?_⟩) ?_ ?_
    rotate_left
    ·intro w'
     go_simp
     with_reducible rfl
    rotate_left
    ·simp only [Act.put, List.setIfInBounds_toArray, List.set_cons_zero, List.set_cons_succ, i64_w, i32_w]
     rfl
    refine pure_ (i := 3) (N := some 21) (v := ?_) (a' := ?_) #[true, true, true, true, false, false, false, false, false] rfl rfl (any_of HT_.out sq2) (fun _ _ _ h => h) (Or.inl ⟨by rfl, ?_⟩) ?_ ?_
    rotate_left
    ·intro w'
     go_simp
     with_reducible rfl
    rotate_left
    ·simp only [Act.put, List.setIfInBounds_toArray, List.set_cons_zero, List.set_cons_succ, i64_w, i32_w]
     rfl
    refine pure_ (i := 4) (N := some 22) (v := ?_) (a' := ?_) #[true, true, true, true, true, false, false, false, false] rfl rfl (any_of HT_.out sq2) (fun _ _ _ h => h) (Or.inl ⟨by rfl, ?_⟩) ?_ ?_
    rotate_left
    ·intro w'
     go_simp
     with_reducible rfl
    rotate_left
    ·simp only [Act.put, List.setIfInBounds_toArray, List.set_cons_zero, List.set_cons_succ, i64_w, i32_w]
     rfl
    refine take_ (i := 5) (N := some 23) (v := ?_) (a' := ?_) #[true, true, true, true, true, true, false, false, false] rfl rfl (take_ofW HT_.out HW_.out sq2) (fun _ _ _ h => h) (Or.inl ⟨by rfl, ?_⟩) hHeld ?_ ?_
    rotate_left
    ·rintro w' ⟨s0, s1, s2⟩
     go_simp
     with_reducible rfl
    rotate_left
    ·simp only [Act.put, List.setIfInBounds_toArray, List.set_cons_zero, List.set_cons_succ, i64_w, i32_w]
     rfl
    refine pure_ (i := 7) (N := some 4) (v := ?_) (a' := ?_) #[true, true, true, true, true, true, false, true, false] rfl rfl (any_of HT_.out sq2) (fun _ _ _ h => h) (Or.inl ⟨by rfl, ?_⟩) ?_ ?_
    rotate_left
    ·intro w'
     go_simp
     with_reducible rfl
    rotate_left
    ·simp only [Act.put, List.setIfInBounds_toArray, List.set_cons_zero, List.set_cons_succ, i64_w, i32_w]
     rfl
    refine take_ (i := 6) (N := some 24) (v := ?_) (a' := ?_) #[true, true, true, true, true, true, true, true, false] rfl rfl (take_ofW HT_.out HW_.out sq2) (fun _ _ _ h => h) (Or.inl ⟨by rfl, ?_⟩) hHeld ?_ ?_
    rotate_left
    ·rintro w' ⟨s0, s1, s2⟩
     go_simp
     with_reducible rfl
    rotate_left
    ·simp only [Act.put, List.setIfInBounds_toArray, List.set_cons_zero, List.set_cons_succ, i64_w, i32_w]
     rfl
    refine one_ (i := 8) (N := none) #[true, true, true, true, true, true, true, true, true] rfl rfl (one_of HT_.out sq2) sq1 (fun K hK => ?_)
    have hs16 : w14.cell? ⟨gb316, 0, none⟩ = some (.int .i64 0) := (blk_cell BK316.out 0).trans rfl
    have hfs16 := blk_frozen BK316.out 0
    have hns16_1 := NB322_316.out
    have hms16_1 := NB316_322.out
    have hs17 : w14.cell? ⟨gb316, 1, none⟩ = some (.int .i64 0) := (blk_cell BK316.out 1).trans rfl
    have hfs17 := blk_frozen BK316.out 1
    have hns17_1 := NB322_316.out
    have hms17_1 := NB316_322.out
    refine skip_ (w1 := ?_) (by rfl) rfl ?_ ?_
    rotate_left
    ·go_simp
     rfl
    refine hK.out _ _ ⟨((cell_far (p := ⟨gb316, _, none⟩) NB322_316.out _).trans (((cell_far (p := ⟨gb316, _, none⟩) NB322_316.out _).trans (hHeld.1)))), ((cell_far (p := ⟨gb316, _, none⟩) NB322_316.out _).trans (((cell_far (p := ⟨gb316, _, none⟩) NB322_316.out _).trans (hHeld.2.1)))), ((cell_far (p := ⟨gb316, _, none⟩) sq111 _).trans (((cell_far (p := ⟨gb316, _, none⟩) sq111 _).trans (hHeld.2.2))))⟩ (fun hHeld => ?_)
    clear hK K
    refine done_ (done_of HT_.out sq2) ?_
    try go_wp2
    refine bodyPost_ret (results_tc rfl _ _ gb316 32 #[.int .i64 t320, .int .i64 t321] (0, 0) _ rfl (by (with_reducible repeat (first | refine blk_drewN ?_ _ | refine blk_drew ?_ | refine blk_alloc ?_ _)); refine blk_put (cs := #[.int .i64 t320, .int .i64 0]) ?_ 1 _ rfl; (with_reducible repeat (first | refine blk_drewN ?_ _ | refine blk_drew ?_ | refine blk_alloc ?_ _)); refine blk_put (cs := #[.int .i64 0, .int .i64 0]) ?_ 0 _ rfl; (with_reducible repeat (first | refine blk_drewN ?_ _ | refine blk_drew ?_ | refine blk_alloc ?_ _)); exact BK316.out) Try.underlying32 rfl (by kernel_rfl)) rfl ?_
    exact ⟨by first | rfl | (simp [errW_none, errW_some] <;> rfl) | (simp only [← hji5]; first | rfl | (simp [errW_none, errW_some] <;> rfl)) | (simp [*, errW_none, errW_some] <;> rfl), sq87⟩
   rw [if_neg c7] at H
   exact absurd H (by simp)
  rw [if_neg c6] at H
  exact absurd H (by simp)
 rw [if_neg c4] at H
 have c4b0 : (t321 == 0) = false := beq_eq_false_iff_ne.mpr c4
 have c4b1 : (t321 != 0) = true := bne_iff_ne.mpr c4
 simp only [Option.some.injEq, Prod.mk.injEq] at H
 obtain ⟨rfl, rfl, rfl⟩ := H
 go_enter Try.func11, Try.ntmps11
 try go_wp2_with (first | ((with_reducible refine gate_dst (N := 5) rfl ?_); refine box_event ?hg (N := 5) ?hd (cs := #[.int .i64 0, .int .i64 0]) (t := 32) ?hr ?_; (case hd => rfl); (case hg => rfl); (case hr => first | (go_simp; done) | (go_simp; rfl)); intro gb316 hg w18 hbox hb; have n0_ := Aside0.mk (below_step sq49 hb); have n1_ := Aside0.mk (hbox); have n2_ := Aside0.mk ((by rw [hg]; exact (below_size sq49) : w.heap.size ≤ gb316)); have n3_ := Aside0.mk ((by rw [hg]; exact (below_size sq49) : w.heap.size ≤ gb316)); clear HB; have HB := n0_; have BK316 := n1_; have GW316 := n2_; have GE316 := n3_; clear n0_ n1_ n2_ n3_; clear hb hbox hg) | ((with_reducible refine gate_callee (f := 14) rfl ?_); refine goesL_ (some 11) rfl rfl Try.func14 sq2 rfl #[.slice A0 l0.length c0, .slice A1 l1.length c1] rfl sq50 ?_; (with_reducible refine (tontineref18_Each.calls k _ _ l0 _ _ l1 t317 t320 t321 _ ?side1 ?side2 ?side3 ?side4 A3.out).mono ?_); (case side1 => repeat (first | exact (Kd.C_below HR0.out HB.out) | (with_reducible refine Kd.C_alloc ?_ _) | (with_reducible refine Kd.C_drewN ?_ _) | (with_reducible refine Kd.C_drew ?_))); (case side2 => exact HC0.out); (case side3 => repeat (first | exact (Kd.C_below HR1.out HB.out) | (with_reducible refine Kd.C_alloc ?_ _) | (with_reducible refine Kd.C_drewN ?_ _) | (with_reducible refine Kd.C_drew ?_))); (case side4 => exact HC1.out); rintro e w19 ⟨v318, rfl, ho0, hb⟩; refine ⟨_, rfl, ?_⟩; have n0_ := Aside0.mk (Kd.R_lower ho0 (below_size sq70)); have n1_ := Aside0.mk (blk_below (g := gb316) (o := .cells #[.int .i64 0, .int .i64 0] 32 (0, 0)) sq44 hb); have n2_ := Aside0.mk (below_step sq70 hb); clear BK316; clear HB; have HO319 := n0_; have BK316 := n1_; have HB := n2_; clear n0_ n1_ n2_; (try clear hb); (try clear hb2); (try clear hk); (try clear hi); (try clear ho0)) | ((with_reducible refine gate_dst (N := 7) rfl ?_); refine box_event ?hg (N := 7) ?hd (cs := #[.int .i64 0, .int .i64 0]) (t := 32) ?hr ?_; (case hd => rfl); (case hg => rfl); (case hr => first | (go_simp; done) | (go_simp; rfl)); intro gb322 hg w20 hbox hb; have n0_ := Aside0.mk (Kd.R_below (by (with_reducible repeat (first | apply Kd.R_alloc | apply Kd.R_drewN | apply Kd.R_drew)); exact HO319.out) hb); have n1_ := Aside0.mk (blk_below (g := gb316) (o := .cells #[.int .i64 0, .int .i64 0] 32 (0, 0)) sq44 hb); have n2_ := Aside0.mk (below_step sq70 hb); have n3_ := Aside0.mk (hbox); have n4_ := Aside0.mk ((by rw [hg]; exact (below_size sq70) : w.heap.size ≤ gb322)); have n5_ := Aside0.mk ((by rw [hg]; exact (below_size sq70) : w.heap.size ≤ gb322)); have n6_ := Aside0.mk ((by rw [hg]; exact Nat.ne_of_lt (blk_lt (g := gb316) (o := .cells #[.int .i64 0, .int .i64 0] 32 (0, 0)) sq44) : gb316 ≠ gb322)); have n7_ := Aside0.mk ((by rw [hg]; exact Nat.ne_of_gt (blk_lt (g := gb316) (o := .cells #[.int .i64 0, .int .i64 0] 32 (0, 0)) sq44) : gb322 ≠ gb316)); clear HO319; clear BK316; clear HB; have HO319 := n0_; have BK316 := n1_; have HB := n2_; have BK322 := n3_; have GW322 := n4_; have GE322 := n5_; have NB316_322 := n6_; have NB322_316 := n7_; clear n0_ n1_ n2_ n3_ n4_ n5_ n6_ n7_; clear hb hbox hg; have hnb21 := NB322_316.out; have hnc21 := NB316_322.out; have hcz22_0 : w20.cell? ⟨gb322, 0, none⟩ = some (.int .i64 0) := (blk_cell BK322.out 0).trans rfl; have hcz22_1 : w20.cell? ⟨gb322, 1, none⟩ = some (.int .i64 0) := (blk_cell BK322.out 1).trans rfl; have hfz22_0 := blk_frozen BK322.out 0; have hfz22_1 := blk_frozen BK322.out 1))
 have n0_ : Aside0 (Kd.R (Kd.int .i64) 3 ((w20.setCell ⟨gb322, 0, none⟩ (.int .i64 t320)).setCell ⟨gb322, 1, none⟩ (.int .i64 t321)) w.heap.size (fun _ => True) v318 t317) := ⟨sq110⟩
 have n1_ : Aside0 (((w20.setCell ⟨gb322, 0, none⟩ (.int .i64 t320)).setCell ⟨gb322, 1, none⟩ (.int .i64 t321)).heap[gb316]? = some (.cells #[.int .i64 0, .int .i64 0] 32 (0, 0))) := ⟨sq116⟩
 have n2_ : Aside0 (((w20.setCell ⟨gb322, 0, none⟩ (.int .i64 t320)).setCell ⟨gb322, 1, none⟩ (.int .i64 t321)).heap[gb322]? = some (.cells #[.int .i64 t320, .int .i64 t321] 32 (0, 0))) := ⟨sq127⟩
 have n3_ : Aside0 (Below w.heap.size w ((w20.setCell ⟨gb322, 0, none⟩ (.int .i64 t320)).setCell ⟨gb322, 1, none⟩ (.int .i64 t321))) := ⟨sq87⟩
 (try clear HO319)
 (try clear BK316)
 (try clear BK322)
 (try clear HB)
 generalize ((w20.setCell ⟨gb322, 0, none⟩ (.int .i64 t320)).setCell ⟨gb322, 1, none⟩ (.int .i64 t321)) = w23 at n0_ n1_ n2_ n3_ ⊢
 have HO319 := n0_
 have BK316 := n1_
 have BK322 := n2_
 have HB := n3_
 clear n0_ n1_ n2_ n3_
 have n0_ := Aside0.mk (Kd.R_drew HO319.out)
 have n1_ := Aside0.mk (blk_drew BK316.out)
 have n2_ := Aside0.mk (blk_drew BK322.out)
 have n3_ := Aside0.mk (below_drew1 HB.out)
 clear HO319; clear BK316; clear BK322; clear HB
 have HO319 := n0_
 have BK316 := n1_
 have BK322 := n2_
 have HB := n3_
 clear n0_ n1_ n2_ n3_
 refine start_ (n := 3) (S := fun w' => w'.cell? ⟨gb322, 0, none⟩ = some (.int .i64 t320) ∧ w'.cell? ⟨gb322, 1, none⟩ = some (.int .i64 t321)) (ds := []) #[false, false, false] sq2 rfl rfl ⟨(blk_cell BK322.out 0).trans rfl, (blk_cell BK322.out 1).trans rfl⟩ (fun hHeld => ?_)
 generalize w23.drew = w24 at HO319 BK316 BK322 HB hHeld ⊢
 refine pure_ (i := 1) (N := some 4) (v := ?_) (a' := ?_) #[false, true, false] rfl rfl sq2 (fun _ _ _ h => h) (Or.inl ⟨by rfl, ?_⟩) ?_ ?_
 rotate_left
 ·intro w'
  go_simp
  with_reducible rfl
 rotate_left
 ·simp only [Act.put, List.setIfInBounds_toArray, List.set_cons_zero, List.set_cons_succ, i64_w, i32_w]
  rfl
 refine take_ (i := 0) (N := some 17) (v := ?_) (a' := ?_) #[true, true, false] rfl rfl sq2 (fun _ _ _ h => h) (Or.inl ⟨by rfl, ?_⟩) hHeld ?_ ?_
 rotate_left
 ·rintro w' ⟨s0, s1⟩
  go_simp
  with_reducible rfl
 rotate_left
 ·simp only [Act.put, List.setIfInBounds_toArray, List.set_cons_zero, List.set_cons_succ, i64_w, i32_w]
  rfl
 refine one_ (i := 2) (N := none) #[true, true, true] rfl rfl sq2 sq1 (fun K hK => ?_)
 have hs25 : w24.cell? ⟨gb316, 0, none⟩ = some (.int .i64 0) := (blk_cell BK316.out 0).trans rfl
 have hfs25 := blk_frozen BK316.out 0
 have hns25_1 := NB322_316.out
 have hms25_1 := NB316_322.out
 have hs26 : w24.cell? ⟨gb316, 1, none⟩ = some (.int .i64 0) := (blk_cell BK316.out 1).trans rfl
 have hfs26 := blk_frozen BK316.out 1
 have hns26_1 := NB322_316.out
 have hms26_1 := NB316_322.out
 refine skip_ (w1 := ?_) (by rfl) rfl ?_ ?_
 rotate_left
 ·go_simp
  rfl
 refine hK.out _ _ ⟨((cell_far (p := ⟨gb316, _, none⟩) NB322_316.out _).trans (((cell_far (p := ⟨gb316, _, none⟩) NB322_316.out _).trans (hHeld.1)))), ((cell_far (p := ⟨gb316, _, none⟩) NB322_316.out _).trans (((cell_far (p := ⟨gb316, _, none⟩) NB322_316.out _).trans (hHeld.2))))⟩ (fun hHeld => ?_)
 clear hK K
 refine done_ sq2 ?_
 try go_wp2
 refine bodyPost_ret (results_tc rfl _ _ gb316 32 #[.int .i64 t320, .int .i64 t321] (0, 0) _ rfl (by (with_reducible repeat (first | refine blk_drewN ?_ _ | refine blk_drew ?_ | refine blk_alloc ?_ _)); refine blk_put (cs := #[.int .i64 t320, .int .i64 0]) ?_ 1 _ rfl; (with_reducible repeat (first | refine blk_drewN ?_ _ | refine blk_drew ?_ | refine blk_alloc ?_ _)); refine blk_put (cs := #[.int .i64 0, .int .i64 0]) ?_ 0 _ rfl; (with_reducible repeat (first | refine blk_drewN ?_ _ | refine blk_drew ?_ | refine blk_alloc ?_ _)); exact BK316.out) Try.underlying32 rfl (by kernel_rfl)) rfl ?_
 exact ⟨sq13, sq87⟩

/-! ### tontinelaw18_fault: function 12 -/
def tontinelaw18_fault.f (a0_0 : Int) (a0_1 : Int) (a1_0 : Int) (a1_1 : Int) : Option (Bool) := if a0_0 = a1_0 then (some (a0_1 == a1_1)) else (some false)
set_option maxHeartbeats 8000000 in
set_option maxRecDepth 100000 in
theorem tontinelaw18_fault.calls (a0_0 : Int) (a0_1 : Int) (a1_0 : Int) (a1_1 : Int) (r : Bool) (w : World) (h : tontinelaw18_fault.f a0_0 a0_1 a1_0 a1_1 = some r) :
  Calls Try.prog 12 #[.agg #[.int .i64 a0_0, .int .i64 a0_1], .agg #[.int .i64 a1_0, .int .i64 a1_1]] w fun e w' => e = .returned (.bool r) ∧ Below w.heap.size w w' := by
 have hu28 := Try.underlying28
 have hu32 := Try.underlying32
 have HB := Aside0.mk (Below.refl w.heap.size w)
 have H : (if a0_0 = a1_0 then (some (a0_1 == a1_1)) else (some false)) = some r := h
 clear h
 by_cases c3 : a0_0 = a1_0
 ·rw [if_pos c3] at H
  have c3b0 : (a0_0 == a1_0) = true := beq_iff_eq.mpr c3
  have c3b1 : (a0_0 != a1_0) = false := bne_eq_false_iff_eq.mpr c3
  clear c3
  obtain rfl := Option.some.inj H
  go_enter Try.func12, Try.ntmps12
  go_wp2_with (first | ((with_reducible refine gate_dst (N := 2) rfl ?_); refine box_event ?hg (N := 2) ?hd (cs := #[.int .i64 a0_0, .int .i64 a0_1]) (t := 28) ?hr ?_; (case hd => rfl); (case hg => rfl); (case hr => first | (go_simp; done) | (go_simp; rfl)); intro gb324 hg w4 hbox hb; have n0_ := Aside0.mk (below_step sq49 hb); have n1_ := Aside0.mk (hbox); have n2_ := Aside0.mk ((by rw [hg]; exact (below_size sq49) : w.heap.size ≤ gb324)); have n3_ := Aside0.mk ((by rw [hg]; exact (below_size sq49) : w.heap.size ≤ gb324)); clear HB; have HB := n0_; have BK324 := n1_; have GW324 := n2_; have GE324 := n3_; clear n0_ n1_ n2_ n3_; clear hb hbox hg) | ((with_reducible refine gate_dst (N := 3) rfl ?_); refine box_event ?hg (N := 3) ?hd (cs := #[.int .i64 a1_0, .int .i64 a1_1]) (t := 32) ?hr ?_; (case hd => rfl); (case hg => rfl); (case hr => first | (go_simp; done) | (go_simp; rfl)); intro gb325 hg w5 hbox hb; have n0_ := Aside0.mk (blk_below (g := gb324) (o := .cells #[.int .i64 a0_0, .int .i64 a0_1] 28 (0, 0)) sq45 hb); have n1_ := Aside0.mk (below_step sq71 hb); have n2_ := Aside0.mk (hbox); have n3_ := Aside0.mk ((by rw [hg]; exact (below_size sq71) : w.heap.size ≤ gb325)); have n4_ := Aside0.mk ((by rw [hg]; exact (below_size sq71) : w.heap.size ≤ gb325)); have n5_ := Aside0.mk ((by rw [hg]; exact Nat.ne_of_lt (blk_lt (g := gb324) (o := .cells #[.int .i64 a0_0, .int .i64 a0_1] 28 (0, 0)) sq45) : gb324 ≠ gb325)); have n6_ := Aside0.mk ((by rw [hg]; exact Nat.ne_of_gt (blk_lt (g := gb324) (o := .cells #[.int .i64 a0_0, .int .i64 a0_1] 28 (0, 0)) sq45) : gb325 ≠ gb324)); clear BK324; clear HB; have BK324 := n0_; have HB := n1_; have BK325 := n2_; have GW325 := n3_; have GE325 := n4_; have NB324_325 := n5_; have NB325_324 := n6_; clear n0_ n1_ n2_ n3_ n4_ n5_ n6_; clear hb hbox hg; have hnb6 := NB324_325.out; have hnc6 := NB325_324.out; have hcz7_0 : w5.cell? ⟨gb324, 0, none⟩ = some (.int .i64 a0_0) := (blk_cell BK324.out 0).trans rfl; have hcz7_1 : w5.cell? ⟨gb324, 1, none⟩ = some (.int .i64 a0_1) := (blk_cell BK324.out 1).trans rfl; have hfz7_0 := blk_frozen BK324.out 0; have hfz7_1 := blk_frozen BK324.out 1; have hcz8_0 : w5.cell? ⟨gb325, 0, none⟩ = some (.int .i64 a1_0) := (blk_cell BK325.out 0).trans rfl; have hcz8_1 : w5.cell? ⟨gb325, 1, none⟩ = some (.int .i64 a1_1) := (blk_cell BK325.out 1).trans rfl; have hfz8_0 := blk_frozen BK325.out 0; have hfz8_1 := blk_frozen BK325.out 1))
  go_ret
  exact ⟨sq13, by repeat (first | (with_reducible first | exact HB.out | apply below_alloc | apply pw_below_drewN | apply below_drew1 | refine below_set ?_ GE324.out | refine below_set ?_ GE325.out) | exact HB.out)⟩
 rw [if_neg c3] at H
 have c3b0 : (a0_0 == a1_0) = false := beq_eq_false_iff_ne.mpr c3
 have c3b1 : (a0_0 != a1_0) = true := bne_iff_ne.mpr c3
 obtain rfl := Option.some.inj H
 go_enter Try.func12, Try.ntmps12
 go_wp2_with (first | ((with_reducible refine gate_dst (N := 2) rfl ?_); refine box_event ?hg (N := 2) ?hd (cs := #[.int .i64 a0_0, .int .i64 a0_1]) (t := 28) ?hr ?_; (case hd => rfl); (case hg => rfl); (case hr => first | (go_simp; done) | (go_simp; rfl)); intro gb324 hg w9 hbox hb; have n0_ := Aside0.mk (below_step sq49 hb); have n1_ := Aside0.mk (hbox); have n2_ := Aside0.mk ((by rw [hg]; exact (below_size sq49) : w.heap.size ≤ gb324)); have n3_ := Aside0.mk ((by rw [hg]; exact (below_size sq49) : w.heap.size ≤ gb324)); clear HB; have HB := n0_; have BK324 := n1_; have GW324 := n2_; have GE324 := n3_; clear n0_ n1_ n2_ n3_; clear hb hbox hg) | ((with_reducible refine gate_dst (N := 3) rfl ?_); refine box_event ?hg (N := 3) ?hd (cs := #[.int .i64 a1_0, .int .i64 a1_1]) (t := 32) ?hr ?_; (case hd => rfl); (case hg => rfl); (case hr => first | (go_simp; done) | (go_simp; rfl)); intro gb325 hg w10 hbox hb; have n0_ := Aside0.mk (blk_below (g := gb324) (o := .cells #[.int .i64 a0_0, .int .i64 a0_1] 28 (0, 0)) sq45 hb); have n1_ := Aside0.mk (below_step sq71 hb); have n2_ := Aside0.mk (hbox); have n3_ := Aside0.mk ((by rw [hg]; exact (below_size sq71) : w.heap.size ≤ gb325)); have n4_ := Aside0.mk ((by rw [hg]; exact (below_size sq71) : w.heap.size ≤ gb325)); have n5_ := Aside0.mk ((by rw [hg]; exact Nat.ne_of_lt (blk_lt (g := gb324) (o := .cells #[.int .i64 a0_0, .int .i64 a0_1] 28 (0, 0)) sq45) : gb324 ≠ gb325)); have n6_ := Aside0.mk ((by rw [hg]; exact Nat.ne_of_gt (blk_lt (g := gb324) (o := .cells #[.int .i64 a0_0, .int .i64 a0_1] 28 (0, 0)) sq45) : gb325 ≠ gb324)); clear BK324; clear HB; have BK324 := n0_; have HB := n1_; have BK325 := n2_; have GW325 := n3_; have GE325 := n4_; have NB324_325 := n5_; have NB325_324 := n6_; clear n0_ n1_ n2_ n3_ n4_ n5_ n6_; clear hb hbox hg; have hnb11 := NB324_325.out; have hnc11 := NB325_324.out; have hcz12_0 : w10.cell? ⟨gb324, 0, none⟩ = some (.int .i64 a0_0) := (blk_cell BK324.out 0).trans rfl; have hcz12_1 : w10.cell? ⟨gb324, 1, none⟩ = some (.int .i64 a0_1) := (blk_cell BK324.out 1).trans rfl; have hfz12_0 := blk_frozen BK324.out 0; have hfz12_1 := blk_frozen BK324.out 1; have hcz13_0 : w10.cell? ⟨gb325, 0, none⟩ = some (.int .i64 a1_0) := (blk_cell BK325.out 0).trans rfl; have hcz13_1 : w10.cell? ⟨gb325, 1, none⟩ = some (.int .i64 a1_1) := (blk_cell BK325.out 1).trans rfl; have hfz13_0 := blk_frozen BK325.out 0; have hfz13_1 := blk_frozen BK325.out 1))
 go_ret
 exact ⟨sq13, by repeat (first | (with_reducible first | exact HB.out | apply below_alloc | apply pw_below_drewN | apply below_drew1 | refine below_set ?_ GE324.out | refine below_set ?_ GE325.out) | exact HB.out)⟩

end Go.Proofs.Ytpfnnamicbbobaa.PAll
