-- Written by a program of this session (wip/tools/print2.sh): functions as plain Lean, and that the machine's calls do what they say.
import Derived.Test.YtaogejkmkalnlaaPAllx0
import Derived.Test.YtaogejkmkalnlaaPAllx2
import Derived.Test.YtaogejkmkalnlaaPAllx3
import Derived.Test.YtaogejkmkalnlaaPAllx5
namespace Go.Proofs.Ytaogejkmkalnlaa.PAll
open Go.RowKit Go.Proofs.YtaogejkmkalnlaaW.PrintWords Go.Proofs.YtaogejkmkalnlaaW.PrintLast Go.Proofs.YtaogejkmkalnlaaW.PrintMore
attribute [local go_sem] max2_int min2_int max_two min_two max_three min_three max_four min_four   -- for this text's walks alone
set_option linter.unusedVariables false
set_option linter.unusedSimpArgs false

/-! ### clause_worst: function 17 -/
def clause_worst.l0 : Nat → Int → List (List (S43)) → Int → Int → Option (Int)
 | 0, _, _, _, _ => none
 | k + 1, x5, x11, x12, x13 => if x13 < x12 then (if 0 ≤ x13 then (if x13 < (x11.length : Int) then ((clause_whole.f k (rd_L3 x11 x13)).bind fun bt184 => (if bt184.2 = true then (clause_worst.l0 k (mx x5 bt184.1) x11 x12 (wrap64 (x13 + 1))) else (some 5))) else (none)) else (none)) else (if x5 > 64 then (some 173) else (some 0))
def clause_worst.f (k : Nat) (a0 : Bool) (l1 : List (List (S43))) : Option (Int) := if a0 = true then (some 3) else (clause_worst.l0 k 0 l1 (l1.length : Int) 0)
theorem clause_worst.mono_l : ∀ k, (∀ y0 y1 y2 y3, LeO (clause_worst.l0 k y0 y1 y2 y3) (clause_worst.l0 (k + 1) y0 y1 y2 y3))
 | 0 => fun _ _ _ _ r h => by simp [clause_worst.l0] at h
 | k + 1 => by
  have ih0 := clause_worst.mono_l k
  ·intro y0 y1 y2 y3
   unfold clause_worst.l0
   exact sq93
theorem clause_worst.mono : ∀ a0 a1 k, LeO (clause_worst.f k a0 a1) (clause_worst.f (k + 1) a0 a1) := by
 intro a0 a1 k
 have ih0 := clause_worst.mono_l k
 unfold clause_worst.f
 exact sq93
set_option maxHeartbeats 8000000 in
set_option maxRecDepth 100000 in
theorem clause_worst.calls (k : Nat) (a0 : Bool) (A1 : Option Addr) (c1 : Nat) (l1 : List (List (S43))) (r : Int) (w : World) (hG : Glob w) (hr1 : Kd.C (Kd.slice 43 k43) w A1 l1.length l1) (hc1 : l1.length ≤ c1) (h : clause_worst.f k a0 l1 = some r) :
  Calls Try.prog 17 #[.bool a0, .slice A1 l1.length c1] w fun e w' => e = .returned (.int .i64 r) ∧ Below w.heap.size w w' := by
 have HR1 := Aside0.mk hr1
 have HC1 := Aside0.mk hc1
 clear hr1 hc1
 have HB := Aside0.mk (Below.refl w.heap.size w)
 have HG := Aside0.mk hG
 clear hG
 have H : (if a0 = true then (some 3) else (clause_worst.l0 k 0 l1 (l1.length : Int) 0)) = some r := h
 clear h
 by_cases c3 : a0 = true
 ·subst c3
  replace H := (itT_ _ _).symm.trans H
  obtain rfl := Option.some.inj H
  go_enter Try.func17, Try.ntmps17
  go_wp2
  go_ret
  exact ⟨sq23, sq55⟩
 replace c3 := Bool.eq_false_iff.mpr c3
 subst c3
 replace H := (itF_ _ _).symm.trans H
 have H' := Aside0.mk H
 clear H
 go_enter Try.func17, Try.ntmps17
 go_wp2
 go_loopg [5, 13] k (fun kq v5 v13 w' => ∃ (x5_1 : Int) (x13_1 : Int), v5 = .int .i64 x5_1 ∧ v13 = .int .i64 x13_1 ∧ Aside0 (clause_worst.l0 kq x5_1 l1 (l1.length : Int) x13_1 = some r) ∧ Aside0 (kq ≤ k) ∧ Aside0 (Below w.heap.size w w'))
 case atStart => exact ⟨(0), (0), sq4, sq4, H', ⟨Nat.le_refl _⟩, ⟨sq55⟩⟩
 case round =>
  clear H'
  try clear c1; try clear p2; try clear c3
  obtain ⟨x5_1, x13_1, rfl, rfl, HA, HK1, HB⟩ := hrel
  cases gk with
  | zero => exact absurd HA.out (by simp [clause_worst.l0])
  | succ k1 =>
   have H := HA.out
   clear HA
   simp only [clause_worst.l0] at H
   by_cases c4 : x13_1 < (l1.length : Int)
   ·rw [if_pos c4] at H
    have c4b0 : decide (x13_1 < (l1.length : Int)) = true := decide_eq_true c4; clear c4
    by_cases c5 : 0 ≤ x13_1
    ·rw [if_pos c5] at H
     have c5b0 : decide (0 ≤ x13_1) = true := decide_eq_true c5; clear c5
     by_cases c6 : x13_1 < (l1.length : Int)
     ·rw [if_pos c6] at H
      have c6b0 : decide (x13_1 < (l1.length : Int)) = true := decide_eq_true c6; clear c6
      replace H := Option.bind_eq_some_iff.mp H
      obtain ⟨⟨t184, t185⟩, A70, H⟩ := H
      replace H : (if t185 = true then (clause_worst.l0 k1 (mx x5_1 t184) l1 (l1.length : Int) (wrap64 (x13_1 + 1))) else (some 5)) = some r := H
      have A7 := Aside0.mk A70
      clear A70
      by_cases c8 : t185 = true
      ·subst c8
       replace H := (itT_ _ _).symm.trans H
       obtain ⟨ji9, hji9⟩ : ∃ j_ : Int, (mx x5_1 t184) = j_ := ⟨_, rfl⟩
       replace H : (clause_worst.l0 k1 ji9 l1 (l1.length : Int) (wrap64 (x13_1 + 1))) = some r := by first | (rw [hji9] at H; exact H) | (simp only [hji9] at H ⊢; exact H)
       (try rw [hji9] at A7)
       have hji9_ : (if x5_1 < t184 then t184 else x5_1) = ji9 := hji9
       have H' := Aside0.mk H
       clear H
       have p183 : 0 ≤ (x13_1 : Int) := of_decide_eq_true sq5
       have q183 : x13_1 < (l1.length : Int) := of_decide_eq_true sq5
       obtain ⟨ad183, A183_0, c183_0, e183, hx183_0, hl183_0, hi183_0⟩ := at_L3 HR1.out x13_1 p183 q183
       cases e183
       try replace hx183_0 := (HB.out.cell (World.block_lt_of_cell? w _ hx183_0)).trans hx183_0
       have HR183_0 := Aside0.mk hi183_0
       have HC183_0 := Aside0.mk hl183_0
       clear hi183_0 hl183_0
       replace p183 := eq_true p183
       replace q183 := eq_true q183
       go_wp2_with (first | ((with_reducible refine gate_callee (f := 22) rfl ?_); refine goesL_ (some 19) rfl rfl Try.func22 sq1 rfl #[.slice A183_0 (rd_L3 l1 x13_1).length c183_0] rfl sq56 ?_; (with_reducible refine (clause_whole.calls k1 _ _ (rd_L3 l1 x13_1) t184 true _ ?side3 ?side1 ?side2 A7.out).mono ?_); (case side1 => repeat (first | exact (Kd.C_below HR183_0.out HB.out) | (with_reducible refine Kd.C_alloc ?_ _) | (with_reducible refine Kd.C_drewN ?_ _) | (with_reducible refine Kd.C_drew ?_))); (case side2 => exact HC183_0.out); (case side3 => exact Glob.below HG.out sq55); rintro e w10 ⟨rfl, hb⟩; refine ⟨_, rfl, ?_⟩; have n0_ := Aside0.mk (below_step sq55 hb); clear HB; have HB := n0_; clear n0_; (try clear hb); (try clear hb2); (try clear hk); (try clear hi)))
       go_roundg k1
       case measure => have := HK1.out; omega
       case rel => exact ⟨(ji9), (wrap64 (x13_1 + 1)), (by first | rfl | (simp; done) | (simp only [← hji9] <;> (first | rfl | simp)) | (simp [*]; done)), sq4, H', ⟨by have := HK1.out; omega⟩, ⟨sq55⟩⟩
      replace c8 := Bool.eq_false_iff.mpr c8
      subst c8
      replace H := (itF_ _ _).symm.trans H
      obtain rfl := Option.some.inj H
      have p183 : 0 ≤ (x13_1 : Int) := of_decide_eq_true sq5
      have q183 : x13_1 < (l1.length : Int) := of_decide_eq_true sq5
      obtain ⟨ad183, A183_0, c183_0, e183, hx183_0, hl183_0, hi183_0⟩ := at_L3 HR1.out x13_1 p183 q183
      cases e183
      try replace hx183_0 := (HB.out.cell (World.block_lt_of_cell? w _ hx183_0)).trans hx183_0
      have HR183_0 := Aside0.mk hi183_0
      have HC183_0 := Aside0.mk hl183_0
      clear hi183_0 hl183_0
      replace p183 := eq_true p183
      replace q183 := eq_true q183
      go_wp2_with (first | ((with_reducible refine gate_callee (f := 22) rfl ?_); refine goesL_ (some 19) rfl rfl Try.func22 sq1 rfl #[.slice A183_0 (rd_L3 l1 x13_1).length c183_0] rfl sq56 ?_; (with_reducible refine (clause_whole.calls k1 _ _ (rd_L3 l1 x13_1) t184 false _ ?side3 ?side1 ?side2 A7.out).mono ?_); (case side1 => repeat (first | exact (Kd.C_below HR183_0.out HB.out) | (with_reducible refine Kd.C_alloc ?_ _) | (with_reducible refine Kd.C_drewN ?_ _) | (with_reducible refine Kd.C_drew ?_))); (case side2 => exact HC183_0.out); (case side3 => exact Glob.below HG.out sq55); rintro e w11 ⟨rfl, hb⟩; refine ⟨_, rfl, ?_⟩; have n0_ := Aside0.mk (below_step sq55 hb); clear HB; have HB := n0_; clear n0_; (try clear hb); (try clear hb2); (try clear hk); (try clear hi)))
      go_ret
      exact ⟨sq23, sq55⟩
     rw [if_neg c6] at H
     exact absurd H (by simp)
    rw [if_neg c5] at H
    exact absurd H (by simp)
   rw [if_neg c4] at H
   have c4b0 : decide (x13_1 < (l1.length : Int)) = false := decide_eq_false c4
   try (have c4e0 := c4b0; rw [hl183_0] at c4e0)
   clear c4
   by_cases c12 : x5_1 > 64
   ·rw [if_pos c12] at H
    have c12b0 : decide (64 < x5_1) = true := decide_eq_true c12
    try (have c12e0 := c12b0; rw [hl183_0] at c12e0)
    clear c12
    obtain rfl := Option.some.inj H
    go_wp2
    go_ret
    exact ⟨sq23, sq55⟩
   rw [if_neg c12] at H
   have c12b0 : decide (64 < x5_1) = false := decide_eq_false c12
   try (have c12e0 := c12b0; rw [hl183_0] at c12e0)
   clear c12
   obtain rfl := Option.some.inj H
   go_wp2
   go_ret
   exact ⟨sq23, sq55⟩

/-! ### clause_Check: function 7: by hand -/
/-- The formulas of a line that are there, behind those ahead; is one too long? -/
def clause_Check.ins (fs : List (List (S43))) (s : Bool × List (List (S43))) : Bool × List (List (S43)) := fs.foldl (fun s f => (s.1 || decide ((f.length : Int) > 1024), if (f.length : Int) > 0 then s.2 ++ [f] else s.2)) s
def clause_Check.go (k : Nat) : List (S41) → Bool → Bool → List (List (S43)) → Option (Bool × Bool × List (List (S43)))
 | [], long, ok, all => some (long, ok, all)
 | l :: r, long, ok, all => (if ok = true then clause_form.f k l.f0 l.f1 l.f2 l.f3 l.f4 l.f5 else some false).bind fun b => clause_Check.go k r (clause_Check.ins [l.f3, l.f4, l.f5] (long, all)).1 b (clause_Check.ins [l.f3, l.f4, l.f5] (long, all)).2
theorem clause_Check.go_mono (k : Nat) : ∀ l long ok all, LeO (clause_Check.go k l long ok all) (clause_Check.go (k + 1) l long ok all)
 | [], _, _, _ => LeO.refl _
 | l :: r, long, ok, all => by
  unfold clause_Check.go
  refine LeO.bind ?_ (fun b => clause_Check.go_mono k r _ b _)
  split
  ·exact clause_form.mono _ _ _ _ _ _ _
  exact LeO.refl _
def clause_Check.f (k : Nat) (a0_0 : ByteArray) (l0_1 : List (S41)) : Option Int :=
 if l0_1.length ≤ 1353245080339 then (clause_named.f a0_0).bind fun nm => (clause_Check.go k l0_1 (decide ((l0_1.length : Int) > 128)) nm []).bind fun t => if t.1 = false ∧ t.2.1 = false then some 5 else clause_worst.f k t.1 t.2.2 else none
theorem clause_Check.mono : ∀ a0 a1 k, LeO (clause_Check.f k a0 a1) (clause_Check.f (k + 1) a0 a1) := by
 intro a0 a1 k
 unfold clause_Check.f
 split
 ·refine LeO.bind (LeO.refl _) (fun nm => LeO.bind (clause_Check.go_mono k _ _ _ _) (fun t => ?_))
  split
  ·exact LeO.refl _
  exact clause_worst.mono _ _ _
 exact LeO.refl _
theorem clause_Check.C_fixed {α : Type} {d : Kd α} {w0 w1 : World} {A : Option Addr} {n : Nat} {xs : List α} (h : (Kd.fixed d w0).C w1 A n xs) (hb : Below w0.heap.size w0 w1) : d.C w1 A n xs := ReadsRow.imp_ h (Below.refl _ _) (fun _ _ hp => d.K_below hb hp)
theorem clause_Check.ins_at (fs : List (List S43)) (j : Nat) (hj : j < fs.length) (s : Bool × List (List S43)) :
  clause_Check.ins (fs.drop j) s = clause_Check.ins (fs.drop (j + 1)) (s.1 || decide (((rd_L3 fs j).length : Int) > 1024), if ((rd_L3 fs j).length : Int) > 0 then s.2 ++ [rd_L3 fs j] else s.2) := by
 have h : rd_L3 fs j = fs[j] := by simp [rd_L3, hj]
 rw [List.drop_eq_getElem_cons hj, h]
 rfl
theorem clause_Check.go_at (k : Nat) (l : List S41) (j : Nat) (hj : j < l.length) (a b : Bool) (c : List (List S43)) :
  clause_Check.go k (l.drop j) a b c = (if b = true then clause_form.f k (rd_T41 l j).f0 (rd_T41 l j).f1 (rd_T41 l j).f2 (rd_T41 l j).f3 (rd_T41 l j).f4 (rd_T41 l j).f5 else some false).bind fun b' => clause_Check.go k (l.drop (j + 1)) (clause_Check.ins [(rd_T41 l j).f3, (rd_T41 l j).f4, (rd_T41 l j).f5] (a, c)).1 b' (clause_Check.ins [(rd_T41 l j).f3, (rd_T41 l j).f4, (rd_T41 l j).f5] (a, c)).2 := by
 have h : rd_T41 l j = l[j] := by simp [rd_T41, hj]
 rw [List.drop_eq_getElem_cons hj, h]
 rfl
/-- A whole struct of six cells stored into its block. -/
theorem clause_Check.six {w1 : World} {g t : Nat} {z0 z1 z2 z3 z4 z5 : Value} (h : w1.heap[g]? = some (.cells #[z0, z1, z2, z3, z4, z5] t (0, 0))) (a0 a1 a2 a3 a4 a5 : Value) :
  ((((((w1.setCell ⟨g, 0, none⟩ a0).setCell ⟨g, 1, none⟩ a1).setCell ⟨g, 2, none⟩ a2).setCell ⟨g, 3, none⟩ a3).setCell ⟨g, 4, none⟩ a4).setCell ⟨g, 5, none⟩ a5).heap[g]? = some (.cells #[a0, a1, a2, a3, a4, a5] t (0, 0)) := by
 have h0 := blk_set h 0 a0
 have h1 := blk_set h0 1 a1
 have h2 := blk_set h1 2 a2
 have h3 := blk_set h2 3 a3
 have h4 := blk_set h3 4 a4
 exact blk_set h4 5 a5
theorem clause_Check.six_far {w1 : World} {g : Nat} (a0 a1 a2 a3 a4 a5 : Value) (k : Nat) (hk : k ≠ g) :
  ((((((w1.setCell ⟨g, 0, none⟩ a0).setCell ⟨g, 1, none⟩ a1).setCell ⟨g, 2, none⟩ a2).setCell ⟨g, 3, none⟩ a3).setCell ⟨g, 4, none⟩ a4).setCell ⟨g, 5, none⟩ a5).heap[k]? = w1.heap[k]? := by
 rw [Below.heap_setCell _ _ _ _ hk, Below.heap_setCell _ _ _ _ hk, Below.heap_setCell _ _ _ _ hk, Below.heap_setCell _ _ _ _ hk, Below.heap_setCell _ _ _ _ hk, Below.heap_setCell _ _ _ _ hk]
set_option maxHeartbeats 8000000 in
set_option maxRecDepth 100000 in
theorem clause_Check.calls (k : Nat) (a0_0 : ByteArray) (A0_1 : Option Addr) (c0_1 : Nat) (l0_1 : List (S41)) (r : Int) (w : World) (hG : Glob w) (hr0_1 : Kd.C k41 w A0_1 l0_1.length l0_1) (hc0_1 : l0_1.length ≤ c0_1) (h : clause_Check.f k a0_0 l0_1 = some r) :
  Calls Try.prog 7 #[.agg #[.string a0_0, .slice A0_1 l0_1.length c0_1]] w fun e w' => e = .returned (.int .i64 r) ∧ Below w.heap.size w w' := by
 have hu24 := Try.underlying24
 have hu41 := Try.underlying41
 have HR0_1 := Aside0.mk hr0_1
 have HB := Aside0.mk (Below.refl w.heap.size w)
 have HG := Aside0.mk hG
 clear hr0_1 hG
 unfold clause_Check.f at h
 split at h
 case isFalse => cases h
 rename_i hlen0
 have HL := Aside0.mk hlen0
 clear hlen0
 obtain ⟨nm, hnm, h⟩ := Option.bind_eq_some_iff.mp h
 obtain ⟨⟨t1, t2, t3⟩, hgo, h⟩ := Option.bind_eq_some_iff.mp h
 have A1 := Aside0.mk hnm
 have A2 := Aside0.mk hgo
 have A3 := Aside0.mk h
 clear hnm hgo h
 go_enter Try.func7, Try.ntmps7
 go_wp2_with (first | ((with_reducible refine gate_dst (N := 1) rfl ?_); refine box_event ?hg (N := 1) ?hd (cs := #[.string a0_0, .slice A0_1 l0_1.length c0_1]) (t := 24) ?hr ?_; (case hd => rfl); (case hg => rfl); (case hr => first | (go_simp; done) | (go_simp; rfl)); intro gb1 hg w2 hbox hb; have n0_ := Aside0.mk (below_step HB.out hb); clear HB; have HB := n0_; have BK1 := Aside0.mk hbox; clear hb hbox hg n0_; have hcz1 : w2.cell? ⟨gb1, 0, none⟩ = some (.string a0_0) := (blk_cell BK1.out 0).trans rfl; have hcz2 : w2.cell? ⟨gb1, 1, none⟩ = some (.slice A0_1 l0_1.length c0_1) := (blk_cell BK1.out 1).trans rfl))
 go_quiet ((go_at_call 15; refine (clause_named.calls a0_0 nm _ A1.out).mono ?_; rintro e w' ⟨rfl, ⟨nd, rfl⟩⟩; exact ⟨rfl, _, World.drewN_drewN ..⟩))
 go_wp2
 go_loopg [3, 4, 5, 20] (l0_1.length + 1) (fun kq v3 v4 v5 v20 w' => ∃ (long ok : Bool) (all : List (List S43)) (x20 : Int), v3 = .bool long ∧ v4 = .bool ok ∧ v20 = .int .i64 x20 ∧ Aside0 (0 ≤ x20 ∧ kq + x20.toNat = l0_1.length + 1) ∧ Aside0 (clause_Check.go k (l0_1.drop x20.toNat) long ok all = some (t1, t2, t3)) ∧ Aside0 (all.length ≤ 3 * x20.toNat) ∧ Aside0 (Kd.R (Kd.fixed (Kd.slice 43 k43) w) 26 w' w.heap.size (fun _ => True) v5 all) ∧ Aside0 (Below w.heap.size w w'))
 case atStart => exact ⟨_, _, [], 0, rfl, rfl, rfl, ⟨⟨Int.le_refl 0, rfl⟩⟩, A2, ⟨Nat.zero_le _⟩, ⟨Kd.R_nil _ _ _ _ _⟩, ⟨sq55⟩⟩
 case round =>
  clear A1 A2 HB BK1 hcz1 hcz2
  obtain ⟨long, ok, all, x20, rfl, rfl, rfl, HK, HA, HN, HO, HB⟩ := hrel
  have hk0 := HK.out.1
  have hk1 := HK.out.2
  by_cases c1 : x20 < (l0_1.length : Int)
  ·have c1b := decide_eq_true c1
   have hj : x20.toNat < l0_1.length := by omega
   obtain ⟨gk1, rfl⟩ : ∃ gk1, gk = gk1 + 1 := ⟨gk - 1, by omega⟩
   have HJ := Aside0.mk hj
   have H := HA.out
   clear HA
   rw [clause_Check.go_at k l0_1 x20.toNat hj] at H
   rw [show ((x20.toNat : Nat) : Int) = x20 from by omega] at H
   obtain ⟨b', hb', H⟩ := Option.bind_eq_some_iff.mp H
   have A4 := Aside0.mk hb'
   have A5 := Aside0.mk H
   clear hb' H
   obtain ⟨ad, A3_, c3_, A4_, c4_, A5_, c5_, e, hx0, hx1, hx2, hx3, hx4, hx5, hl3, hi3, hl4, hi4, hl5, hi5⟩ := at_T41 HR0_1.out x20 hk0 c1
   cases e
   replace hx0 := (HB.out.cell (World.block_lt_of_cell? w _ hx0)).trans hx0
   replace hx1 := (HB.out.cell (World.block_lt_of_cell? w _ hx1)).trans hx1
   replace hx2 := (HB.out.cell (World.block_lt_of_cell? w _ hx2)).trans hx2
   replace hx3 := (HB.out.cell (World.block_lt_of_cell? w _ hx3)).trans hx3
   replace hx4 := (HB.out.cell (World.block_lt_of_cell? w _ hx4)).trans hx4
   replace hx5 := (HB.out.cell (World.block_lt_of_cell? w _ hx5)).trans hx5
   have HR3 := Aside0.mk hi3
   have HR4 := Aside0.mk hi4
   have HR5 := Aside0.mk hi5
   have HL3 := Aside0.mk hl3
   have HL4 := Aside0.mk hl4
   have HL5 := Aside0.mk hl5
   clear hi3 hi4 hi5 hl3 hl4 hl5 hj hk1
   replace hk0 := eq_true hk0
   replace c1 := eq_true c1
   go_upto_region 6 with (first | ((with_reducible refine gate_dst (N := 7) rfl ?_); refine box_event ?hg (N := 7) ?hd (cs := #[.int .i64 0, .int .i64 0, .string (⟨#[]⟩ : ByteArray), .slice none 0 0, .slice none 0 0, .slice none 0 0]) (t := 41) ?hr ?_; (case hd => rfl); (case hg => rfl); (case hr => first | (go_simp; done) | (go_simp; rfl)); intro gb7 hg w3 hbox hb; have n0_ := Aside0.mk (below_step HB.out hb); have n1_ := Aside0.mk (Kd.R_below HO.out hb); have GE7 := Aside0.mk (show w.heap.size ≤ gb7 from by rw [hg]; exact below_size HB.out); clear HB HO; have HB := n0_; have HO := n1_; have BK7 := Aside0.mk hbox; clear hb hbox hg n0_ n1_; have hcz0 : w3.cell? ⟨gb7, 0, none⟩ = some (.int .i64 0) := (blk_cell BK7.out 0).trans rfl; have hcz1 : w3.cell? ⟨gb7, 1, none⟩ = some (.int .i64 0) := (blk_cell BK7.out 1).trans rfl; have hcz2 : w3.cell? ⟨gb7, 2, none⟩ = some (.string (⟨#[]⟩ : ByteArray)) := (blk_cell BK7.out 2).trans rfl; have hcz3 : w3.cell? ⟨gb7, 3, none⟩ = some (.slice none 0 0) := (blk_cell BK7.out 3).trans rfl; have hcz4 : w3.cell? ⟨gb7, 4, none⟩ = some (.slice none 0 0) := (blk_cell BK7.out 4).trans rfl; have hcz5 : w3.cell? ⟨gb7, 5, none⟩ = some (.slice none 0 0) := (blk_cell BK7.out 5).trans rfl; have hfz0 := blk_frozen BK7.out 0; have hfz1 := blk_frozen BK7.out 1; have hfz2 := blk_frozen BK7.out 2; have hfz3 := blk_frozen BK7.out 3; have hfz4 := blk_frozen BK7.out 4; have hfz5 := blk_frozen BK7.out 5))
   have n0_ : Aside0 (Below w.heap.size w ((((((w3.setCell ⟨gb7, 0, none⟩ (.int .i64 (rd_T41 l0_1 x20).f0)).setCell ⟨gb7, 1, none⟩ (.int .i64 (rd_T41 l0_1 x20).f1)).setCell ⟨gb7, 2, none⟩ (.string (rd_T41 l0_1 x20).f2)).setCell ⟨gb7, 3, none⟩ (.slice A3_ (rd_T41 l0_1 x20).f3.length c3_)).setCell ⟨gb7, 4, none⟩ (.slice A4_ (rd_T41 l0_1 x20).f4.length c4_)).setCell ⟨gb7, 5, none⟩ (.slice A5_ (rd_T41 l0_1 x20).f5.length c5_))) := ⟨by repeat (first | exact HB.out | refine below_set ?_ GE7.out)⟩
   have n1_ : Aside0 (Kd.R (Kd.fixed (Kd.slice 43 k43) w) 26 ((((((w3.setCell ⟨gb7, 0, none⟩ (.int .i64 (rd_T41 l0_1 x20).f0)).setCell ⟨gb7, 1, none⟩ (.int .i64 (rd_T41 l0_1 x20).f1)).setCell ⟨gb7, 2, none⟩ (.string (rd_T41 l0_1 x20).f2)).setCell ⟨gb7, 3, none⟩ (.slice A3_ (rd_T41 l0_1 x20).f3.length c3_)).setCell ⟨gb7, 4, none⟩ (.slice A4_ (rd_T41 l0_1 x20).f4.length c4_)).setCell ⟨gb7, 5, none⟩ (.slice A5_ (rd_T41 l0_1 x20).f5.length c5_)) w.heap.size (fun _ => True) u5 all) := ⟨Kd.R_mono (Kd.R_step (Kd.R_far1 HO.out rfl (Kd.R_ne HO.out BK7.out sq0)) (fun k_ hk_ _ => clause_Check.six_far _ _ _ _ _ _ k_ hk_.2)) (fun _ hk_ => hk_.1)⟩
   have n2_ : Aside0 (((((((w3.setCell ⟨gb7, 0, none⟩ (.int .i64 (rd_T41 l0_1 x20).f0)).setCell ⟨gb7, 1, none⟩ (.int .i64 (rd_T41 l0_1 x20).f1)).setCell ⟨gb7, 2, none⟩ (.string (rd_T41 l0_1 x20).f2)).setCell ⟨gb7, 3, none⟩ (.slice A3_ (rd_T41 l0_1 x20).f3.length c3_)).setCell ⟨gb7, 4, none⟩ (.slice A4_ (rd_T41 l0_1 x20).f4.length c4_)).setCell ⟨gb7, 5, none⟩ (.slice A5_ (rd_T41 l0_1 x20).f5.length c5_)).heap[gb7]? = some (.cells #[.int .i64 (rd_T41 l0_1 x20).f0, .int .i64 (rd_T41 l0_1 x20).f1, .string (rd_T41 l0_1 x20).f2, .slice A3_ (rd_T41 l0_1 x20).f3.length c3_, .slice A4_ (rd_T41 l0_1 x20).f4.length c4_, .slice A5_ (rd_T41 l0_1 x20).f5.length c5_] 41 (0, 0))) := ⟨clause_Check.six BK7.out _ _ _ _ _ _⟩
   clear HB HO BK7 hcz0 hcz1 hcz2 hcz3 hcz4 hcz5 hfz0 hfz1 hfz2 hfz3 hfz4 hfz5 hx0 hx1 hx2 hx3 hx4 hx5
   generalize ((((((w3.setCell ⟨gb7, 0, none⟩ (.int .i64 (rd_T41 l0_1 x20).f0)).setCell ⟨gb7, 1, none⟩ (.int .i64 (rd_T41 l0_1 x20).f1)).setCell ⟨gb7, 2, none⟩ (.string (rd_T41 l0_1 x20).f2)).setCell ⟨gb7, 3, none⟩ (.slice A3_ (rd_T41 l0_1 x20).f3.length c3_)).setCell ⟨gb7, 4, none⟩ (.slice A4_ (rd_T41 l0_1 x20).f4.length c4_)).setCell ⟨gb7, 5, none⟩ (.slice A5_ (rd_T41 l0_1 x20).f5.length c5_)) = w4 at n0_ n1_ n2_ ⊢
   have HB := n0_
   have HO := n1_
   have BK7 := n2_
   clear n0_ n1_ n2_
   go_cut [4] (fun v4 wc => v4 = .bool b' ∧ Aside0 (Kd.R (Kd.fixed (Kd.slice 43 k43) w) 26 wc w.heap.size (fun _ => True) u5 all) ∧ Aside0 (wc.heap[gb7]? = some (.cells #[.int .i64 (rd_T41 l0_1 x20).f0, .int .i64 (rd_T41 l0_1 x20).f1, .string (rd_T41 l0_1 x20).f2, .slice A3_ (rd_T41 l0_1 x20).f3.length c3_, .slice A4_ (rd_T41 l0_1 x20).f4.length c4_, .slice A5_ (rd_T41 l0_1 x20).f5.length c5_] 41 (0, 0))) ∧ Aside0 (Below w.heap.size w wc))
   case first =>
    have hcz0 : w4.cell? ⟨gb7, 0, none⟩ = some (.int .i64 (rd_T41 l0_1 x20).f0) := (blk_cell BK7.out 0).trans rfl
    have hcz1 : w4.cell? ⟨gb7, 1, none⟩ = some (.int .i64 (rd_T41 l0_1 x20).f1) := (blk_cell BK7.out 1).trans rfl
    have hcz2 : w4.cell? ⟨gb7, 2, none⟩ = some (.string (rd_T41 l0_1 x20).f2) := (blk_cell BK7.out 2).trans rfl
    have hcz3 : w4.cell? ⟨gb7, 3, none⟩ = some (.slice A3_ (rd_T41 l0_1 x20).f3.length c3_) := (blk_cell BK7.out 3).trans rfl
    have hcz4 : w4.cell? ⟨gb7, 4, none⟩ = some (.slice A4_ (rd_T41 l0_1 x20).f4.length c4_) := (blk_cell BK7.out 4).trans rfl
    have hcz5 : w4.cell? ⟨gb7, 5, none⟩ = some (.slice A5_ (rd_T41 l0_1 x20).f5.length c5_) := (blk_cell BK7.out 5).trans rfl
    have H := A4.out
    cases ok
    ·rw [if_neg sq0] at H
     obtain rfl := Option.some.inj H
     go_wp2
     go_meet
     case rel => exact ⟨by first | rfl | (simp; done), HO, BK7, HB⟩
    rw [if_pos rfl] at H
    have A6 := Aside0.mk H
    clear H
    go_wp2_with (first | ((with_reducible refine gate_callee (f := 16) rfl ?_); (try (refine gate_guard (by rfl) ?_; dsimp only)); refine goesL_ (some 27) rfl rfl Try.func16 sq1 rfl #[.agg #[.int .i64 (rd_T41 l0_1 x20).f0, .int .i64 (rd_T41 l0_1 x20).f1, .string (rd_T41 l0_1 x20).f2, .slice A3_ (rd_T41 l0_1 x20).f3.length c3_, .slice A4_ (rd_T41 l0_1 x20).f4.length c4_, .slice A5_ (rd_T41 l0_1 x20).f5.length c5_]] rfl sq56 ?_; (with_reducible refine (clause_form.calls k _ _ _ _ _ _ _ _ _ _ _ _ b' _ ?side0 ?side1 ?side2 ?side3 ?side4 ?side5 ?side6 A6.out).mono ?_); (case side0 => exact Glob.below HG.out HB.out); (case side1 => exact Kd.C_below HR3.out HB.out); (case side2 => exact HL3.out); (case side3 => exact Kd.C_below HR4.out HB.out); (case side4 => exact HL4.out); (case side5 => exact Kd.C_below HR5.out HB.out); (case side6 => exact HL5.out); rintro e wz ⟨rfl, hb⟩; refine ⟨_, rfl, ?_⟩; have n0_ := Aside0.mk (below_step HB.out hb); have n1_ := Aside0.mk (Kd.R_below HO.out hb); have n2_ := Aside0.mk (blk_below BK7.out hb); clear HB HO BK7 hb; have HB := n0_; have HO := n1_; have BK7 := n2_; clear n0_ n1_ n2_))
    go_meet
    case rel => exact ⟨by first | rfl | (simp; done), HO, BK7, HB⟩
   case rest =>
    clear HB HO BK7
    obtain ⟨rfl, HO, BK7, HB⟩ := hcut
    have hcz0 : wc.cell? ⟨gb7, 0, none⟩ = some (.int .i64 (rd_T41 l0_1 x20).f0) := (blk_cell BK7.out 0).trans rfl
    have hcz1 : wc.cell? ⟨gb7, 1, none⟩ = some (.int .i64 (rd_T41 l0_1 x20).f1) := (blk_cell BK7.out 1).trans rfl
    have hcz2 : wc.cell? ⟨gb7, 2, none⟩ = some (.string (rd_T41 l0_1 x20).f2) := (blk_cell BK7.out 2).trans rfl
    have hcz3 : wc.cell? ⟨gb7, 3, none⟩ = some (.slice A3_ (rd_T41 l0_1 x20).f3.length c3_) := (blk_cell BK7.out 3).trans rfl
    have hcz4 : wc.cell? ⟨gb7, 4, none⟩ = some (.slice A4_ (rd_T41 l0_1 x20).f4.length c4_) := (blk_cell BK7.out 4).trans rfl
    have hcz5 : wc.cell? ⟨gb7, 5, none⟩ = some (.slice A5_ (rd_T41 l0_1 x20).f5.length c5_) := (blk_cell BK7.out 5).trans rfl
    obtain ⟨fs, hfs⟩ : ∃ fs : List (List S43), fs = [(rd_T41 l0_1 x20).f3, (rd_T41 l0_1 x20).f4, (rd_T41 l0_1 x20).f5] := ⟨_, rfl⟩
    have HFS := Aside0.mk hfs
    have HFL := Aside0.mk (show fs.length = 3 from by rw [hfs]; rfl)
    clear hfs
    go_wp2_with (first | ((with_reducible refine gate_dst (N := 35) rfl ?_); refine Kd.R_lit (Kd.fixed (Kd.slice 43 k43) w) (w0 := w) w.heap.size 26 ?hg (N := 35) ?hd (xs := [(rd_T41 l0_1 x20).f3, (rd_T41 l0_1 x20).f4, (rd_T41 l0_1 x20).f5]) (inner := [.slice A3_ (rd_T41 l0_1 x20).f3.length c3_, .slice A4_ (rd_T41 l0_1 x20).f4.length c4_, .slice A5_ (rd_T41 l0_1 x20).f5.length c5_]) (ok := fun _ => True) (okp := fun _ => True) ?hr ?hp (fun _ hk => hk) trivial HB.out (below_size HB.out) (by simp) ?_; (case hd => rfl); (case hg => rfl); (case hr => first | (go_simp; done) | (go_simp; rfl)); (case hp => exact Reps.one (show (Kd.fixed (Kd.slice 43 k43) w).M _ _ _ _ [_] from ⟨A3_, c3_, rfl, HL3.out, HR3.out⟩) (Reps.one (show (Kd.fixed (Kd.slice 43 k43) w).M _ _ _ _ [_] from ⟨A4_, c4_, rfl, HL4.out, HR4.out⟩) (Reps.one (show (Kd.fixed (Kd.slice 43 k43) w).M _ _ _ _ [_] from ⟨A5_, c5_, rfl, HL5.out, HR5.out⟩) (Reps.none _ _)))); intro v35 w5 ho hb hg hnew; rw [← HFS.out] at ho; have n0_ := Aside0.mk hb; have n1_ := Aside0.mk (Kd.R_grown HO.out hg (fun _ _ => by simp)); have n2_ := Aside0.mk ho; have n3_ : Aside0 (∀ k_, u5.ownBlock = some k_ → some k_ ≠ v35.ownBlock) := ⟨fun k_ hk_ he_ => by obtain ⟨b_, hb_, hle_⟩ := hnew; have hz_ := Kd.R_lt HO.out k_ hk_; rw [← he_] at hb_; injection hb_ with hb_; omega⟩; clear HB HO hb ho hg hnew hcz0 hcz1 hcz2 hcz3 hcz4 hcz5 BK7; have HB := n0_; have HO := n1_; have HOl := n2_; have HNE := n3_; clear n0_ n1_ n2_ n3_; obtain ⟨A35, c35, e35⟩ := Kd.R_slice HOl.out; subst e35))
    go_loopg [3, 5, 37] (fs.length + 1) (fun kq v3 v5 v37 w' => ∃ (lg : Bool) (al : List (List S43)) (x37 : Int), v3 = .bool lg ∧ v37 = .int .i64 x37 ∧ Aside0 (0 ≤ x37 ∧ kq + x37.toNat = fs.length + 1 ∧ x37.toNat ≤ fs.length) ∧ Aside0 (clause_Check.ins (fs.drop x37.toNat) (lg, al) = clause_Check.ins fs (long, all)) ∧ Aside0 (al.length ≤ 3 * x20.toNat + x37.toNat) ∧ Aside0 (Kd.R (Kd.fixed (Kd.slice 43 k43) w) 26 w' w.heap.size (fun _ => True) v5 al) ∧ Aside0 (Kd.R (Kd.fixed (Kd.slice 43 k43) w) 26 w' w.heap.size (fun _ => True) (.slice A35 fs.length c35) fs) ∧ Aside0 (∀ k_, v5.ownBlock = some k_ → some k_ ≠ (Value.slice A35 fs.length c35).ownBlock) ∧ Aside0 (Below w.heap.size w w'))
    case atStart => exact ⟨_, _, 0, rfl, rfl, ⟨⟨Int.le_refl 0, rfl, Nat.zero_le _⟩⟩, ⟨rfl⟩, ⟨by have := HN.out; omega⟩, HO, HOl, HNE, HB⟩
    case round =>
     clear HO HOl HNE HB HN
     obtain ⟨lg, al, x37, rfl, rfl, HI, HS, HM0, HOa, HOl, HNE, HB⟩ := hrel
     have hi0 := HI.out.1
     have hi1 := HI.out.2.1
     have hi3 := HI.out.2.2
     by_cases c2 : x37 < (fs.length : Int)
     ·have c2b := decide_eq_true c2
      have hj : x37.toNat < fs.length := by omega
      obtain ⟨gi1, rfl⟩ : ∃ gi1, gk = gi1 + 1 := ⟨gk - 1, by omega⟩
      have HX := Aside0.mk (show 0 ≤ x37 ∧ x37 < 3 from ⟨hi0, by have := HFL.out; omega⟩)
      have HI1 := Aside0.mk (show gi1 + (x37 + 1).toNat = fs.length + 1 ∧ (x37 + 1).toNat ≤ fs.length from by omega)
      have HM := Aside0.mk (show (al.length + 1) * 24 ≤ 140737488355328 from by have := HM0.out; have := HFL.out; have := HJ.out; have := HL.out; omega)
      have HS0 := HS.out
      rw [clause_Check.ins_at fs x37.toNat hj] at HS0
      rw [show ((x37.toNat : Nat) : Int) = x37 from by omega, show x37.toNat + 1 = (x37 + 1).toNat from by omega] at HS0
      clear HS
      obtain ⟨ad35, c_, e35, _, hK, hc0⟩ := Kd.C_get (Kd.R_reads' HOl.out).2.2 ([] : List S43) x37 hi0 c2
      obtain ⟨A9, c9, rfl, hl9, hC9⟩ := hK
      have hx9 : wr.cell? (ad35.add x37.toNat) = some (.slice A9 (rd_L3 fs x37).length c9) := by have hq := hc0 0 _ rfl; exact (by rwa [show x37.toNat * (Kd.fixed (Kd.slice 43 k43) w).sz + 0 = x37.toNat from by show x37.toNat * 1 + 0 = _; omega] at hq)
      have HF9 : Aside0 ((Kd.fixed (Kd.slice 43 k43) w).M wr w.heap.size (fun _ => False) (rd_L3 fs x37) [.slice A9 (rd_L3 fs x37).length c9]) := ⟨⟨A9, c9, rfl, hl9, hC9⟩⟩
      clear hc0 hl9 hC9 hj hi1 hi3
      subst e35
      replace hi0 := eq_true hi0
      replace c2 := eq_true c2
      have HG0 := Aside0.mk (rfl : gi1 = gi1)
      by_cases c3 : ((rd_L3 fs x37).length : Int) > 0
      ·rw [if_pos c3] at HS0
       have c3b := decide_eq_true c3
       have c3n : 0 < (rd_L3 fs x37).length := by omega
       cases lg
       ·have HS := Aside0.mk HS0
        clear HS0
        go_wp2_with (first | ((with_reducible refine gate_builtin (b := .append) (xs := #[.tmp 50, .tmp 52]) rfl ?_); at_builtin; refine Kd.R_append (Kd.fixed (Kd.slice 43 k43) w) (w0 := w) w.heap.size rfl (.tmp 50) (.tmp 52) 45 26 (.slice none 0 0) 24 rfl Try.underlying45 info26 rfl Nat.zero_lt_one (by omega) u5 al (rd_L3 fs x37) [.slice A9 (rd_L3 fs x37).length c9] (fun _ => True) (fun _ => False) rfl rfl ?aP (fun _ hk => hk.elim) ?aF ?aO ?aB ?aS ?aL ?_; (case aP => exact HF9.out); (case aB => exact HB.out); (case aF => exact fun _ _ => trivial); (case aO => exact HOa.out); (case aS => exact below_size HB.out); (case aL => have := HM.out; omega); intro v53 w6 ho hb hg hat; have n0_ := Aside0.mk hb; have n1_ := Aside0.mk ho; have n2_ := Aside0.mk (Kd.R_grown2 HOl.out rfl hg HNE.out); have n3_ : Aside0 (∀ k_, v53.ownBlock = some k_ → some k_ ≠ (Value.slice (some ad35) fs.length c35).ownBlock) := ⟨fun k_ hk_ he_ => (hat.elim (fun h_ => HNE.out k_ (h_.symm.trans hk_) he_) (fun h_ => by obtain ⟨b_, hb_, hle_⟩ := h_; have hz_ := Kd.R_lt HOl.out k_ he_.symm; rw [hk_] at hb_; injection hb_ with hb_; omega))⟩; clear HB HOa HOl HNE hb ho hg hat; have HB := n0_; have HOa := n1_; have HOl := n2_; have HNE := n3_; clear n0_ n1_ n2_ n3_))
        go_roundg gi1
        case measure => omega
        case rel => exact ⟨_, _, _, by first | rfl | (simp; done) | (simp [HG0.out]; done), rfl, ⟨sq9⟩, ⟨sq10⟩, ⟨sq61⟩, HOa, HOl, HNE, HB⟩
       have HS := Aside0.mk HS0
       clear HS0
       go_wp2_with (first | ((with_reducible refine gate_builtin (b := .append) (xs := #[.tmp 50, .tmp 52]) rfl ?_); at_builtin; refine Kd.R_append (Kd.fixed (Kd.slice 43 k43) w) (w0 := w) w.heap.size rfl (.tmp 50) (.tmp 52) 45 26 (.slice none 0 0) 24 rfl Try.underlying45 info26 rfl Nat.zero_lt_one (by omega) u5 al (rd_L3 fs x37) [.slice A9 (rd_L3 fs x37).length c9] (fun _ => True) (fun _ => False) rfl rfl ?aP (fun _ hk => hk.elim) ?aF ?aO ?aB ?aS ?aL ?_; (case aP => exact HF9.out); (case aB => exact HB.out); (case aF => exact fun _ _ => trivial); (case aO => exact HOa.out); (case aS => exact below_size HB.out); (case aL => have := HM.out; omega); intro v53 w6 ho hb hg hat; have n0_ := Aside0.mk hb; have n1_ := Aside0.mk ho; have n2_ := Aside0.mk (Kd.R_grown2 HOl.out rfl hg HNE.out); have n3_ : Aside0 (∀ k_, v53.ownBlock = some k_ → some k_ ≠ (Value.slice (some ad35) fs.length c35).ownBlock) := ⟨fun k_ hk_ he_ => (hat.elim (fun h_ => HNE.out k_ (h_.symm.trans hk_) he_) (fun h_ => by obtain ⟨b_, hb_, hle_⟩ := h_; have hz_ := Kd.R_lt HOl.out k_ he_.symm; rw [hk_] at hb_; injection hb_ with hb_; omega))⟩; clear HB HOa HOl HNE hb ho hg hat; have HB := n0_; have HOa := n1_; have HOl := n2_; have HNE := n3_; clear n0_ n1_ n2_ n3_))
       go_roundg gi1
       case measure => omega
       case rel => exact ⟨_, _, _, by first | rfl | (simp; done) | (simp [HG0.out]; done), rfl, ⟨sq9⟩, ⟨sq10⟩, ⟨sq61⟩, HOa, HOl, HNE, HB⟩
      rw [if_neg c3] at HS0
      have c3b := decide_eq_false c3
      cases lg
      ·have HS := Aside0.mk HS0
       clear HS0
       go_wp2
       go_roundg gi1
       case measure => omega
       case rel => exact ⟨_, _, _, by first | rfl | (simp; done) | (simp [HG0.out]; done), rfl, ⟨sq9⟩, ⟨sq10⟩, ⟨sq61⟩, HOa, HOl, HNE, HB⟩
      have HS := Aside0.mk HS0
      clear HS0
      go_wp2
      go_roundg gi1
      case measure => omega
      case rel => exact ⟨_, _, _, by first | rfl | (simp; done) | (simp [HG0.out]; done), rfl, ⟨sq9⟩, ⟨sq10⟩, ⟨sq61⟩, HOa, HOl, HNE, HB⟩
     have HX := Aside0.mk (show 0 ≤ x37 ∧ x37.toNat ≤ 3 from ⟨hi0, by have := HFL.out; omega⟩)
     have HE := Aside0.mk (show clause_Check.ins fs (long, all) = (lg, al) from by rw [← HS.out, List.drop_eq_nil_of_le (by omega)]; rfl)
     have A6 := Aside0.mk (show clause_Check.go k (l0_1.drop (x20.toNat + 1)) lg b' al = some (t1, t2, t3) from by have hq := A5.out; rw [← HFS.out, HE.out] at hq; exact hq)
     have HJ1 := Aside0.mk (show 0 ≤ x20 + 1 ∧ gk1 + (x20 + 1).toNat = l0_1.length + 1 ∧ (x20 + 1).toNat = x20.toNat + 1 ∧ x20 + 1 ≤ 1353245080339 from by have := HK.out; have := HJ.out; have := HL.out; omega)
     have HM := Aside0.mk (show al.length ≤ 3 * (x20 + 1).toNat from by have := HM0.out; have := HX.out; have := HJ1.out; omega)
     clear A5 HS HE HFS HK hi1 hi3
     go_wp2
     go_roundg gk1
     case measure => omega
     case rel => exact ⟨_, _, _, _, rfl, rfl, rfl, ⟨by have := HJ1.out; rw [IntWalk.wrap64_in _ (by omega)]; omega⟩, ⟨by rw [IntWalk.wrap64_in _ (by have := HJ1.out; omega), HJ1.out.2.2.1]; exact A6.out⟩, ⟨by rw [IntWalk.wrap64_in _ (by have := HJ1.out; omega)]; exact HM.out⟩, HOa, HB⟩
  have H := HA.out
  rw [List.drop_eq_nil_of_le (by omega)] at H
  obtain ⟨rfl, rfl, rfl⟩ : long = t1 ∧ ok = t2 ∧ all = t3 := by simpa [clause_Check.go] using H
  obtain ⟨A_, c_, e_⟩ := Kd.R_slice HO.out
  subst e_
  have HC_ := Aside0.mk (clause_Check.C_fixed (Kd.R_reads' HO.out).2.2 HB.out)
  have HL_ := Aside0.mk (Kd.R_reads' HO.out).2.1
  clear H HA HK HN HO hk0 hk1
  cases long
  ·cases ok
   ·obtain rfl : (5 : Int) = r := by simpa using A3.out
    go_wp2
    go_ret
    exact ⟨sq23, HB.out⟩
   have A6 := Aside0.mk (show clause_worst.f k false all = some r from by simpa using A3.out)
   clear A3
   go_wp2_with (first | ((with_reducible refine gate_callee (f := 17) rfl ?_); refine goesL_ (some 64) rfl rfl Try.func17 sq1 rfl #[.bool false, .slice A_ all.length c_] rfl sq56 ?_; (with_reducible refine (clause_worst.calls k false _ _ all r _ ?side3 ?side1 ?side2 A6.out).mono ?_); (case side1 => exact HC_.out); (case side2 => exact HL_.out); (case side3 => exact Glob.below HG.out HB.out); rintro e wz ⟨rfl, hb⟩; refine ⟨_, rfl, ?_⟩; have n0_ := Aside0.mk (below_step HB.out hb); clear HB hb; have HB := n0_; clear n0_))
   go_ret
   exact ⟨sq23, HB.out⟩
  have A6 := Aside0.mk (show clause_worst.f k true all = some r from by simpa using A3.out)
  clear A3
  go_wp2_with (first | ((with_reducible refine gate_callee (f := 17) rfl ?_); refine goesL_ (some 64) rfl rfl Try.func17 sq1 rfl #[.bool true, .slice A_ all.length c_] rfl sq56 ?_; (with_reducible refine (clause_worst.calls k true _ _ all r _ ?side3 ?side1 ?side2 A6.out).mono ?_); (case side1 => exact HC_.out); (case side2 => exact HL_.out); (case side3 => exact Glob.below HG.out HB.out); rintro e wz ⟨rfl, hb⟩; refine ⟨_, rfl, ?_⟩; have n0_ := Aside0.mk (below_step HB.out hb); clear HB hb; have HB := n0_; clear n0_))
  go_ret
  exact ⟨sq23, HB.out⟩

end Go.Proofs.Ytaogejkmkalnlaa.PAll
