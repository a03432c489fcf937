/- tontineref18.made: contracts typed by hand, one for each operation. -/
import Derived.Test.YtpfnnamicbbobaaHS
import Derived.Test.YtpfnnamicbbobaaProg
import Derived.Lib.Hide
import Derived.Deep.QuietTactic
import Derived.BigQuiet
namespace Go.Proofs.Ytpfnnamicbbobaa.HD
set_option linter.unusedSimpArgs false
set_option linter.unusedVariables false
open Go.RowKit Go.Proofs.Ytpfnnamicbbobaa.HS
def calcB (x : Int) : Bool := x == 1 || x == 2
def whenS (b : Bool) (t : Int) : Int := if b = true then t else 0
def mul2 (a b : Int) : Int := if (a == 2 && b == 1 || a == 1 && b == 2) = true then 2 else whenS (a == 1 && b == 1) 1
def div2 (a b : Int) : Int := if (a == 2 && b == 1) = true then 2 else whenS (calcB a && b == a) 1
def mostN (a : Int) (l : List Int) : Int := if ((l.drop 1).any fun x => x != a) = true then 0 else whenS (calcB a) a
set_option maxHeartbeats 1000000 in
theorem calc_any (x : Int) (w : World) : Calls Try.prog 57 #[.int .i64 x] w fun e w' => e = .returned (.bool (calcB x)) ∧ w' = w := by
  by_cases h1 : (x == 1) = true
  · go_enter Try.func57, Try.ntmps57
    go_wp2
    go_ret
    exact ⟨ret_bool (by unfold calcB; rw [h1]; rfl), rfl⟩
  · have h1' : (x == 1) = false := by simpa using h1
    clear h1
    go_enter Try.func57, Try.ntmps57
    go_wp2
    go_ret
    exact ⟨ret_bool (by unfold calcB; rw [h1']; rfl), rfl⟩
set_option maxHeartbeats 1000000 in
theorem when_any (b : Bool) (t : Int) (w : World) : Calls Try.prog 56 #[.bool b, .int .i64 t] w fun e w' => e = .returned (.int .i64 (whenS b t)) ∧ w' = w := by
  cases b
  all_goals
    go_enter Try.func56, Try.ntmps56
    go_wp2
    go_ret
    exact ⟨rfl, rfl⟩
theorem calc_is (x : Int) (b : Bool) (h : calcB x = b) (w : World) : Calls Try.prog 57 #[.int .i64 x] w fun e w' => e = .returned (.bool b) ∧ w' = w := by
  rw [← h]; exact calc_any x w
theorem drewN_add (w : World) (a b : Nat) : (w.drewN a).drewN b = w.drewN (a + b) := World.drewN_drewN ..
def Told (r : Int) (w : World) (e : Ending) (w' : World) : Prop := e = .returned (.int .i64 r) ∧ ∃ m, w' = w.drewN m
set_option maxHeartbeats 4000000 in
set_option maxRecDepth 100000 in
theorem made_1 (A : Option Addr) (c : Nat) (w : World) :
    Calls Try.prog 45 #[.int .i64 1, .slice A 0 c] w (Told (1) w) := by
  go_enter Try.func45, Try.ntmps45
  go_wp2_with fail
  go_loopw [5] (fun i wr => ∃ k : Nat, 1 ≤ k ∧ k ≤ 1 ∧ i = .int .i64 k ∧ ∃ m, wr = w.drewN m) (fun i _ => 1 - (intOf i).toNat)
  case atStart => exact ⟨1, by omega, by omega, rfl, 0, rfl⟩
  case round =>
    obtain ⟨k, hk1, hk2, rfl, m, hw⟩ := hrel
    have HW := Lib.hid hw
    clear hw
    obtain rfl : k = 1 := by omega
    go_wp2_with (first | (go_at_call 57; refine (calc_any _ _).mono ?_; rintro e w' ⟨rfl, rfl⟩) | (go_at_call 56; refine (when_any _ _ _).mono ?_; rintro e w' ⟨rfl, rfl⟩))
    go_ret
    refine ⟨ret_int ?_, ⟨_, HW.out⟩⟩
    rfl
set_option maxHeartbeats 4000000 in
set_option maxRecDepth 100000 in
theorem made_2 (A : Option Addr) (c : Nat) (w : World) :
    Calls Try.prog 45 #[.int .i64 2, .slice A 0 c] w (Told (2) w) := by
  go_enter Try.func45, Try.ntmps45
  go_wp2_with fail
  go_loopw [5] (fun i wr => ∃ k : Nat, 1 ≤ k ∧ k ≤ 1 ∧ i = .int .i64 k ∧ ∃ m, wr = w.drewN m) (fun i _ => 1 - (intOf i).toNat)
  case atStart => exact ⟨1, by omega, by omega, rfl, 0, rfl⟩
  case round =>
    obtain ⟨k, hk1, hk2, rfl, m, hw⟩ := hrel
    have HW := Lib.hid hw
    clear hw
    obtain rfl : k = 1 := by omega
    go_wp2_with (first | (go_at_call 57; refine (calc_any _ _).mono ?_; rintro e w' ⟨rfl, rfl⟩) | (go_at_call 56; refine (when_any _ _ _).mono ?_; rintro e w' ⟨rfl, rfl⟩))
    go_ret
    refine ⟨ret_int ?_, ⟨_, HW.out⟩⟩
    rfl
set_option maxHeartbeats 4000000 in
set_option maxRecDepth 100000 in
theorem made_3 (A : Option Addr) (c : Nat) (w : World) :
    Calls Try.prog 45 #[.int .i64 3, .slice A 0 c] w (Told (3) w) := by
  go_enter Try.func45, Try.ntmps45
  go_wp2_with fail
  go_loopw [5] (fun i wr => ∃ k : Nat, 1 ≤ k ∧ k ≤ 1 ∧ i = .int .i64 k ∧ ∃ m, wr = w.drewN m) (fun i _ => 1 - (intOf i).toNat)
  case atStart => exact ⟨1, by omega, by omega, rfl, 0, rfl⟩
  case round =>
    obtain ⟨k, hk1, hk2, rfl, m, hw⟩ := hrel
    have HW := Lib.hid hw
    clear hw
    obtain rfl : k = 1 := by omega
    go_wp2_with (first | (go_at_call 57; refine (calc_any _ _).mono ?_; rintro e w' ⟨rfl, rfl⟩) | (go_at_call 56; refine (when_any _ _ _).mono ?_; rintro e w' ⟨rfl, rfl⟩))
    go_ret
    refine ⟨ret_int ?_, ⟨_, HW.out⟩⟩
    rfl
set_option maxHeartbeats 4000000 in
set_option maxRecDepth 100000 in
theorem made_4 (A : Option Addr) (c : Nat) (w : World) :
    Calls Try.prog 45 #[.int .i64 4, .slice A 0 c] w (Told (3) w) := by
  go_enter Try.func45, Try.ntmps45
  go_wp2_with fail
  go_loopw [5] (fun i wr => ∃ k : Nat, 1 ≤ k ∧ k ≤ 1 ∧ i = .int .i64 k ∧ ∃ m, wr = w.drewN m) (fun i _ => 1 - (intOf i).toNat)
  case atStart => exact ⟨1, by omega, by omega, rfl, 0, rfl⟩
  case round =>
    obtain ⟨k, hk1, hk2, rfl, m, hw⟩ := hrel
    have HW := Lib.hid hw
    clear hw
    obtain rfl : k = 1 := by omega
    go_wp2_with (first | (go_at_call 57; refine (calc_any _ _).mono ?_; rintro e w' ⟨rfl, rfl⟩) | (go_at_call 56; refine (when_any _ _ _).mono ?_; rintro e w' ⟨rfl, rfl⟩))
    go_ret
    refine ⟨ret_int ?_, ⟨_, HW.out⟩⟩
    rfl
set_option maxHeartbeats 4000000 in
set_option maxRecDepth 100000 in
theorem made_6 (a : Int) (ad : Addr) (c : Nat) (w : World) (h0 : w.cell? ad = some (.int .i64 a)) :
    Calls Try.prog 45 #[.int .i64 6, .slice (some ad) 1 c] w (Told (whenS (calcB a) a) w) := by
  go_enter Try.func45, Try.ntmps45
  go_wp2_with fail
  go_loopw [5] (fun i wr => ∃ k : Nat, 1 ≤ k ∧ k ≤ 1 ∧ i = .int .i64 k ∧ ∃ m, wr = w.drewN m) (fun i _ => 1 - (intOf i).toNat)
  case atStart => exact ⟨1, by omega, by omega, rfl, 0, rfl⟩
  case round =>
    obtain ⟨k, hk1, hk2, rfl, m, hw⟩ := hrel
    have g0 : wr.cell? ad = some (.int .i64 a) := by rw [hw]; exact h0
    have HW := Lib.hid hw
    clear hw h0
    obtain rfl : k = 1 := by omega
    go_wp2_with fail
    go_quiet ((first | (go_at_call 57; exact Calls.quiet_of_same (calc_any _ _)) | (go_at_call 56; exact Calls.quiet_of_same (when_any _ _ _))))
    go_wp2_with (first | (go_at_call 57; refine (calc_any _ _).mono ?_; rintro e w' ⟨rfl, rfl⟩) | (go_at_call 56; refine (when_any _ _ _).mono ?_; rintro e w' ⟨rfl, rfl⟩))
    go_ret
    refine ⟨ret_int ?_, ⟨_, by rw [HW.out, drewN_add]⟩⟩
    rfl
set_option maxHeartbeats 4000000 in
set_option maxRecDepth 100000 in
theorem made_7 (a : Int) (ad : Addr) (c : Nat) (w : World) (h0 : w.cell? ad = some (.int .i64 a)) :
    Calls Try.prog 45 #[.int .i64 7, .slice (some ad) 1 c] w (Told (whenS (a == 3) 3) w) := by
  go_enter Try.func45, Try.ntmps45
  go_wp2_with fail
  go_loopw [5] (fun i wr => ∃ k : Nat, 1 ≤ k ∧ k ≤ 1 ∧ i = .int .i64 k ∧ ∃ m, wr = w.drewN m) (fun i _ => 1 - (intOf i).toNat)
  case atStart => exact ⟨1, by omega, by omega, rfl, 0, rfl⟩
  case round =>
    obtain ⟨k, hk1, hk2, rfl, m, hw⟩ := hrel
    have g0 : wr.cell? ad = some (.int .i64 a) := by rw [hw]; exact h0
    have HW := Lib.hid hw
    clear hw h0
    obtain rfl : k = 1 := by omega
    go_wp2_with (first | (go_at_call 57; refine (calc_any _ _).mono ?_; rintro e w' ⟨rfl, rfl⟩) | (go_at_call 56; refine (when_any _ _ _).mono ?_; rintro e w' ⟨rfl, rfl⟩))
    go_ret
    refine ⟨ret_int ?_, ⟨_, HW.out⟩⟩
    rfl
set_option maxHeartbeats 4000000 in
set_option maxRecDepth 100000 in
theorem made_8 (a b : Int) (ad : Addr) (c : Nat) (w : World) (h0 : w.cell? ad = some (.int .i64 a)) (h1 : w.cell? ⟨ad.block, ad.off + 1, none⟩ = some (.int .i64 b)) :
    Calls Try.prog 45 #[.int .i64 8, .slice (some ad) 2 c] w (Told (mul2 a b) w) := by
  go_enter Try.func45, Try.ntmps45
  go_wp2_with fail
  go_loopw [5] (fun i wr => ∃ k : Nat, 1 ≤ k ∧ k ≤ 2 ∧ i = .int .i64 k ∧ ∃ m, wr = w.drewN m) (fun i _ => 2 - (intOf i).toNat)
  case atStart => exact ⟨1, by omega, by omega, rfl, 0, rfl⟩
  case round =>
    obtain ⟨k, hk1, hk2, rfl, m, hw⟩ := hrel
    have g0 : wr.cell? ad = some (.int .i64 a) := by rw [hw]; exact h0
    have g1 : wr.cell? ⟨ad.block, ad.off + 1, none⟩ = some (.int .i64 b) := by rw [hw]; exact h1
    have HW := Lib.hid hw
    clear hw h0 h1
    by_cases hlt1 : k = 1
    · subst hlt1
      go_wp2_with fail
      go_quiet (fail)
      go_wp2_with fail
      go_roundw
      case rel => exact ⟨2, by omega, by omega, by go_num, _, by rw [HW.out, drewN_add]⟩
      case measure => simp [intOf]
    · skip
      obtain rfl : k = 2 := by omega
      by_cases t0 : (a == 2) = true
      · by_cases t1 : (b == 1) = true
        · by_cases t2 : (a == 1) = true
          · by_cases t3 : (b == 2) = true
            · go_wp2_with (first | (go_at_call 57; refine (calc_any _ _).mono ?_; rintro e w' ⟨rfl, rfl⟩) | (go_at_call 56; refine (when_any _ _ _).mono ?_; rintro e w' ⟨rfl, rfl⟩))
              go_ret
              refine ⟨ret_int ?_, ⟨_, HW.out⟩⟩
              (first | rfl | (simp only [t0, t1, t2, t3]; rfl) | simp [whenS, mul2, div2, t0, t1, t2, t3])
            · have u3 : (b == 2) = false := by simpa using t3
              clear t3
              go_wp2_with (first | (go_at_call 57; refine (calc_any _ _).mono ?_; rintro e w' ⟨rfl, rfl⟩) | (go_at_call 56; refine (when_any _ _ _).mono ?_; rintro e w' ⟨rfl, rfl⟩))
              go_ret
              refine ⟨ret_int ?_, ⟨_, HW.out⟩⟩
              (first | rfl | (simp only [t0, t1, t2, u3]; rfl) | simp [whenS, mul2, div2, t0, t1, t2, u3])
          · have u2 : (a == 1) = false := by simpa using t2
            clear t2
            by_cases t3 : (b == 2) = true
            · go_wp2_with (first | (go_at_call 57; refine (calc_any _ _).mono ?_; rintro e w' ⟨rfl, rfl⟩) | (go_at_call 56; refine (when_any _ _ _).mono ?_; rintro e w' ⟨rfl, rfl⟩))
              go_ret
              refine ⟨ret_int ?_, ⟨_, HW.out⟩⟩
              (first | rfl | (simp only [t0, t1, u2, t3]; rfl) | simp [whenS, mul2, div2, t0, t1, u2, t3])
            · have u3 : (b == 2) = false := by simpa using t3
              clear t3
              go_wp2_with (first | (go_at_call 57; refine (calc_any _ _).mono ?_; rintro e w' ⟨rfl, rfl⟩) | (go_at_call 56; refine (when_any _ _ _).mono ?_; rintro e w' ⟨rfl, rfl⟩))
              go_ret
              refine ⟨ret_int ?_, ⟨_, HW.out⟩⟩
              (first | rfl | (simp only [t0, t1, u2, u3]; rfl) | simp [whenS, mul2, div2, t0, t1, u2, u3])
        · have u1 : (b == 1) = false := by simpa using t1
          clear t1
          by_cases t2 : (a == 1) = true
          · by_cases t3 : (b == 2) = true
            · go_wp2_with (first | (go_at_call 57; refine (calc_any _ _).mono ?_; rintro e w' ⟨rfl, rfl⟩) | (go_at_call 56; refine (when_any _ _ _).mono ?_; rintro e w' ⟨rfl, rfl⟩))
              go_ret
              refine ⟨ret_int ?_, ⟨_, HW.out⟩⟩
              (first | rfl | (simp only [t0, u1, t2, t3]; rfl) | simp [whenS, mul2, div2, t0, u1, t2, t3])
            · have u3 : (b == 2) = false := by simpa using t3
              clear t3
              go_wp2_with (first | (go_at_call 57; refine (calc_any _ _).mono ?_; rintro e w' ⟨rfl, rfl⟩) | (go_at_call 56; refine (when_any _ _ _).mono ?_; rintro e w' ⟨rfl, rfl⟩))
              go_ret
              refine ⟨ret_int ?_, ⟨_, HW.out⟩⟩
              (first | rfl | (simp only [t0, u1, t2, u3]; rfl) | simp [whenS, mul2, div2, t0, u1, t2, u3])
          · have u2 : (a == 1) = false := by simpa using t2
            clear t2
            by_cases t3 : (b == 2) = true
            · go_wp2_with (first | (go_at_call 57; refine (calc_any _ _).mono ?_; rintro e w' ⟨rfl, rfl⟩) | (go_at_call 56; refine (when_any _ _ _).mono ?_; rintro e w' ⟨rfl, rfl⟩))
              go_ret
              refine ⟨ret_int ?_, ⟨_, HW.out⟩⟩
              (first | rfl | (simp only [t0, u1, u2, t3]; rfl) | simp [whenS, mul2, div2, t0, u1, u2, t3])
            · have u3 : (b == 2) = false := by simpa using t3
              clear t3
              go_wp2_with (first | (go_at_call 57; refine (calc_any _ _).mono ?_; rintro e w' ⟨rfl, rfl⟩) | (go_at_call 56; refine (when_any _ _ _).mono ?_; rintro e w' ⟨rfl, rfl⟩))
              go_ret
              refine ⟨ret_int ?_, ⟨_, HW.out⟩⟩
              (first | rfl | (simp only [t0, u1, u2, u3]; rfl) | simp [whenS, mul2, div2, t0, u1, u2, u3])
      · have u0 : (a == 2) = false := by simpa using t0
        clear t0
        by_cases t1 : (b == 1) = true
        · by_cases t2 : (a == 1) = true
          · by_cases t3 : (b == 2) = true
            · go_wp2_with (first | (go_at_call 57; refine (calc_any _ _).mono ?_; rintro e w' ⟨rfl, rfl⟩) | (go_at_call 56; refine (when_any _ _ _).mono ?_; rintro e w' ⟨rfl, rfl⟩))
              go_ret
              refine ⟨ret_int ?_, ⟨_, HW.out⟩⟩
              (first | rfl | (simp only [u0, t1, t2, t3]; rfl) | simp [whenS, mul2, div2, u0, t1, t2, t3])
            · have u3 : (b == 2) = false := by simpa using t3
              clear t3
              go_wp2_with (first | (go_at_call 57; refine (calc_any _ _).mono ?_; rintro e w' ⟨rfl, rfl⟩) | (go_at_call 56; refine (when_any _ _ _).mono ?_; rintro e w' ⟨rfl, rfl⟩))
              go_ret
              refine ⟨ret_int ?_, ⟨_, HW.out⟩⟩
              (first | rfl | (simp only [u0, t1, t2, u3]; rfl) | simp [whenS, mul2, div2, u0, t1, t2, u3])
          · have u2 : (a == 1) = false := by simpa using t2
            clear t2
            by_cases t3 : (b == 2) = true
            · go_wp2_with (first | (go_at_call 57; refine (calc_any _ _).mono ?_; rintro e w' ⟨rfl, rfl⟩) | (go_at_call 56; refine (when_any _ _ _).mono ?_; rintro e w' ⟨rfl, rfl⟩))
              go_ret
              refine ⟨ret_int ?_, ⟨_, HW.out⟩⟩
              (first | rfl | (simp only [u0, t1, u2, t3]; rfl) | simp [whenS, mul2, div2, u0, t1, u2, t3])
            · have u3 : (b == 2) = false := by simpa using t3
              clear t3
              go_wp2_with (first | (go_at_call 57; refine (calc_any _ _).mono ?_; rintro e w' ⟨rfl, rfl⟩) | (go_at_call 56; refine (when_any _ _ _).mono ?_; rintro e w' ⟨rfl, rfl⟩))
              go_ret
              refine ⟨ret_int ?_, ⟨_, HW.out⟩⟩
              (first | rfl | (simp only [u0, t1, u2, u3]; rfl) | simp [whenS, mul2, div2, u0, t1, u2, u3])
        · have u1 : (b == 1) = false := by simpa using t1
          clear t1
          by_cases t2 : (a == 1) = true
          · by_cases t3 : (b == 2) = true
            · go_wp2_with (first | (go_at_call 57; refine (calc_any _ _).mono ?_; rintro e w' ⟨rfl, rfl⟩) | (go_at_call 56; refine (when_any _ _ _).mono ?_; rintro e w' ⟨rfl, rfl⟩))
              go_ret
              refine ⟨ret_int ?_, ⟨_, HW.out⟩⟩
              (first | rfl | (simp only [u0, u1, t2, t3]; rfl) | simp [whenS, mul2, div2, u0, u1, t2, t3])
            · have u3 : (b == 2) = false := by simpa using t3
              clear t3
              go_wp2_with (first | (go_at_call 57; refine (calc_any _ _).mono ?_; rintro e w' ⟨rfl, rfl⟩) | (go_at_call 56; refine (when_any _ _ _).mono ?_; rintro e w' ⟨rfl, rfl⟩))
              go_ret
              refine ⟨ret_int ?_, ⟨_, HW.out⟩⟩
              (first | rfl | (simp only [u0, u1, t2, u3]; rfl) | simp [whenS, mul2, div2, u0, u1, t2, u3])
          · have u2 : (a == 1) = false := by simpa using t2
            clear t2
            by_cases t3 : (b == 2) = true
            · go_wp2_with (first | (go_at_call 57; refine (calc_any _ _).mono ?_; rintro e w' ⟨rfl, rfl⟩) | (go_at_call 56; refine (when_any _ _ _).mono ?_; rintro e w' ⟨rfl, rfl⟩))
              go_ret
              refine ⟨ret_int ?_, ⟨_, HW.out⟩⟩
              (first | rfl | (simp only [u0, u1, u2, t3]; rfl) | simp [whenS, mul2, div2, u0, u1, u2, t3])
            · have u3 : (b == 2) = false := by simpa using t3
              clear t3
              go_wp2_with (first | (go_at_call 57; refine (calc_any _ _).mono ?_; rintro e w' ⟨rfl, rfl⟩) | (go_at_call 56; refine (when_any _ _ _).mono ?_; rintro e w' ⟨rfl, rfl⟩))
              go_ret
              refine ⟨ret_int ?_, ⟨_, HW.out⟩⟩
              (first | rfl | (simp only [u0, u1, u2, u3]; rfl) | simp [whenS, mul2, div2, u0, u1, u2, u3])
set_option maxHeartbeats 4000000 in
set_option maxRecDepth 100000 in
theorem made_9 (a b : Int) (ad : Addr) (c : Nat) (w : World) (h0 : w.cell? ad = some (.int .i64 a)) (h1 : w.cell? ⟨ad.block, ad.off + 1, none⟩ = some (.int .i64 b)) :
    Calls Try.prog 45 #[.int .i64 9, .slice (some ad) 2 c] w (Told (div2 a b) w) := by
  go_enter Try.func45, Try.ntmps45
  go_wp2_with fail
  go_loopw [5] (fun i wr => ∃ k : Nat, 1 ≤ k ∧ k ≤ 2 ∧ i = .int .i64 k ∧ ∃ m, wr = w.drewN m) (fun i _ => 2 - (intOf i).toNat)
  case atStart => exact ⟨1, by omega, by omega, rfl, 0, rfl⟩
  case round =>
    obtain ⟨k, hk1, hk2, rfl, m, hw⟩ := hrel
    have g0 : wr.cell? ad = some (.int .i64 a) := by rw [hw]; exact h0
    have g1 : wr.cell? ⟨ad.block, ad.off + 1, none⟩ = some (.int .i64 b) := by rw [hw]; exact h1
    have HW := Lib.hid hw
    clear hw h0 h1
    by_cases hlt1 : k = 1
    · subst hlt1
      go_wp2_with fail
      go_quiet (fail)
      go_wp2_with fail
      go_roundw
      case rel => exact ⟨2, by omega, by omega, by go_num, _, by rw [HW.out, drewN_add]⟩
      case measure => simp [intOf]
    · skip
      obtain rfl : k = 2 := by omega
      by_cases t0 : (a == 2) = true
      · by_cases t1 : (b == 1) = true
        · go_wp2_with (first | (go_at_call 57; refine (calc_any _ _).mono ?_; rintro e w' ⟨rfl, rfl⟩) | (go_at_call 56; refine (when_any _ _ _).mono ?_; rintro e w' ⟨rfl, rfl⟩))
          go_ret
          refine ⟨ret_int ?_, ⟨_, HW.out⟩⟩
          (first | rfl | (simp only [t0, t1]; rfl) | simp [whenS, mul2, div2, t0, t1])
        · have u1 : (b == 1) = false := by simpa using t1
          clear t1
          by_cases t2 : (calcB a) = true
          · have T2 := Lib.hid t2
            clear t2
            go_wp2_with fail
            go_quiet ((first | (go_at_call 57; exact Calls.quiet_of_same (calc_is _ _ T2.out _)) | (go_at_call 56; exact Calls.quiet_of_same (when_any _ _ _))))
            go_wp2_with (first | (go_at_call 57; refine (calc_any _ _).mono ?_; rintro e w' ⟨rfl, rfl⟩) | (go_at_call 56; refine (when_any _ _ _).mono ?_; rintro e w' ⟨rfl, rfl⟩))
            go_ret
            refine ⟨ret_int ?_, ⟨_, by rw [HW.out, drewN_add]⟩⟩
            (first | rfl | (simp only [t0, u1, T2.out]; rfl) | simp [whenS, mul2, div2, t0, u1, T2.out])
          · have U2 : Hid ((calcB a) = false) := by simpa [Hid] using t2
            clear t2
            go_wp2_with fail
            go_quiet ((first | (go_at_call 57; exact Calls.quiet_of_same (calc_is _ _ U2.out _)) | (go_at_call 56; exact Calls.quiet_of_same (when_any _ _ _))))
            go_wp2_with (first | (go_at_call 57; refine (calc_any _ _).mono ?_; rintro e w' ⟨rfl, rfl⟩) | (go_at_call 56; refine (when_any _ _ _).mono ?_; rintro e w' ⟨rfl, rfl⟩))
            go_ret
            refine ⟨ret_int ?_, ⟨_, by rw [HW.out, drewN_add]⟩⟩
            (first | rfl | (simp only [t0, u1, U2.out]; rfl) | simp [whenS, mul2, div2, t0, u1, U2.out])
      · have u0 : (a == 2) = false := by simpa using t0
        clear t0
        by_cases t1 : (b == 1) = true
        · by_cases t2 : (calcB a) = true
          · have T2 := Lib.hid t2
            clear t2
            go_wp2_with fail
            go_quiet ((first | (go_at_call 57; exact Calls.quiet_of_same (calc_is _ _ T2.out _)) | (go_at_call 56; exact Calls.quiet_of_same (when_any _ _ _))))
            go_wp2_with (first | (go_at_call 57; refine (calc_any _ _).mono ?_; rintro e w' ⟨rfl, rfl⟩) | (go_at_call 56; refine (when_any _ _ _).mono ?_; rintro e w' ⟨rfl, rfl⟩))
            go_ret
            refine ⟨ret_int ?_, ⟨_, by rw [HW.out, drewN_add]⟩⟩
            (first | rfl | (simp only [u0, t1, T2.out]; rfl) | simp [whenS, mul2, div2, u0, t1, T2.out])
          · have U2 : Hid ((calcB a) = false) := by simpa [Hid] using t2
            clear t2
            go_wp2_with fail
            go_quiet ((first | (go_at_call 57; exact Calls.quiet_of_same (calc_is _ _ U2.out _)) | (go_at_call 56; exact Calls.quiet_of_same (when_any _ _ _))))
            go_wp2_with (first | (go_at_call 57; refine (calc_any _ _).mono ?_; rintro e w' ⟨rfl, rfl⟩) | (go_at_call 56; refine (when_any _ _ _).mono ?_; rintro e w' ⟨rfl, rfl⟩))
            go_ret
            refine ⟨ret_int ?_, ⟨_, by rw [HW.out, drewN_add]⟩⟩
            (first | rfl | (simp only [u0, t1, U2.out]; rfl) | simp [whenS, mul2, div2, u0, t1, U2.out])
        · have u1 : (b == 1) = false := by simpa using t1
          clear t1
          by_cases t2 : (calcB a) = true
          · have T2 := Lib.hid t2
            clear t2
            go_wp2_with fail
            go_quiet ((first | (go_at_call 57; exact Calls.quiet_of_same (calc_is _ _ T2.out _)) | (go_at_call 56; exact Calls.quiet_of_same (when_any _ _ _))))
            go_wp2_with (first | (go_at_call 57; refine (calc_any _ _).mono ?_; rintro e w' ⟨rfl, rfl⟩) | (go_at_call 56; refine (when_any _ _ _).mono ?_; rintro e w' ⟨rfl, rfl⟩))
            go_ret
            refine ⟨ret_int ?_, ⟨_, by rw [HW.out, drewN_add]⟩⟩
            (first | rfl | (simp only [u0, u1, T2.out]; rfl) | simp [whenS, mul2, div2, u0, u1, T2.out])
          · have U2 : Hid ((calcB a) = false) := by simpa [Hid] using t2
            clear t2
            go_wp2_with fail
            go_quiet ((first | (go_at_call 57; exact Calls.quiet_of_same (calc_is _ _ U2.out _)) | (go_at_call 56; exact Calls.quiet_of_same (when_any _ _ _))))
            go_wp2_with (first | (go_at_call 57; refine (calc_any _ _).mono ?_; rintro e w' ⟨rfl, rfl⟩) | (go_at_call 56; refine (when_any _ _ _).mono ?_; rintro e w' ⟨rfl, rfl⟩))
            go_ret
            refine ⟨ret_int ?_, ⟨_, by rw [HW.out, drewN_add]⟩⟩
            (first | rfl | (simp only [u0, u1, U2.out]; rfl) | simp [whenS, mul2, div2, u0, u1, U2.out])
set_option maxHeartbeats 4000000 in
set_option maxRecDepth 100000 in
theorem made_10 (a b : Int) (ad : Addr) (c : Nat) (w : World) (h0 : w.cell? ad = some (.int .i64 a)) (h1 : w.cell? ⟨ad.block, ad.off + 1, none⟩ = some (.int .i64 b)) :
    Calls Try.prog 45 #[.int .i64 10, .slice (some ad) 2 c] w (Told (whenS (calcB a && b == a) a) w) := by
  go_enter Try.func45, Try.ntmps45
  go_wp2_with fail
  go_loopw [5] (fun i wr => ∃ k : Nat, 1 ≤ k ∧ k ≤ 2 ∧ i = .int .i64 k ∧ ∃ m, wr = w.drewN m) (fun i _ => 2 - (intOf i).toNat)
  case atStart => exact ⟨1, by omega, by omega, rfl, 0, rfl⟩
  case round =>
    obtain ⟨k, hk1, hk2, rfl, m, hw⟩ := hrel
    have g0 : wr.cell? ad = some (.int .i64 a) := by rw [hw]; exact h0
    have g1 : wr.cell? ⟨ad.block, ad.off + 1, none⟩ = some (.int .i64 b) := by rw [hw]; exact h1
    have HW := Lib.hid hw
    clear hw h0 h1
    by_cases hlt1 : k = 1
    · subst hlt1
      go_wp2_with fail
      go_quiet (fail)
      go_wp2_with fail
      go_roundw
      case rel => exact ⟨2, by omega, by omega, by go_num, _, by rw [HW.out, drewN_add]⟩
      case measure => simp [intOf]
    · skip
      obtain rfl : k = 2 := by omega
      by_cases t0 : (calcB a) = true
      · have T0 := Lib.hid t0
        clear t0
        go_wp2_with fail
        go_quiet ((first | (go_at_call 57; exact Calls.quiet_of_same (calc_is _ _ T0.out _)) | (go_at_call 56; exact Calls.quiet_of_same (when_any _ _ _))))
        go_wp2_with (first | (go_at_call 57; refine (calc_any _ _).mono ?_; rintro e w' ⟨rfl, rfl⟩) | (go_at_call 56; refine (when_any _ _ _).mono ?_; rintro e w' ⟨rfl, rfl⟩))
        go_ret
        refine ⟨ret_int ?_, ⟨_, by rw [HW.out, drewN_add]⟩⟩
        (first | rfl | (simp only [T0.out]; rfl) | simp [whenS, mul2, div2, T0.out])
      · have U0 : Hid ((calcB a) = false) := by simpa [Hid] using t0
        clear t0
        go_wp2_with fail
        go_quiet ((first | (go_at_call 57; exact Calls.quiet_of_same (calc_is _ _ U0.out _)) | (go_at_call 56; exact Calls.quiet_of_same (when_any _ _ _))))
        go_wp2_with (first | (go_at_call 57; refine (calc_any _ _).mono ?_; rintro e w' ⟨rfl, rfl⟩) | (go_at_call 56; refine (when_any _ _ _).mono ?_; rintro e w' ⟨rfl, rfl⟩))
        go_ret
        refine ⟨ret_int ?_, ⟨_, by rw [HW.out, drewN_add]⟩⟩
        (first | rfl | (simp only [U0.out]; rfl) | simp [whenS, mul2, div2, U0.out])
set_option maxHeartbeats 4000000 in
set_option maxRecDepth 100000 in
theorem made_11 (a b : Int) (ad : Addr) (c : Nat) (w : World) (h0 : w.cell? ad = some (.int .i64 a)) (h1 : w.cell? ⟨ad.block, ad.off + 1, none⟩ = some (.int .i64 b)) :
    Calls Try.prog 45 #[.int .i64 11, .slice (some ad) 2 c] w (Told (whenS (calcB a && b == a) a) w) := by
  go_enter Try.func45, Try.ntmps45
  go_wp2_with fail
  go_loopw [5] (fun i wr => ∃ k : Nat, 1 ≤ k ∧ k ≤ 2 ∧ i = .int .i64 k ∧ ∃ m, wr = w.drewN m) (fun i _ => 2 - (intOf i).toNat)
  case atStart => exact ⟨1, by omega, by omega, rfl, 0, rfl⟩
  case round =>
    obtain ⟨k, hk1, hk2, rfl, m, hw⟩ := hrel
    have g0 : wr.cell? ad = some (.int .i64 a) := by rw [hw]; exact h0
    have g1 : wr.cell? ⟨ad.block, ad.off + 1, none⟩ = some (.int .i64 b) := by rw [hw]; exact h1
    have HW := Lib.hid hw
    clear hw h0 h1
    by_cases hlt1 : k = 1
    · subst hlt1
      go_wp2_with fail
      go_quiet (fail)
      go_wp2_with fail
      go_roundw
      case rel => exact ⟨2, by omega, by omega, by go_num, _, by rw [HW.out, drewN_add]⟩
      case measure => simp [intOf]
    · skip
      obtain rfl : k = 2 := by omega
      by_cases t0 : (calcB a) = true
      · have T0 := Lib.hid t0
        clear t0
        go_wp2_with fail
        go_quiet ((first | (go_at_call 57; exact Calls.quiet_of_same (calc_is _ _ T0.out _)) | (go_at_call 56; exact Calls.quiet_of_same (when_any _ _ _))))
        go_wp2_with (first | (go_at_call 57; refine (calc_any _ _).mono ?_; rintro e w' ⟨rfl, rfl⟩) | (go_at_call 56; refine (when_any _ _ _).mono ?_; rintro e w' ⟨rfl, rfl⟩))
        go_ret
        refine ⟨ret_int ?_, ⟨_, by rw [HW.out, drewN_add]⟩⟩
        (first | rfl | (simp only [T0.out]; rfl) | simp [whenS, mul2, div2, T0.out])
      · have U0 : Hid ((calcB a) = false) := by simpa [Hid] using t0
        clear t0
        go_wp2_with fail
        go_quiet ((first | (go_at_call 57; exact Calls.quiet_of_same (calc_is _ _ U0.out _)) | (go_at_call 56; exact Calls.quiet_of_same (when_any _ _ _))))
        go_wp2_with (first | (go_at_call 57; refine (calc_any _ _).mono ?_; rintro e w' ⟨rfl, rfl⟩) | (go_at_call 56; refine (when_any _ _ _).mono ?_; rintro e w' ⟨rfl, rfl⟩))
        go_ret
        refine ⟨ret_int ?_, ⟨_, by rw [HW.out, drewN_add]⟩⟩
        (first | rfl | (simp only [U0.out]; rfl) | simp [whenS, mul2, div2, U0.out])
set_option maxHeartbeats 4000000 in
set_option maxRecDepth 100000 in
theorem made_12 (a b : Int) (ad : Addr) (c : Nat) (w : World) (h0 : w.cell? ad = some (.int .i64 a)) (h1 : w.cell? ⟨ad.block, ad.off + 1, none⟩ = some (.int .i64 b)) :
    Calls Try.prog 45 #[.int .i64 12, .slice (some ad) 2 c] w (Told (whenS (calcB a && b == a) 3) w) := by
  go_enter Try.func45, Try.ntmps45
  go_wp2_with fail
  go_loopw [5] (fun i wr => ∃ k : Nat, 1 ≤ k ∧ k ≤ 2 ∧ i = .int .i64 k ∧ ∃ m, wr = w.drewN m) (fun i _ => 2 - (intOf i).toNat)
  case atStart => exact ⟨1, by omega, by omega, rfl, 0, rfl⟩
  case round =>
    obtain ⟨k, hk1, hk2, rfl, m, hw⟩ := hrel
    have g0 : wr.cell? ad = some (.int .i64 a) := by rw [hw]; exact h0
    have g1 : wr.cell? ⟨ad.block, ad.off + 1, none⟩ = some (.int .i64 b) := by rw [hw]; exact h1
    have HW := Lib.hid hw
    clear hw h0 h1
    by_cases hlt1 : k = 1
    · subst hlt1
      go_wp2_with fail
      go_quiet (fail)
      go_wp2_with fail
      go_roundw
      case rel => exact ⟨2, by omega, by omega, by go_num, _, by rw [HW.out, drewN_add]⟩
      case measure => simp [intOf]
    · skip
      obtain rfl : k = 2 := by omega
      by_cases t0 : (calcB a) = true
      · have T0 := Lib.hid t0
        clear t0
        go_wp2_with fail
        go_quiet ((first | (go_at_call 57; exact Calls.quiet_of_same (calc_is _ _ T0.out _)) | (go_at_call 56; exact Calls.quiet_of_same (when_any _ _ _))))
        go_wp2_with (first | (go_at_call 57; refine (calc_any _ _).mono ?_; rintro e w' ⟨rfl, rfl⟩) | (go_at_call 56; refine (when_any _ _ _).mono ?_; rintro e w' ⟨rfl, rfl⟩))
        go_ret
        refine ⟨ret_int ?_, ⟨_, by rw [HW.out, drewN_add]⟩⟩
        (first | rfl | (simp only [T0.out]; rfl) | simp [whenS, mul2, div2, T0.out])
      · have U0 : Hid ((calcB a) = false) := by simpa [Hid] using t0
        clear t0
        go_wp2_with fail
        go_quiet ((first | (go_at_call 57; exact Calls.quiet_of_same (calc_is _ _ U0.out _)) | (go_at_call 56; exact Calls.quiet_of_same (when_any _ _ _))))
        go_wp2_with (first | (go_at_call 57; refine (calc_any _ _).mono ?_; rintro e w' ⟨rfl, rfl⟩) | (go_at_call 56; refine (when_any _ _ _).mono ?_; rintro e w' ⟨rfl, rfl⟩))
        go_ret
        refine ⟨ret_int ?_, ⟨_, by rw [HW.out, drewN_add]⟩⟩
        (first | rfl | (simp only [U0.out]; rfl) | simp [whenS, mul2, div2, U0.out])
set_option maxHeartbeats 4000000 in
set_option maxRecDepth 100000 in
theorem made_13 (a b : Int) (ad : Addr) (c : Nat) (w : World) (h0 : w.cell? ad = some (.int .i64 a)) (h1 : w.cell? ⟨ad.block, ad.off + 1, none⟩ = some (.int .i64 b)) :
    Calls Try.prog 45 #[.int .i64 13, .slice (some ad) 2 c] w (Told (whenS (calcB a && b == a) 3) w) := by
  go_enter Try.func45, Try.ntmps45
  go_wp2_with fail
  go_loopw [5] (fun i wr => ∃ k : Nat, 1 ≤ k ∧ k ≤ 2 ∧ i = .int .i64 k ∧ ∃ m, wr = w.drewN m) (fun i _ => 2 - (intOf i).toNat)
  case atStart => exact ⟨1, by omega, by omega, rfl, 0, rfl⟩
  case round =>
    obtain ⟨k, hk1, hk2, rfl, m, hw⟩ := hrel
    have g0 : wr.cell? ad = some (.int .i64 a) := by rw [hw]; exact h0
    have g1 : wr.cell? ⟨ad.block, ad.off + 1, none⟩ = some (.int .i64 b) := by rw [hw]; exact h1
    have HW := Lib.hid hw
    clear hw h0 h1
    by_cases hlt1 : k = 1
    · subst hlt1
      go_wp2_with fail
      go_quiet (fail)
      go_wp2_with fail
      go_roundw
      case rel => exact ⟨2, by omega, by omega, by go_num, _, by rw [HW.out, drewN_add]⟩
      case measure => simp [intOf]
    · skip
      obtain rfl : k = 2 := by omega
      by_cases t0 : (calcB a) = true
      · have T0 := Lib.hid t0
        clear t0
        go_wp2_with fail
        go_quiet ((first | (go_at_call 57; exact Calls.quiet_of_same (calc_is _ _ T0.out _)) | (go_at_call 56; exact Calls.quiet_of_same (when_any _ _ _))))
        go_wp2_with (first | (go_at_call 57; refine (calc_any _ _).mono ?_; rintro e w' ⟨rfl, rfl⟩) | (go_at_call 56; refine (when_any _ _ _).mono ?_; rintro e w' ⟨rfl, rfl⟩))
        go_ret
        refine ⟨ret_int ?_, ⟨_, by rw [HW.out, drewN_add]⟩⟩
        (first | rfl | (simp only [T0.out]; rfl) | simp [whenS, mul2, div2, T0.out])
      · have U0 : Hid ((calcB a) = false) := by simpa [Hid] using t0
        clear t0
        go_wp2_with fail
        go_quiet ((first | (go_at_call 57; exact Calls.quiet_of_same (calc_is _ _ U0.out _)) | (go_at_call 56; exact Calls.quiet_of_same (when_any _ _ _))))
        go_wp2_with (first | (go_at_call 57; refine (calc_any _ _).mono ?_; rintro e w' ⟨rfl, rfl⟩) | (go_at_call 56; refine (when_any _ _ _).mono ?_; rintro e w' ⟨rfl, rfl⟩))
        go_ret
        refine ⟨ret_int ?_, ⟨_, by rw [HW.out, drewN_add]⟩⟩
        (first | rfl | (simp only [U0.out]; rfl) | simp [whenS, mul2, div2, U0.out])
set_option maxHeartbeats 4000000 in
set_option maxRecDepth 100000 in
theorem made_14 (a b : Int) (ad : Addr) (c : Nat) (w : World) (h0 : w.cell? ad = some (.int .i64 a)) (h1 : w.cell? ⟨ad.block, ad.off + 1, none⟩ = some (.int .i64 b)) :
    Calls Try.prog 45 #[.int .i64 14, .slice (some ad) 2 c] w (Told (whenS (calcB a && b == a) 3) w) := by
  go_enter Try.func45, Try.ntmps45
  go_wp2_with fail
  go_loopw [5] (fun i wr => ∃ k : Nat, 1 ≤ k ∧ k ≤ 2 ∧ i = .int .i64 k ∧ ∃ m, wr = w.drewN m) (fun i _ => 2 - (intOf i).toNat)
  case atStart => exact ⟨1, by omega, by omega, rfl, 0, rfl⟩
  case round =>
    obtain ⟨k, hk1, hk2, rfl, m, hw⟩ := hrel
    have g0 : wr.cell? ad = some (.int .i64 a) := by rw [hw]; exact h0
    have g1 : wr.cell? ⟨ad.block, ad.off + 1, none⟩ = some (.int .i64 b) := by rw [hw]; exact h1
    have HW := Lib.hid hw
    clear hw h0 h1
    by_cases hlt1 : k = 1
    · subst hlt1
      go_wp2_with fail
      go_quiet (fail)
      go_wp2_with fail
      go_roundw
      case rel => exact ⟨2, by omega, by omega, by go_num, _, by rw [HW.out, drewN_add]⟩
      case measure => simp [intOf]
    · skip
      obtain rfl : k = 2 := by omega
      by_cases t0 : (calcB a) = true
      · have T0 := Lib.hid t0
        clear t0
        go_wp2_with fail
        go_quiet ((first | (go_at_call 57; exact Calls.quiet_of_same (calc_is _ _ T0.out _)) | (go_at_call 56; exact Calls.quiet_of_same (when_any _ _ _))))
        go_wp2_with (first | (go_at_call 57; refine (calc_any _ _).mono ?_; rintro e w' ⟨rfl, rfl⟩) | (go_at_call 56; refine (when_any _ _ _).mono ?_; rintro e w' ⟨rfl, rfl⟩))
        go_ret
        refine ⟨ret_int ?_, ⟨_, by rw [HW.out, drewN_add]⟩⟩
        (first | rfl | (simp only [T0.out]; rfl) | simp [whenS, mul2, div2, T0.out])
      · have U0 : Hid ((calcB a) = false) := by simpa [Hid] using t0
        clear t0
        go_wp2_with fail
        go_quiet ((first | (go_at_call 57; exact Calls.quiet_of_same (calc_is _ _ U0.out _)) | (go_at_call 56; exact Calls.quiet_of_same (when_any _ _ _))))
        go_wp2_with (first | (go_at_call 57; refine (calc_any _ _).mono ?_; rintro e w' ⟨rfl, rfl⟩) | (go_at_call 56; refine (when_any _ _ _).mono ?_; rintro e w' ⟨rfl, rfl⟩))
        go_ret
        refine ⟨ret_int ?_, ⟨_, by rw [HW.out, drewN_add]⟩⟩
        (first | rfl | (simp only [U0.out]; rfl) | simp [whenS, mul2, div2, U0.out])
set_option maxHeartbeats 4000000 in
set_option maxRecDepth 100000 in
theorem made_15 (a b : Int) (ad : Addr) (c : Nat) (w : World) (h0 : w.cell? ad = some (.int .i64 a)) (h1 : w.cell? ⟨ad.block, ad.off + 1, none⟩ = some (.int .i64 b)) :
    Calls Try.prog 45 #[.int .i64 15, .slice (some ad) 2 c] w (Told (whenS (calcB a && b == a) 3) w) := by
  go_enter Try.func45, Try.ntmps45
  go_wp2_with fail
  go_loopw [5] (fun i wr => ∃ k : Nat, 1 ≤ k ∧ k ≤ 2 ∧ i = .int .i64 k ∧ ∃ m, wr = w.drewN m) (fun i _ => 2 - (intOf i).toNat)
  case atStart => exact ⟨1, by omega, by omega, rfl, 0, rfl⟩
  case round =>
    obtain ⟨k, hk1, hk2, rfl, m, hw⟩ := hrel
    have g0 : wr.cell? ad = some (.int .i64 a) := by rw [hw]; exact h0
    have g1 : wr.cell? ⟨ad.block, ad.off + 1, none⟩ = some (.int .i64 b) := by rw [hw]; exact h1
    have HW := Lib.hid hw
    clear hw h0 h1
    by_cases hlt1 : k = 1
    · subst hlt1
      go_wp2_with fail
      go_quiet (fail)
      go_wp2_with fail
      go_roundw
      case rel => exact ⟨2, by omega, by omega, by go_num, _, by rw [HW.out, drewN_add]⟩
      case measure => simp [intOf]
    · skip
      obtain rfl : k = 2 := by omega
      by_cases t0 : (calcB a) = true
      · have T0 := Lib.hid t0
        clear t0
        go_wp2_with fail
        go_quiet ((first | (go_at_call 57; exact Calls.quiet_of_same (calc_is _ _ T0.out _)) | (go_at_call 56; exact Calls.quiet_of_same (when_any _ _ _))))
        go_wp2_with (first | (go_at_call 57; refine (calc_any _ _).mono ?_; rintro e w' ⟨rfl, rfl⟩) | (go_at_call 56; refine (when_any _ _ _).mono ?_; rintro e w' ⟨rfl, rfl⟩))
        go_ret
        refine ⟨ret_int ?_, ⟨_, by rw [HW.out, drewN_add]⟩⟩
        (first | rfl | (simp only [T0.out]; rfl) | simp [whenS, mul2, div2, T0.out])
      · have U0 : Hid ((calcB a) = false) := by simpa [Hid] using t0
        clear t0
        go_wp2_with fail
        go_quiet ((first | (go_at_call 57; exact Calls.quiet_of_same (calc_is _ _ U0.out _)) | (go_at_call 56; exact Calls.quiet_of_same (when_any _ _ _))))
        go_wp2_with (first | (go_at_call 57; refine (calc_any _ _).mono ?_; rintro e w' ⟨rfl, rfl⟩) | (go_at_call 56; refine (when_any _ _ _).mono ?_; rintro e w' ⟨rfl, rfl⟩))
        go_ret
        refine ⟨ret_int ?_, ⟨_, by rw [HW.out, drewN_add]⟩⟩
        (first | rfl | (simp only [U0.out]; rfl) | simp [whenS, mul2, div2, U0.out])
set_option maxHeartbeats 4000000 in
set_option maxRecDepth 100000 in
theorem made_16 (a b : Int) (ad : Addr) (c : Nat) (w : World) (h0 : w.cell? ad = some (.int .i64 a)) (h1 : w.cell? ⟨ad.block, ad.off + 1, none⟩ = some (.int .i64 b)) :
    Calls Try.prog 45 #[.int .i64 16, .slice (some ad) 2 c] w (Told (whenS (b == a) 3) w) := by
  go_enter Try.func45, Try.ntmps45
  go_wp2_with fail
  go_loopw [5] (fun i wr => ∃ k : Nat, 1 ≤ k ∧ k ≤ 2 ∧ i = .int .i64 k ∧ ∃ m, wr = w.drewN m) (fun i _ => 2 - (intOf i).toNat)
  case atStart => exact ⟨1, by omega, by omega, rfl, 0, rfl⟩
  case round =>
    obtain ⟨k, hk1, hk2, rfl, m, hw⟩ := hrel
    have g0 : wr.cell? ad = some (.int .i64 a) := by rw [hw]; exact h0
    have g1 : wr.cell? ⟨ad.block, ad.off + 1, none⟩ = some (.int .i64 b) := by rw [hw]; exact h1
    have HW := Lib.hid hw
    clear hw h0 h1
    by_cases hlt1 : k = 1
    · subst hlt1
      go_wp2_with fail
      go_quiet (fail)
      go_wp2_with fail
      go_roundw
      case rel => exact ⟨2, by omega, by omega, by go_num, _, by rw [HW.out, drewN_add]⟩
      case measure => simp [intOf]
    · skip
      obtain rfl : k = 2 := by omega
      go_wp2_with fail
      go_quiet ((first | (go_at_call 57; exact Calls.quiet_of_same (calc_any _ _)) | (go_at_call 56; exact Calls.quiet_of_same (when_any _ _ _))))
      go_wp2_with (first | (go_at_call 57; refine (calc_any _ _).mono ?_; rintro e w' ⟨rfl, rfl⟩) | (go_at_call 56; refine (when_any _ _ _).mono ?_; rintro e w' ⟨rfl, rfl⟩))
      go_ret
      refine ⟨ret_int ?_, ⟨_, by rw [HW.out, drewN_add]⟩⟩
      rfl
set_option maxHeartbeats 4000000 in
set_option maxRecDepth 100000 in
theorem made_17 (a b : Int) (ad : Addr) (c : Nat) (w : World) (h0 : w.cell? ad = some (.int .i64 a)) (h1 : w.cell? ⟨ad.block, ad.off + 1, none⟩ = some (.int .i64 b)) :
    Calls Try.prog 45 #[.int .i64 17, .slice (some ad) 2 c] w (Told (whenS (b == a) 3) w) := by
  go_enter Try.func45, Try.ntmps45
  go_wp2_with fail
  go_loopw [5] (fun i wr => ∃ k : Nat, 1 ≤ k ∧ k ≤ 2 ∧ i = .int .i64 k ∧ ∃ m, wr = w.drewN m) (fun i _ => 2 - (intOf i).toNat)
  case atStart => exact ⟨1, by omega, by omega, rfl, 0, rfl⟩
  case round =>
    obtain ⟨k, hk1, hk2, rfl, m, hw⟩ := hrel
    have g0 : wr.cell? ad = some (.int .i64 a) := by rw [hw]; exact h0
    have g1 : wr.cell? ⟨ad.block, ad.off + 1, none⟩ = some (.int .i64 b) := by rw [hw]; exact h1
    have HW := Lib.hid hw
    clear hw h0 h1
    by_cases hlt1 : k = 1
    · subst hlt1
      go_wp2_with fail
      go_quiet (fail)
      go_wp2_with fail
      go_roundw
      case rel => exact ⟨2, by omega, by omega, by go_num, _, by rw [HW.out, drewN_add]⟩
      case measure => simp [intOf]
    · skip
      obtain rfl : k = 2 := by omega
      go_wp2_with fail
      go_quiet ((first | (go_at_call 57; exact Calls.quiet_of_same (calc_any _ _)) | (go_at_call 56; exact Calls.quiet_of_same (when_any _ _ _))))
      go_wp2_with (first | (go_at_call 57; refine (calc_any _ _).mono ?_; rintro e w' ⟨rfl, rfl⟩) | (go_at_call 56; refine (when_any _ _ _).mono ?_; rintro e w' ⟨rfl, rfl⟩))
      go_ret
      refine ⟨ret_int ?_, ⟨_, by rw [HW.out, drewN_add]⟩⟩
      rfl
set_option maxHeartbeats 4000000 in
set_option maxRecDepth 100000 in
theorem made_18 (a b : Int) (ad : Addr) (c : Nat) (w : World) (h0 : w.cell? ad = some (.int .i64 a)) (h1 : w.cell? ⟨ad.block, ad.off + 1, none⟩ = some (.int .i64 b)) :
    Calls Try.prog 45 #[.int .i64 18, .slice (some ad) 2 c] w (Told (whenS (a == 3 && b == 3) 3) w) := by
  go_enter Try.func45, Try.ntmps45
  go_wp2_with fail
  go_loopw [5] (fun i wr => ∃ k : Nat, 1 ≤ k ∧ k ≤ 2 ∧ i = .int .i64 k ∧ ∃ m, wr = w.drewN m) (fun i _ => 2 - (intOf i).toNat)
  case atStart => exact ⟨1, by omega, by omega, rfl, 0, rfl⟩
  case round =>
    obtain ⟨k, hk1, hk2, rfl, m, hw⟩ := hrel
    have g0 : wr.cell? ad = some (.int .i64 a) := by rw [hw]; exact h0
    have g1 : wr.cell? ⟨ad.block, ad.off + 1, none⟩ = some (.int .i64 b) := by rw [hw]; exact h1
    have HW := Lib.hid hw
    clear hw h0 h1
    by_cases hlt1 : k = 1
    · subst hlt1
      go_wp2_with fail
      go_quiet (fail)
      go_wp2_with fail
      go_roundw
      case rel => exact ⟨2, by omega, by omega, by go_num, _, by rw [HW.out, drewN_add]⟩
      case measure => simp [intOf]
    · skip
      obtain rfl : k = 2 := by omega
      by_cases t0 : (a == 3) = true
      · go_wp2_with (first | (go_at_call 57; refine (calc_any _ _).mono ?_; rintro e w' ⟨rfl, rfl⟩) | (go_at_call 56; refine (when_any _ _ _).mono ?_; rintro e w' ⟨rfl, rfl⟩))
        go_ret
        refine ⟨ret_int ?_, ⟨_, HW.out⟩⟩
        (first | rfl | (simp only [t0]; rfl) | simp [whenS, mul2, div2, t0])
      · have u0 : (a == 3) = false := by simpa using t0
        clear t0
        go_wp2_with (first | (go_at_call 57; refine (calc_any _ _).mono ?_; rintro e w' ⟨rfl, rfl⟩) | (go_at_call 56; refine (when_any _ _ _).mono ?_; rintro e w' ⟨rfl, rfl⟩))
        go_ret
        refine ⟨ret_int ?_, ⟨_, HW.out⟩⟩
        (first | rfl | (simp only [u0]; rfl) | simp [whenS, mul2, div2, u0])
set_option maxHeartbeats 4000000 in
set_option maxRecDepth 100000 in
theorem made_19 (a b : Int) (ad : Addr) (c : Nat) (w : World) (h0 : w.cell? ad = some (.int .i64 a)) (h1 : w.cell? ⟨ad.block, ad.off + 1, none⟩ = some (.int .i64 b)) :
    Calls Try.prog 45 #[.int .i64 19, .slice (some ad) 2 c] w (Told (whenS (a == 3 && b == 3) 3) w) := by
  go_enter Try.func45, Try.ntmps45
  go_wp2_with fail
  go_loopw [5] (fun i wr => ∃ k : Nat, 1 ≤ k ∧ k ≤ 2 ∧ i = .int .i64 k ∧ ∃ m, wr = w.drewN m) (fun i _ => 2 - (intOf i).toNat)
  case atStart => exact ⟨1, by omega, by omega, rfl, 0, rfl⟩
  case round =>
    obtain ⟨k, hk1, hk2, rfl, m, hw⟩ := hrel
    have g0 : wr.cell? ad = some (.int .i64 a) := by rw [hw]; exact h0
    have g1 : wr.cell? ⟨ad.block, ad.off + 1, none⟩ = some (.int .i64 b) := by rw [hw]; exact h1
    have HW := Lib.hid hw
    clear hw h0 h1
    by_cases hlt1 : k = 1
    · subst hlt1
      go_wp2_with fail
      go_quiet (fail)
      go_wp2_with fail
      go_roundw
      case rel => exact ⟨2, by omega, by omega, by go_num, _, by rw [HW.out, drewN_add]⟩
      case measure => simp [intOf]
    · skip
      obtain rfl : k = 2 := by omega
      by_cases t0 : (a == 3) = true
      · go_wp2_with (first | (go_at_call 57; refine (calc_any _ _).mono ?_; rintro e w' ⟨rfl, rfl⟩) | (go_at_call 56; refine (when_any _ _ _).mono ?_; rintro e w' ⟨rfl, rfl⟩))
        go_ret
        refine ⟨ret_int ?_, ⟨_, HW.out⟩⟩
        (first | rfl | (simp only [t0]; rfl) | simp [whenS, mul2, div2, t0])
      · have u0 : (a == 3) = false := by simpa using t0
        clear t0
        go_wp2_with (first | (go_at_call 57; refine (calc_any _ _).mono ?_; rintro e w' ⟨rfl, rfl⟩) | (go_at_call 56; refine (when_any _ _ _).mono ?_; rintro e w' ⟨rfl, rfl⟩))
        go_ret
        refine ⟨ret_int ?_, ⟨_, HW.out⟩⟩
        (first | rfl | (simp only [u0]; rfl) | simp [whenS, mul2, div2, u0])
set_option maxHeartbeats 4000000 in
set_option maxRecDepth 100000 in
theorem made_20 (a b d : Int) (ad : Addr) (c : Nat) (w : World) (h0 : w.cell? ad = some (.int .i64 a)) (h1 : w.cell? ⟨ad.block, ad.off + 1, none⟩ = some (.int .i64 b)) (h2 : w.cell? ⟨ad.block, ad.off + 2, none⟩ = some (.int .i64 d)) :
    Calls Try.prog 45 #[.int .i64 20, .slice (some ad) 3 c] w (Told (whenS (a == 3 && d == b) b) w) := by
  go_enter Try.func45, Try.ntmps45
  go_wp2_with fail
  go_loopw [5] (fun i wr => ∃ k : Nat, 1 ≤ k ∧ k ≤ 3 ∧ i = .int .i64 k ∧ ∃ m, wr = w.drewN m) (fun i _ => 3 - (intOf i).toNat)
  case atStart => exact ⟨1, by omega, by omega, rfl, 0, rfl⟩
  case round =>
    obtain ⟨k, hk1, hk2, rfl, m, hw⟩ := hrel
    have g0 : wr.cell? ad = some (.int .i64 a) := by rw [hw]; exact h0
    have g1 : wr.cell? ⟨ad.block, ad.off + 1, none⟩ = some (.int .i64 b) := by rw [hw]; exact h1
    have g2 : wr.cell? ⟨ad.block, ad.off + 2, none⟩ = some (.int .i64 d) := by rw [hw]; exact h2
    have HW := Lib.hid hw
    clear hw h0 h1 h2
    by_cases hlt1 : k = 1
    · subst hlt1
      go_wp2_with fail
      go_quiet (fail)
      go_wp2_with fail
      go_roundw
      case rel => exact ⟨2, by omega, by omega, by go_num, _, by rw [HW.out, drewN_add]⟩
      case measure => simp [intOf]
    · skip
      by_cases hlt2 : k = 2
      · subst hlt2
        go_wp2_with fail
        go_quiet (fail)
        go_wp2_with fail
        go_roundw
        case rel => exact ⟨3, by omega, by omega, by go_num, _, by rw [HW.out, drewN_add]⟩
        case measure => simp [intOf]
      · skip
        obtain rfl : k = 3 := by omega
        by_cases t0 : (a == 3) = true
        · go_wp2_with fail
          go_quiet ((first | (go_at_call 57; exact Calls.quiet_of_same (calc_any _ _)) | (go_at_call 56; exact Calls.quiet_of_same (when_any _ _ _))))
          go_wp2_with (first | (go_at_call 57; refine (calc_any _ _).mono ?_; rintro e w' ⟨rfl, rfl⟩) | (go_at_call 56; refine (when_any _ _ _).mono ?_; rintro e w' ⟨rfl, rfl⟩))
          go_ret
          refine ⟨ret_int ?_, ⟨_, by rw [HW.out, drewN_add]⟩⟩
          (first | rfl | (simp only [t0]; rfl) | simp [whenS, mul2, div2, t0])
        · have u0 : (a == 3) = false := by simpa using t0
          clear t0
          go_wp2_with fail
          go_quiet ((first | (go_at_call 57; exact Calls.quiet_of_same (calc_any _ _)) | (go_at_call 56; exact Calls.quiet_of_same (when_any _ _ _))))
          go_wp2_with (first | (go_at_call 57; refine (calc_any _ _).mono ?_; rintro e w' ⟨rfl, rfl⟩) | (go_at_call 56; refine (when_any _ _ _).mono ?_; rintro e w' ⟨rfl, rfl⟩))
          go_ret
          refine ⟨ret_int ?_, ⟨_, by rw [HW.out, drewN_add]⟩⟩
          (first | rfl | (simp only [u0]; rfl) | simp [whenS, mul2, div2, u0])
set_option maxHeartbeats 4000000 in
set_option maxRecDepth 100000 in
theorem made_23 (a b : Int) (ad : Addr) (c : Nat) (w : World) (h0 : w.cell? ad = some (.int .i64 a)) (h1 : w.cell? ⟨ad.block, ad.off + 1, none⟩ = some (.int .i64 b)) :
    Calls Try.prog 45 #[.int .i64 23, .slice (some ad) 2 c] w (Told (whenS (calcB a && b == a) a) w) := by
  go_enter Try.func45, Try.ntmps45
  go_wp2_with fail
  go_loopw [5] (fun i wr => ∃ k : Nat, 1 ≤ k ∧ k ≤ 2 ∧ i = .int .i64 k ∧ ∃ m, wr = w.drewN m) (fun i _ => 2 - (intOf i).toNat)
  case atStart => exact ⟨1, by omega, by omega, rfl, 0, rfl⟩
  case round =>
    obtain ⟨k, hk1, hk2, rfl, m, hw⟩ := hrel
    have g0 : wr.cell? ad = some (.int .i64 a) := by rw [hw]; exact h0
    have g1 : wr.cell? ⟨ad.block, ad.off + 1, none⟩ = some (.int .i64 b) := by rw [hw]; exact h1
    have HW := Lib.hid hw
    clear hw h0 h1
    by_cases hlt1 : k = 1
    · subst hlt1
      go_wp2_with fail
      go_quiet (fail)
      go_wp2_with fail
      go_roundw
      case rel => exact ⟨2, by omega, by omega, by go_num, _, by rw [HW.out, drewN_add]⟩
      case measure => simp [intOf]
    · skip
      obtain rfl : k = 2 := by omega
      by_cases t0 : (calcB a) = true
      · have T0 := Lib.hid t0
        clear t0
        go_wp2_with fail
        go_quiet ((first | (go_at_call 57; exact Calls.quiet_of_same (calc_is _ _ T0.out _)) | (go_at_call 56; exact Calls.quiet_of_same (when_any _ _ _))))
        go_wp2_with (first | (go_at_call 57; refine (calc_any _ _).mono ?_; rintro e w' ⟨rfl, rfl⟩) | (go_at_call 56; refine (when_any _ _ _).mono ?_; rintro e w' ⟨rfl, rfl⟩))
        go_ret
        refine ⟨ret_int ?_, ⟨_, by rw [HW.out, drewN_add]⟩⟩
        (first | rfl | (simp only [T0.out]; rfl) | simp [whenS, mul2, div2, T0.out])
      · have U0 : Hid ((calcB a) = false) := by simpa [Hid] using t0
        clear t0
        go_wp2_with fail
        go_quiet ((first | (go_at_call 57; exact Calls.quiet_of_same (calc_is _ _ U0.out _)) | (go_at_call 56; exact Calls.quiet_of_same (when_any _ _ _))))
        go_wp2_with (first | (go_at_call 57; refine (calc_any _ _).mono ?_; rintro e w' ⟨rfl, rfl⟩) | (go_at_call 56; refine (when_any _ _ _).mono ?_; rintro e w' ⟨rfl, rfl⟩))
        go_ret
        refine ⟨ret_int ?_, ⟨_, by rw [HW.out, drewN_add]⟩⟩
        (first | rfl | (simp only [U0.out]; rfl) | simp [whenS, mul2, div2, U0.out])
set_option maxHeartbeats 4000000 in
set_option maxRecDepth 100000 in
theorem made_21 (l : List Int) (ad : Addr) (c : Nat) (w : World) (hl : 0 < l.length) (hm : l.length ≤ 9223372036854775807) (hc : ∀ k, k < l.length → w.cell? (ad.add k) = some (.int .i64 (l.getD k 0))) :
    Calls Try.prog 45 #[.int .i64 21, .slice (some ad) l.length c] w (Told (mostN (l.getD 0 0) l) w) := by
  have h0 : w.cell? ad = some (.int .i64 (l.getD 0 0)) := hc 0 hl
  obtain ⟨a, ha⟩ : ∃ a, a = l.getD 0 0 := ⟨_, rfl⟩
  rw [← ha] at h0 ⊢
  have HC := Lib.hid hc
  clear hc ha
  go_enter Try.func45, Try.ntmps45
  go_wp2_with fail
  go_loopw [5] (fun i wr => ∃ k : Nat, 1 ≤ k ∧ k ≤ l.length ∧ i = .int .i64 k ∧ (∃ m, wr = w.drewN m) ∧ ((l.drop 1).any fun x => x != a) = ((l.drop k).any fun x => x != a)) (fun i _ => l.length - (intOf i).toNat)
  case atStart => exact ⟨1, by omega, by omega, rfl, ⟨0, rfl⟩, rfl⟩
  case round =>
    obtain ⟨k, hk1, hk2, rfl, ⟨m, hw⟩, hany⟩ := hrel
    have g0 : wr.cell? ad = some (.int .i64 a) := by rw [hw]; exact h0
    have HY := Lib.hid hany
    by_cases hlt : k < l.length
    · have gk : wr.cell? (ad.add k) = some (.int .i64 (l.getD k 0)) := by rw [hw]; exact HC.out k hlt
      have hd : ((l.drop k).any fun x => x != a) = ((l.getD k 0 != a) || (l.drop (k + 1)).any fun x => x != a) := by
        rw [List.drop_eq_getElem_cons hlt, List.any_cons, List.getD_eq_getElem?_getD, List.getElem?_eq_getElem hlt]; rfl
      have HD := Lib.hid hd
      have HW := Lib.hid hw
      obtain ⟨x, hx⟩ : ∃ x, x = l.getD k 0 := ⟨_, rfl⟩
      rw [← hx] at gk
      have HX := Lib.hid hx
      clear hw hany hd hx h0
      by_cases hq : (x != a) = true
      · go_wp2_with fail
        go_quiet (fail)
        go_wp2_with fail
        go_ret
        refine ⟨ret_int ?_, ⟨_, by rw [HW.out, drewN_add]⟩⟩
        unfold mostN
        rw [HY.out, HD.out, ← HX.out, hq]
        rfl
      · have hq' : (x != a) = false := by simpa using hq
        clear hq
        go_wp2_with fail
        go_quiet (fail)
        go_wp2_with fail
        go_roundw
        case rel => exact ⟨k + 1, by omega, by omega, by go_num, ⟨_, by rw [HW.out, drewN_add]⟩, by rw [HY.out, HD.out, ← HX.out, hq', Bool.false_or]⟩
        case measure => simp [intOf]; omega
    · obtain rfl : k = l.length := by omega
      have HW := Lib.hid hw
      clear hw hany h0
      go_wp2_with fail
      go_quiet ((first | (go_at_call 57; exact Calls.quiet_of_same (calc_any _ _)) | (go_at_call 56; exact Calls.quiet_of_same (when_any _ _ _))))
      go_wp2_with fail
      go_ret
      refine ⟨ret_int ?_, ⟨_, by rw [HW.out, drewN_add]⟩⟩
      unfold mostN
      rw [HY.out, List.drop_length]
      rfl
set_option maxHeartbeats 4000000 in
set_option maxRecDepth 100000 in
theorem made_22 (l : List Int) (ad : Addr) (c : Nat) (w : World) (hl : 0 < l.length) (hm : l.length ≤ 9223372036854775807) (hc : ∀ k, k < l.length → w.cell? (ad.add k) = some (.int .i64 (l.getD k 0))) :
    Calls Try.prog 45 #[.int .i64 22, .slice (some ad) l.length c] w (Told (mostN (l.getD 0 0) l) w) := by
  have h0 : w.cell? ad = some (.int .i64 (l.getD 0 0)) := hc 0 hl
  obtain ⟨a, ha⟩ : ∃ a, a = l.getD 0 0 := ⟨_, rfl⟩
  rw [← ha] at h0 ⊢
  have HC := Lib.hid hc
  clear hc ha
  go_enter Try.func45, Try.ntmps45
  go_wp2_with fail
  go_loopw [5] (fun i wr => ∃ k : Nat, 1 ≤ k ∧ k ≤ l.length ∧ i = .int .i64 k ∧ (∃ m, wr = w.drewN m) ∧ ((l.drop 1).any fun x => x != a) = ((l.drop k).any fun x => x != a)) (fun i _ => l.length - (intOf i).toNat)
  case atStart => exact ⟨1, by omega, by omega, rfl, ⟨0, rfl⟩, rfl⟩
  case round =>
    obtain ⟨k, hk1, hk2, rfl, ⟨m, hw⟩, hany⟩ := hrel
    have g0 : wr.cell? ad = some (.int .i64 a) := by rw [hw]; exact h0
    have HY := Lib.hid hany
    by_cases hlt : k < l.length
    · have gk : wr.cell? (ad.add k) = some (.int .i64 (l.getD k 0)) := by rw [hw]; exact HC.out k hlt
      have hd : ((l.drop k).any fun x => x != a) = ((l.getD k 0 != a) || (l.drop (k + 1)).any fun x => x != a) := by
        rw [List.drop_eq_getElem_cons hlt, List.any_cons, List.getD_eq_getElem?_getD, List.getElem?_eq_getElem hlt]; rfl
      have HD := Lib.hid hd
      have HW := Lib.hid hw
      obtain ⟨x, hx⟩ : ∃ x, x = l.getD k 0 := ⟨_, rfl⟩
      rw [← hx] at gk
      have HX := Lib.hid hx
      clear hw hany hd hx h0
      by_cases hq : (x != a) = true
      · go_wp2_with fail
        go_quiet (fail)
        go_wp2_with fail
        go_ret
        refine ⟨ret_int ?_, ⟨_, by rw [HW.out, drewN_add]⟩⟩
        unfold mostN
        rw [HY.out, HD.out, ← HX.out, hq]
        rfl
      · have hq' : (x != a) = false := by simpa using hq
        clear hq
        go_wp2_with fail
        go_quiet (fail)
        go_wp2_with fail
        go_roundw
        case rel => exact ⟨k + 1, by omega, by omega, by go_num, ⟨_, by rw [HW.out, drewN_add]⟩, by rw [HY.out, HD.out, ← HX.out, hq', Bool.false_or]⟩
        case measure => simp [intOf]; omega
    · obtain rfl : k = l.length := by omega
      have HW := Lib.hid hw
      clear hw hany h0
      go_wp2_with fail
      go_quiet ((first | (go_at_call 57; exact Calls.quiet_of_same (calc_any _ _)) | (go_at_call 56; exact Calls.quiet_of_same (when_any _ _ _))))
      go_wp2_with fail
      go_ret
      refine ⟨ret_int ?_, ⟨_, by rw [HW.out, drewN_add]⟩⟩
      unfold mostN
      rw [HY.out, List.drop_length]
      rfl
end Go.Proofs.Ytpfnnamicbbobaa.HD
