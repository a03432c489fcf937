/- kind.alike: a contract typed by hand (a closure that slices.ContainsFunc calls). -/
import Derived.Test.YtpfnnamicbbobaaHS
import Derived.Test.YtpfnnamicbbobaaWWords
import Derived.Test.YtpfnnamicbbobaaProg
import Derived.Lib.Hide
import Derived.Deep.QuietTactic
import Derived.BigQuiet
namespace Go.Proofs.Ytpfnnamicbbobaa.HC
open Go.RowKit Go.Proofs.Ytpfnnamicbbobaa.HS Go.Proofs.YtpfnnamicbbobaaW.PrintWords
/-- Is some of a list not its first one, from a place on? -/
def odd (h : Int) (l : List Int) : Bool := l.any fun x => x != h
def Found (h : Int) (l : List Int) (w : World) (e : Ending) (w' : World) : Prop := ∃ r : Int, e = .returned (.int .i64 r) ∧ decide (0 ≤ r) = odd h l ∧ w = w'
set_option maxHeartbeats 1000000 in
theorem clos_any (x h : Int) (ad : Addr) (n c B : Nat) (w : World) (hn : 0 < n) (hb : w.cell? ⟨B, 0, none⟩ = some (.slice (some ad) n c)) (h0 : w.cell? ad = some (.int .i64 h)) :
    Calls Try.prog 70 #[.int .i64 x, .pointer (some ⟨B, 0, none⟩)] w fun e w' => e = .returned (.bool (x != h)) ∧ w = w' := by
  go_enter Try.func70, Try.ntmps70
  go_wp2
  go_ret
  exact ⟨rfl, rfl⟩
theorem odd_at (h : Int) (l : List Int) (k : Nat) (hk : k < l.length) : odd h (l.drop k) = ((l.getD k 0 != h) || odd h (l.drop (k + 1))) := by
  unfold odd
  rw [List.drop_eq_getElem_cons hk, List.any_cons, List.getD_eq_getElem?_getD, List.getElem?_eq_getElem hk]
  rfl
set_option maxHeartbeats 1000000 in
theorem index_any (l : List Int) (h : Int) (ad : Addr) (c B : Nat) (w : World) (hl : 0 < l.length) (hm : l.length ≤ 9223372036854775807) (hb : w.cell? ⟨B, 0, none⟩ = some (.slice (some ad) l.length c))
    (hc : ∀ k, k < l.length → w.cell? (ad.add k) = some (.int .i64 (l.getD k 0))) (hh : l.getD 0 0 = h) :
    Calls Try.prog 83 #[.slice (some ad) l.length c, .func (.func 70) #[] #[.pointer (some ⟨B, 0, none⟩)]] w (Found h l w) := by
  have h0 : w.cell? ad = some (.int .i64 h) := by rw [← hh]; exact hc 0 hl
  have HC := Lib.hid hc
  clear hc hh
  go_enter Try.func83, Try.ntmps83
  go_wp2_with fail
  go_loop [5, 8] (fun _ i => ∃ k : Nat, k ≤ l.length ∧ i = .int .i64 k ∧ odd h l = odd h (l.drop k)) (fun _ i => l.length - (intOf i).toNat)
  case atStart => exact ⟨0, Nat.zero_le _, rfl, by rw [List.drop_zero]⟩
  case round =>
    obtain ⟨k, hk, rfl, ho⟩ := hrel
    have HO := Lib.hid ho
    clear ho
    by_cases hlt : k < l.length
    · have hck := HC.out k hlt
      have ha := odd_at h l k hlt
      have HA := Lib.hid ha
      clear ha
      obtain ⟨x, hx⟩ : ∃ x, x = l.getD k 0 := ⟨_, rfl⟩
      rw [← hx] at hck
      have HX := Lib.hid hx
      clear hx
      by_cases hq : (x != h) = true
      · go_wp2_with (go_at_call 70; refine (clos_any _ h ad _ _ _ _ (by omega) hb h0).mono ?_; rintro e w' ⟨rfl, rfl⟩)
        go_ret
        exact ⟨k, rfl, by rw [HO.out, HA.out, ← HX.out, hq]; simp, rfl⟩
      · have hq' : (x != h) = false := by simpa using hq
        clear hq
        go_wp2_with (go_at_call 70; refine (clos_any _ h ad _ _ _ _ (by omega) hb h0).mono ?_; rintro e w' ⟨rfl, rfl⟩)
        go_round
        case rel => exact ⟨k + 1, by omega, by go_num, by rw [HO.out, HA.out, ← HX.out, hq', Bool.false_or]⟩
        case measure => simp [intOf]; omega
    · go_wp2_with fail
      go_ret
      refine ⟨-1, rfl, ?_, rfl⟩
      rw [HO.out, List.drop_eq_nil_of_le (by omega)]
      rfl
def Alike (l : List Int) (w : World) (e : Ending) (w' : World) : Prop := e = .returned (.bool ((l.getD 0 0 == 1 || l.getD 0 0 == 2) && !odd (l.getD 0 0) l)) ∧ Below w.heap.size w w'
set_option maxHeartbeats 1000000 in
theorem contains_any (l : List Int) (h : Int) (ad : Addr) (c B : Nat) (w : World) (hl : 0 < l.length) (hm : l.length ≤ 9223372036854775807) (hb : w.cell? ⟨B, 0, none⟩ = some (.slice (some ad) l.length c))
    (hc : ∀ k, k < l.length → w.cell? (ad.add k) = some (.int .i64 (l.getD k 0))) (hh : l.getD 0 0 = h) :
    Calls Try.prog 69 #[.slice (some ad) l.length c, .func (.func 70) #[] #[.pointer (some ⟨B, 0, none⟩)]] w fun e w' => e = .returned (.bool (odd h l)) ∧ w = w' := by
  have HX := Lib.hid (index_any l h ad c B w hl hm hb hc hh)
  clear hb hc hh
  go_enter Try.func69, Try.ntmps69
  go_wp2_with fail
  refine HX.out.mono ?_
  rintro e w' ⟨r, rfl, hr, rfl⟩
  have HR := Lib.hid hr
  clear hr
  go_wp2_with fail
  go_ret
  exact ⟨ret_bool HR.out, rfl⟩
set_option maxHeartbeats 1000000 in
theorem plain_any (x : Int) (w : World) : Calls Try.prog 65 #[.int .i64 x] w fun e w' => e = .returned (.bool (x == 1 || x == 2)) ∧ w = w' := by
  by_cases h1 : (x == 1) = true
  · go_enter Try.func65, Try.ntmps65
    go_wp2
    go_ret
    exact ⟨ret_bool (by rw [h1]; rfl), rfl⟩
  · have h1' : (x == 1) = false := by simpa using h1
    clear h1
    go_enter Try.func65, Try.ntmps65
    go_wp2
    go_ret
    exact ⟨ret_bool (by rw [h1']; rfl), rfl⟩
set_option maxHeartbeats 1000000 in
theorem alike_any (l : List Int) (ad : Addr) (c : Nat) (w : World) (hl : 0 < l.length) (hm : l.length ≤ 9223372036854775807)
    (hc : ∀ k, k < l.length → w.cell? (ad.add k) = some (.int .i64 (l.getD k 0))) :
    Calls Try.prog 55 #[.slice (some ad) l.length c] w (Alike l w) := by
  have h0 : w.cell? ad = some (.int .i64 (l.getD 0 0)) := hc 0 hl
  have hb : Below w.heap.size w (w.alloc (.cells #[.slice (some ad) l.length c] 36)) := (Below.refl _ _).alloc (Nat.le_refl _) _
  have HC := Lib.hid (fun k hk => pw_cell_below hb (hc k hk))
  have HB := Lib.hid hb
  have h0' := pw_cell_below hb h0
  obtain ⟨h, hh⟩ : ∃ h, h = l.getD 0 0 := ⟨_, rfl⟩
  rw [← hh] at h0'
  have HH := Lib.hid hh
  clear hc hh hb h0
  by_cases hp : (h == 1 || h == 2) = true
  · go_enter Try.func55, Try.ntmps55
    go_wp2_with (first | (go_at_call 65; refine (plain_any _ _).mono ?_; rintro e w' ⟨rfl, rfl⟩) | (go_at_call 69; refine (contains_any l h ad c _ _ hl hm (by simp) HC.out HH.out.symm).mono ?_; rintro e w' ⟨rfl, rfl⟩))
    go_ret
    exact ⟨ret_bool (by rw [← HH.out, hp]; rfl), HB.out⟩
  · have hp' : (h == 1 || h == 2) = false := by simpa using hp
    clear hp
    go_enter Try.func55, Try.ntmps55
    go_wp2_with (go_at_call 65; refine (plain_any _ _).mono ?_; rintro e w' ⟨rfl, rfl⟩)
    go_ret
    exact ⟨ret_bool (by rw [← HH.out, hp']; rfl), HB.out⟩
end Go.Proofs.Ytpfnnamicbbobaa.HC
