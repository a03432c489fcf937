/- Plain law, part 9: Put. -/
import Derived.Test.YtpfnnamicbbobaaPL7
import Derived.KernelRfl
namespace Go.Proofs.Ytpfnnamicbbobaa.PL
set_option linter.unusedSimpArgs false
open Go.RowKit Go.Proofs.YtpfnnamicbbobaaW.PrintWords Go.Proofs.YtpfnnamicbbobaaW.PrintMore Go.Proofs.Ytpfnnamicbbobaa.HS Go.Proofs.Ytpfnnamicbbobaa.PAll
theorem works_60 : tontinelaw18_works.f 60 = some true := by kernel_rfl
theorem works_ev : Ev (fun k => tontinelaw18_works.f k) true := Ev.of (tontinelaw18_works.mono) works_60
theorem checkF_len (l : List Nd) (h : checkF l = 0) : l.length ≤ 1024 := by
  unfold checkF at h
  split at h
  · cases h
  · omega
theorem checkF_long (l : List Nd) (h : l.length > 1024) : checkF l = 3 := if_pos h
/-- What comes of a formula that was put together. -/
def fin (out : List Nd) : List Nd × Int := if checkF out = 0 then (out, 0) else ([], checkF out)
theorem fin_long (l : List Nd) (h : l.length > 1024) : fin l = ([], 3) := by
  unfold fin
  rw [checkF_long l h]; rfl
def put1 (w : ByteArray) (g : List Nd) (x : Nd) : List Nd := if x.f0 = 5 ∧ x.f2.toList = w.toList then g else [x]
def puts (f : List Nd) (w : ByteArray) (g : List Nd) : List Nd := f.flatMap (put1 w g)
theorem small_puts (f : List Nd) (w : ByteArray) (g : List Nd) (hf : small f) (hg : small g) : small (puts f w g) := by
  intro x hx
  unfold puts at hx
  rw [List.mem_flatMap] at hx
  obtain ⟨y, hy, hx⟩ := hx
  unfold put1 at hx
  split at hx
  · exact hg x hx
  · rw [List.mem_singleton] at hx; exact hx ▸ hf y hy
theorem small_app (a b : List Nd) (ha : small a) (hb : small b) : small (a ++ b) := fun x hx => by
  rcases List.mem_append.mp hx with h | h
  · exact ha x h
  · exact hb x h
theorem small_drop (l : List Nd) (j : Nat) (h : small l) : small (l.drop j) := fun x hx => h x (List.mem_of_mem_drop hx)
section
variable (l : List Nd) (w : ByteArray) (g : List Nd) (hl : l.length ≤ 1024) (hs : small l) (hgl : g.length ≤ 1024) (hg : small g)
include hl hs hgl hg
theorem put_l : ∀ (m j : Nat) (acc : List Nd), l.length - j = m → j ≤ l.length → acc.length ≤ 2048 → small acc → Ev (fun k => kind_Put.l0 k w g acc l (l.length : Int) (j : Int)) (fin (acc ++ puts (l.drop j) w g)) := by
  intro m
  induction m with
  | zero =>
    intro j acc hm hj ha hsa
    rw [List.drop_eq_nil_of_le (by omega), show puts [] w g = [] from rfl, List.append_nil]
    refine Ev.step (fun k => by rw [kind_Put.l0]) ?_
    simp only [if_neg (show ¬ (j : Int) < (l.length : Int) by omega)]
    refine Ev.bind (check_ev acc hsa) ?_
    unfold fin
    by_cases h : checkF acc = 0
    · simp only [if_pos h]; exact Ev.const
    · simp only [if_neg h]; exact Ev.const
  | succ m ih =>
    intro j acc hm hj ha hsa
    have hlt : j < l.length := by omega
    have hmem := rd_mem l j hlt
    rw [rd_drop l j hlt]
    refine Ev.step (fun k => by rw [kind_Put.l0]) ?_
    generalize hx : rd_T56 l (j : Int) = x at hmem ⊢
    simp only [if_pos (show (j : Int) < (l.length : Int) by omega), if_pos (show (0 : Int) ≤ (j : Int) by omega), hx]
    rw [show puts (x :: l.drop (j + 1)) w g = put1 w g x ++ puts (l.drop (j + 1)) w g from rfl, ← List.append_assoc]
    have go : ∀ y : List Nd, small y → Ev (fun k => if (y.length : Int) > 2048 then some (([] : List Nd), (3 : Int)) else kind_Put.l0 k w g y l (l.length : Int) (wrap64 ((j : Int) + 1))) (fin (y ++ puts (l.drop (j + 1)) w g)) := by
      intro y hy
      by_cases h : (y.length : Int) > 2048
      · simp only [if_pos h]
        rw [fin_long _ (by rw [List.length_append]; omega)]; exact Ev.const
      · simp only [if_neg h, succ64 j _ hlt (by omega)]
        exact ih (j + 1) y (by omega) (by omega) (by omega) hy
    have yes : x.f0 = 5 ∧ x.f2.toList = w.toList → Ev (fun k => kind_Put.j1 k w g acc l (l.length : Int) (j : Int) true x.f0 x.f1 x.f2) (fin (acc ++ put1 w g x ++ puts (l.drop (j + 1)) w g)) := by
      intro hq
      refine Ev.step (fun k => by rw [kind_Put.j1]) ?_
      simp only [if_true, if_pos (show acc.length + g.length < 4398046511104 by omega), Option.bind_some]
      rw [show put1 w g x = g from if_pos hq]
      exact go _ (small_app _ _ hsa hg)
    have no : ¬ (x.f0 = 5 ∧ x.f2.toList = w.toList) → Ev (fun k => kind_Put.j1 k w g acc l (l.length : Int) (j : Int) false x.f0 x.f1 x.f2) (fin (acc ++ put1 w g x ++ puts (l.drop (j + 1)) w g)) := by
      intro hq
      refine Ev.step (fun k => by rw [kind_Put.j1]) ?_
      simp only [Bool.false_eq_true, if_false, if_pos (show acc.length < 4398046511104 by omega), Option.bind_some]
      rw [show put1 w g x = [x] from if_neg hq]
      exact go _ (small_app _ _ hsa (fun z hz => by rw [List.mem_singleton] at hz; exact hz ▸ hs x hmem))
    by_cases h5 : x.f0 = 5
    · simp only [if_pos h5]
      by_cases h6 : x.f2.toList = w.toList
      · simp only [beq_iff_eq.mpr h6]; exact yes ⟨h5, h6⟩
      · simp only [beq_eq_false_iff_ne.mpr h6]; exact no (fun q => h6 q.2)
    · simp only [if_neg h5]; exact no (fun q => h5 q.1)
theorem rput_l : ∀ (m j : Nat) (acc : List Nd), l.length - j = m → j ≤ l.length → acc.length ≤ 2048 → small acc → Ev (fun k => tontineref18_Put.l0 k l w g acc (j : Int)) (fin (acc ++ puts (l.drop j) w g)) := by
  have ends : ∀ (acc : List Nd) (j : Int), small acc → Ev (fun k => tontineref18_Put.j1 k l w g acc j false) (fin acc) := by
    intro acc j hsa
    refine Ev.step (fun k => by rw [tontineref18_Put.j1]) ?_
    simp only [Bool.false_eq_true, if_false]
    refine Ev.bind (rcheck_ev acc hsa) ?_
    unfold fin
    by_cases h : checkF acc = 0
    · simp only [if_pos h]; exact Ev.const
    · simp only [if_neg h]; exact Ev.const
  intro m
  induction m with
  | zero =>
    intro j acc hm hj ha hsa
    rw [List.drop_eq_nil_of_le (by omega), show puts [] w g = [] from rfl, List.append_nil]
    refine Ev.step (fun k => by rw [tontineref18_Put.l0]) ?_
    simp only [if_neg (show ¬ (j : Int) < (l.length : Int) by omega)]
    exact ends acc _ hsa
  | succ m ih =>
    intro j acc hm hj ha hsa
    have hlt : j < l.length := by omega
    have hmem := rd_mem l j hlt
    rw [rd_drop l j hlt]
    refine Ev.step (fun k => by rw [tontineref18_Put.l0]) ?_
    generalize hx : rd_T56 l (j : Int) = x at hmem ⊢
    simp only [if_pos (show (j : Int) < (l.length : Int) by omega)]
    by_cases ha2 : acc.length ≤ 1024
    · rw [decide_eq_true (show (acc.length : Int) ≤ 1024 by omega)]
      refine Ev.step (fun k => by rw [tontineref18_Put.j1]) ?_
      simp only [if_true, if_pos (show (0 : Int) ≤ (j : Int) by omega), if_pos (show (j : Int) < (l.length : Int) by omega), hx]
      rw [show puts (x :: l.drop (j + 1)) w g = put1 w g x ++ puts (l.drop (j + 1)) w g from rfl, ← List.append_assoc]
      have hp : (put1 w g x).length ≤ 1024 := by unfold put1; split; exact hgl; simp
      have hps : small (put1 w g x) := by
        unfold put1
        split
        · exact hg
        · exact fun z hz => by rw [List.mem_singleton] at hz; exact hz ▸ hs x hmem
      have go := ih (j + 1) (acc ++ put1 w g x) (by omega) (by omega) (by rw [List.length_append]; omega) (small_app _ _ hsa hps)
      by_cases h5 : x.f0 = 5
      · simp only [if_pos h5]
        by_cases h6 : x.f2.toList = w.toList
        · simp only [if_pos h6, if_pos (show acc.length + g.length < 4398046511104 by omega), succ64 j _ hlt (by omega)]
          rw [show put1 w g x = g from if_pos ⟨h5, h6⟩] at go ⊢
          exact go
        · simp only [if_neg h6, if_pos (show acc.length < 4398046511104 by omega), succ64 j _ hlt (by omega)]
          rw [show put1 w g x = [x] from if_neg (fun q => h6 q.2)] at go ⊢
          exact go
      · simp only [if_neg h5, if_pos (show acc.length < 4398046511104 by omega), succ64 j _ hlt (by omega)]
        rw [show put1 w g x = [x] from if_neg (fun q => h5 q.1)] at go ⊢
        exact go
    · rw [decide_eq_false (show ¬ (acc.length : Int) ≤ 1024 by omega), fin_long _ (by rw [List.length_append]; omega), ← fin_long acc (by omega)]
      exact ends acc _ hsa
end
/-- What Put answers. -/
def putS (f : List Nd) (w : ByteArray) (g : List Nd) : List Nd × Int :=
  if checkF f = 0 then (if named w.data.toList = true then (if checkF g = 0 then fin (puts f w g) else ([], checkF g)) else ([], 2)) else ([], checkF f)
theorem put_ev (f : List Nd) (w : ByteArray) (g : List Nd) (hf : small f) (hw : w.size ≤ 9223372036854775807) (hg : small g) : Ev (fun k => kind_Put.f k f w g) (putS f w g) := by
  unfold kind_Put.f putS
  refine Ev.bind (check_ev f hf) ?_
  by_cases h1 : checkF f = 0
  · simp only [if_pos h1]
    refine Ev.bind (isName_ev w hw) ?_
    cases named w.data.toList with
    | false => exact Ev.const
    | true =>
      simp only [if_true]
      refine Ev.bind (check_ev g hg) ?_
      by_cases h2 : checkF g = 0
      · simp only [if_pos h2]
        have := put_l f w g (checkF_len f h1) hf (checkF_len g h2) hg f.length 0 [] (by omega) (by omega) (by simp) (fun x hx => by cases hx)
        exact this
      · simp only [if_neg h2]; exact Ev.const
  · simp only [if_neg h1]; exact Ev.const
theorem rput_ev (f : List Nd) (w : ByteArray) (g : List Nd) (hf : small f) (hw : w.size ≤ 9223372036854775807) (hg : small g) : Ev (fun k => tontineref18_Put.f k f w g) (putS f w g) := by
  unfold tontineref18_Put.f putS
  refine Ev.bind (rcheck_ev f hf) ?_
  by_cases h1 : checkF f = 0
  · simp only [if_pos h1]
    refine Ev.bind (Name_ev w hw) ?_
    cases named w.data.toList with
    | false => exact Ev.const
    | true =>
      simp only [if_true]
      refine Ev.bind (rcheck_ev g hg) ?_
      by_cases h2 : checkF g = 0
      · simp only [if_pos h2]
        have := rput_l f w g (checkF_len f h1) hf (checkF_len g h2) hg f.length 0 [] (by omega) (by omega) (by simp) (fun x hx => by cases hx)
        exact this
      · simp only [if_neg h2]; exact Ev.const
  · simp only [if_neg h1]; exact Ev.const
theorem same_l (l : List Nd) (hl : l.length ≤ 9223372036854775807) : ∀ (m j : Nat), l.length - j = m → j ≤ l.length → Ev (fun k => tontinelaw18_same.l0 k l l (l.length : Int) (j : Int)) true := by
  intro m
  induction m with
  | zero =>
    intro j hm hj
    refine Ev.step (fun k => by rw [tontinelaw18_same.l0]) ?_
    simp only [if_neg (show ¬ (j : Int) < (l.length : Int) by omega)]
    exact Ev.const
  | succ m ih =>
    intro j hm hj
    have hlt : j < l.length := by omega
    refine Ev.step (fun k => by rw [tontinelaw18_same.l0]) ?_
    simp only [if_pos (show (j : Int) < (l.length : Int) by omega), if_pos (show (0 : Int) ≤ (j : Int) by omega), beq_self_eq_true, Bool.not_true, Bool.or_false, Bool.false_eq_true, if_false, succ64 j _ hlt hl]
    exact ih (j + 1) (by omega) (by omega)
theorem same_ev (l : List Nd) (hl : l.length ≤ 9223372036854775807) : Ev (fun k => tontinelaw18_same.f k l l) true := by
  unfold tontinelaw18_same.f
  simp only [if_true]
  exact same_l l hl l.length 0 (by omega) (by omega)
theorem copied_eq (l : List Nd) (hl : l.length < 4398046511104) : tontinelaw18_copied.f l = some l := by
  unfold tontinelaw18_copied.f
  rw [Option.bind_some, if_pos (by simpa using hl)]; rfl
theorem putS_len (f : List Nd) (w : ByteArray) (g : List Nd) : (putS f w g).1.length ≤ 1024 := by
  unfold putS fin
  split
  · split
    · split
      · split
        · exact checkF_len _ (by assumption)
        · simp
      · simp
    · simp
  · simp
theorem puts_l (f g : List Nd) (hf : f.length < 4398046511104) (hg : g.length < 4398046511104) : ∀ (m j : Nat) (a : List Nd), a.length - j = m → j ≤ a.length → a.length ≤ 1024 → Ev (fun k => tontinelaw18_KindPuts.l0 k f g f g a (a.length : Int) (j : Int)) true := by
  intro m
  induction m with
  | zero =>
    intro j a hm hj ha
    refine Ev.step (fun k => by rw [tontinelaw18_KindPuts.l0]) ?_
    simp only [if_neg (show ¬ (j : Int) < (a.length : Int) by omega)]
    refine Ev.bind (same_ev f (by omega)) ?_
    simp only [if_true]
    refine Ev.bind (same_ev g (by omega)) ?_
    simp only [if_true]
    exact Ev.bind works_ev Ev.const
  | succ m ih =>
    intro j a hm hj ha
    have hlt : j < a.length := by omega
    refine Ev.step (fun k => by rw [tontinelaw18_KindPuts.l0]) ?_
    simp only [if_pos (show (j : Int) < (a.length : Int) by omega), if_pos (show (0 : Int) ≤ (j : Int) by omega), succ64 j _ hlt (by omega)]
    have := ih (j + 1) (a.set ((j : Int).toNat) ⟨77, 0, ⟨#[]⟩⟩) (by rw [List.length_set]; omega) (by rw [List.length_set]; omega) (by rw [List.length_set]; omega)
    rw [List.length_set] at this
    exact this
theorem kindPuts_ev (f : List Nd) (w : ByteArray) (g : List Nd) (hf : small f) (hfl : f.length < 4398046511104) (hw : w.size ≤ 9223372036854775807) (hg : small g) (hgl : g.length < 4398046511104) : Ev (fun k => tontinelaw18_KindPuts.f k f w g) true := by
  unfold tontinelaw18_KindPuts.f
  refine Ev.bindc (copied_eq f hfl) ?_
  refine Ev.bindc (copied_eq g hgl) ?_
  refine Ev.bind (put_ev f w g hf hw hg) ?_
  refine Ev.bind (rput_ev f w g hf hw hg) ?_
  have hl := putS_len f w g
  refine Ev.bind (same_ev _ (by omega)) ?_
  simp only [if_true, bne_self_eq_false]
  refine Ev.step (fun k => by rw [tontinelaw18_KindPuts.j0]) ?_
  simp only [Bool.false_eq_true, if_false]
  exact puts_l f g hfl hgl _ 0 _ rfl (by omega) hl
end Go.Proofs.Ytpfnnamicbbobaa.PL
