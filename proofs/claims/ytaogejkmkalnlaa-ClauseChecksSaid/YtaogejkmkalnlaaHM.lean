/- Maps from plain keys to ints: what a block holds, in the order of insertion; look-up and update as equations of runs. No program. -/
import Derived.WalkKit
import Derived.Lib.Hide
import Derived.Lib.SlicesS
namespace Go.Proofs.Ytaogejkmkalnlaa.HM
set_option linter.unusedSectionVars false
set_option linter.unusedSimpArgs false
open Go.RowKit
section
variable {κ : Type} [DecidableEq κ]
def mget (l : List (κ × Int)) (k : κ) : Option Int := (l.find? fun p => decide (k = p.1)).map (·.2)
def mput : List (κ × Int) → κ → Int → List (κ × Int)
  | [], k, v => [(k, v)]
  | p :: r, k, v => if k = p.1 then (k, v) :: r else p :: mput r k v
theorem mget_nil (k : κ) : mget ([] : List (κ × Int)) k = none := rfl
theorem mget_cons (p : κ × Int) (r : List (κ × Int)) (k : κ) : mget (p :: r) k = if k = p.1 then some p.2 else mget r k := by
  unfold mget
  rw [List.find?_cons]
  by_cases h : k = p.1 <;> simp [h]
theorem mget_put (l : List (κ × Int)) (k k' : κ) (v : Int) : mget (mput l k v) k' = if k' = k then some v else mget l k' := by
  induction l with
  | nil => simp [mput, mget_cons, mget_nil]
  | cons p r ih =>
    unfold mput
    by_cases h : k = p.1
    · rw [if_pos h, mget_cons, mget_cons]
      by_cases h2 : k' = k
      · simp [h2]
      · rw [if_neg h2, if_neg h2, if_neg (by rw [← h]; exact h2)]
    · rw [if_neg h, mget_cons, mget_cons, ih]
      by_cases h2 : k' = p.1
      · rw [if_pos h2, if_pos h2, if_neg (by rw [h2]; exact fun e => h e.symm)]
      · rw [if_neg h2, if_neg h2]
def pairs (kk : κ → Value) (l : List (κ × Int)) : List (Value × Value) := l.map fun p => (kk p.1, Value.int .i64 p.2)
def pairsOf (es : List MapEntry) : List (Value × Value) := es.map fun e => (e.key, e.val)
/-- Block b is a map that holds l, in the order in which keys came in. -/
def MapIs (kk : κ → Value) (w : World) (b : Nat) (l : List (κ × Int)) : Prop := ∃ es clk, w.heap[b]? = some (.map es clk) ∧ pairsOf es.toList = pairs kk l
theorem MapIs.lt {kk : κ → Value} {w : World} {b : Nat} {l : List (κ × Int)} (h : MapIs kk w b l) : b < w.heap.size := by
  obtain ⟨es, clk, h, _⟩ := h
  exact (Array.getElem?_eq_some_iff.1 h).1
theorem MapIs.same {kk : κ → Value} {w w1 : World} {b : Nat} {l : List (κ × Int)} (h : MapIs kk w b l) (e : w1.heap[b]? = w.heap[b]?) : MapIs kk w1 b l := by
  obtain ⟨es, clk, h, r⟩ := h
  exact ⟨es, clk, e.trans h, r⟩
theorem MapIs.below {kk : κ → Value} {w w1 : World} {b : Nat} {l : List (κ × Int)} (h : MapIs kk w b l) (hb : Below w.heap.size w w1) : MapIs kk w1 b l := h.same (hb.block b h.lt)
theorem MapIs.made (kk : κ → Value) (w : World) : MapIs kk (w.alloc (.map #[] 0)) w.heap.size ([] : List (κ × Int)) := ⟨#[], 0, heap_alloc_new w _, rfl⟩
structure KeyLaw (d : TypeDesc) (kk : κ → Value) : Prop where
  same : ∀ a b, Instr.sameNow d (kk a) (kk b) = some (decide (a = b))
  bits : ∀ a, Instr.sameBits 10000 (kk a) (kk a) = true
theorem bytes_beq (a b : ByteArray) : (a == b) = true ↔ a = b := by
  rw [beq_toListBytes]
  exact Lib.bytes_beq_iff a b
theorem string_law : KeyLaw (.string) (Value.string) := ⟨fun a b => by simp only [Instr.sameNow]; congr 1; rw [Bool.eq_iff_iff, bytes_beq]; simp, fun a => by simp [Instr.sameBits, bytes_beq]⟩
theorem int_law : KeyLaw (.int .i64) (Value.int .i64) := ⟨fun a b => by simp only [Instr.sameNow, if_pos]; congr 1, fun a => by simp [Instr.sameBits]⟩
theorem find_none {d : TypeDesc} {kk : κ → Value} (K : KeyLaw d kk) (k : κ) : ∀ (es : List MapEntry) (l : List (κ × Int)) (i : Nat), pairsOf es = pairs kk l → mget l k = none → Instr.findNow d (kk k) es i = some none ∧ ∀ v, mput l k v = l ++ [(k, v)]
  | [], [], i, _, _ => ⟨rfl, fun _ => rfl⟩
  | [], _ :: _, _, h, _ => by simp [pairsOf, pairs] at h
  | _ :: _, [], _, h, _ => by simp [pairsOf, pairs] at h
  | e :: es, p :: l, i, h, hg => by
    simp only [pairsOf, pairs, List.map_cons, List.cons.injEq, Prod.mk.injEq] at h
    obtain ⟨⟨h1, h2⟩, h3⟩ := h
    rw [mget_cons] at hg
    have hne : ¬ k = p.1 := fun e => by rw [if_pos e] at hg; cases hg
    rw [if_neg hne] at hg
    obtain ⟨r1, r2⟩ := find_none K k es l (i + 1) h3 hg
    refine ⟨?_, fun v => ?_⟩
    · unfold Instr.findNow
      rw [h1, K.same, decide_eq_false hne]
      exact r1
    · unfold mput
      rw [if_neg hne, r2 v]
      rfl
theorem find_some {d : TypeDesc} {kk : κ → Value} (K : KeyLaw d kk) (k : κ) (x : Int) : ∀ (es : List MapEntry) (l : List (κ × Int)) (i : Nat), pairsOf es = pairs kk l → mget l k = some x →
    ∃ j, Instr.findNow d (kk k) es i = some (some (i + j, .int .i64 x)) ∧ (es[j]?).map (·.key) = some (kk k) ∧ ∀ (v : Int) (f : MapEntry → MapEntry), (∀ e, f e = { e with key := kk k, val := .int .i64 v }) → pairsOf (es.modify j f) = pairs kk (mput l k v)
  | [], [], i, _, h => by simp [mget_nil] at h
  | [], _ :: _, _, h, _ => by simp [pairsOf, pairs] at h
  | _ :: _, [], _, h, _ => by simp [pairsOf, pairs] at h
  | e :: es, p :: l, i, h, hg => by
    simp only [pairsOf, pairs, List.map_cons, List.cons.injEq, Prod.mk.injEq] at h
    obtain ⟨⟨h1, h2⟩, h3⟩ := h
    rw [mget_cons] at hg
    by_cases hk : k = p.1
    · rw [if_pos hk] at hg
      obtain rfl := Option.some.inj hg
      refine ⟨0, ?_, ?_, fun v f hf => ?_⟩
      · unfold Instr.findNow
        rw [h1, K.same, decide_eq_true hk, h2]
        rfl
      · simp [h1, hk]
      · unfold mput
        rw [if_pos hk, List.modify_zero_cons, hf]
        simp only [pairsOf, pairs, List.map_cons]
        rw [show List.map (fun e => (e.key, e.val)) es = _ from h3]
    · rw [if_neg hk] at hg
      obtain ⟨j, r1, r2, r3⟩ := find_some K k x es l (i + 1) h3 hg
      refine ⟨j + 1, ?_, ?_, fun v f hf => ?_⟩
      · unfold Instr.findNow
        rw [h1, K.same, decide_eq_false hk]
        rw [show i + (j + 1) = i + 1 + j by omega]
        exact r1
      · simpa using r2
      · unfold mput
        rw [if_neg hk, List.modify_succ_cons]
        have := r3 v f hf
        simp only [pairsOf, pairs, List.map_cons] at this ⊢
        rw [this, h1, h2]
end
section
variable {P : Program} {κ : Type} [DecidableEq κ]
/-- What a key's type must be: its desc is plain. -/
def Plain (d : TypeDesc) : Prop := d = .string ∨ d = .int .i64
theorem check_plain {t : TypeId} {d : TypeDesc} (hp : Plain d) (ht : P.underlying t = some d) (b : Bool) (v : Value) (w : World) : (Instr.checkKey b 10000 t v).run P w = .ok () w := by
  rw [show (10000 : Nat) = 9999 + 1 from rfl, Instr.checkKey]
  rcases hp with rfl | rfl <;> simp [run_underlying ht]
theorem run_lookup {kk : κ → Value} {t key elem : TypeId} {d : TypeDesc} (hp : Plain d) (K : KeyLaw d kk) (ht : P.underlying t = some (.map key elem)) (hk : P.underlying key = some d) (hz : ∀ w, (zeroValue elem).run P w = .ok (.int .i64 0) w)
    {w : World} {b : Nat} {l : List (κ × Int)} (h : MapIs kk w b l) (k : κ) (ok : Bool) :
    (Instr.lookup t (.map (some b)) (kk k) ok).run P w = .ok (if ok then .tuple #[.int .i64 ((mget l k).getD 0), .bool (mget l k).isSome] else .int .i64 ((mget l k).getD 0)) w := by
  obtain ⟨es, clk, hb, hl⟩ := h
  cases hg : mget l k with
  | none =>
    obtain ⟨r, _⟩ := find_none K k es.toList l 0 hl hg
    simp [Instr.lookup, run_underlying ht, hb, check_plain hp hk, Instr.findKey, run_underlying hk, r, hz, Sem.run, getObj]
  | some x =>
    obtain ⟨j, r, _⟩ := find_some K k x es.toList l 0 hl hg
    simp [Instr.lookup, run_underlying ht, hb, check_plain hp hk, Instr.findKey, run_underlying hk, r, hz, Sem.run, getObj]
theorem run_update {kk : κ → Value} {t key elem : TypeId} {d : TypeDesc} (hp : Plain d) (K : KeyLaw d kk) (ht : P.underlying t = some (.map key elem)) (hk : P.underlying key = some d)
    {w : World} {b : Nat} {l : List (κ × Int)} (h : MapIs kk w b l) (k : κ) (v : Int) :
    ∃ w', (Instr.mapUpdate t (.map (some b)) (kk k) (.int .i64 v)).run P w = .ok () w' ∧ MapIs kk w' b (mput l k v) ∧ w.grownBy w' (some b) := by
  have hlt := h.lt
  obtain ⟨es, clk, hb, hl⟩ := h
  have keep : ∀ (es' : Array MapEntry) (c : Nat), w.grownBy { w with heap := w.heap.setIfInBounds b (.map es' c) } (some b) := fun es' c =>
    ⟨rfl, rfl, rfl, by simp, fun i hi hne => by
      have : ¬ b = i := fun e => hne (by rw [e])
      simp [Array.getElem?_setIfInBounds, this]⟩
  have self : ∀ (es' : Array MapEntry) (c : Nat), ({ w with heap := w.heap.setIfInBounds b (.map es' c) } : World).heap[b]? = some (.map es' c) := fun es' c => by
    simp [Array.getElem?_setIfInBounds, hlt]
  cases hg : mget l k with
  | none =>
    obtain ⟨r, hput⟩ := find_none K k es.toList l 0 hl hg
    refine ⟨_, ?_, ⟨es.push { key := kk k, val := .int .i64 v, born := clk }, clk + 1, self _ _, ?_⟩, keep _ _⟩
    · simp [Instr.mapUpdate, run_underlying ht, hb, check_plain hp hk, Instr.findKey, run_underlying hk, r, Sem.run, getObj, setObj]
    · rw [hput v]
      simp only [pairsOf, pairs, Array.toList_push, List.map_append] at hl ⊢
      rw [hl]
      rfl
  | some x =>
    obtain ⟨j, r, hkey, hmod⟩ := find_some K k x es.toList l 0 hl hg
    refine ⟨_, ?_, ⟨es.modify j fun e => { e with key := kk k, val := .int .i64 v }, clk, self _ _, ?_⟩, keep _ _⟩
    · have hkey' : ((es[j]?).map (·.key)).getD (kk k) = kk k := by
        rw [← Array.getElem?_toList, hkey]; rfl
      simp [Instr.mapUpdate, run_underlying ht, hb, check_plain hp hk, Instr.findKey, run_underlying hk, r, Sem.run, getObj, setObj, Instr.keyThatStays, hkey', K.bits]
    · rw [Array.toList_modify]
      exact hmod v _ fun _ => rfl
end
section
variable {P : Program} {κ : Type} [DecidableEq κ]
/-- A look-up at the operation, for the walk. -/
theorem wpList_look {ops : Array Oper} {rest : List Oper} {o : Oper} {a : Act} {w : World} {Q : Exit → Act → World → Prop} (hgd : o.guard = none) (m x : Operand) (t : TypeId) (hop : o.op = .lookup t m x false)
    {kk : κ → Value} {key elem : TypeId} {d : TypeDesc} (hp : Plain d) (K : KeyLaw d kk) (ht : P.underlying t = some (.map key elem)) (hk : P.underlying key = some d) (hz : ∀ w, (zeroValue elem).run P w = .ok (.int .i64 0) w)
    {b : Nat} {l : List (κ × Int)} (h : MapIs kk w b l) (hm : a.eval m = .map (some b)) (k : κ) (hx : a.eval x = kk k) (hK : wpList P ops Q rest (a.put o.dst (.int .i64 ((mget l k).getD 0))) w) : wpList P ops Q (o :: rest) a w := by
  refine wpList_plain hgd fun K' hK' => ?_
  have hrun := run_lookup (P := P) hp K ht hk hz h k false
  unfold Oper.wp execOp
  simp only [hop, hm, hx, Sem.run_bind, hrun, Result.andThen_ok, Sem.run_pure, Oper.upon_value, Bool.false_eq_true, if_false]
  exact hK' _ _ hK
/-- 'v, ok := m[k]'. -/
theorem wpList_look_ok {ops : Array Oper} {rest : List Oper} {o : Oper} {a : Act} {w : World} {Q : Exit → Act → World → Prop} (hgd : o.guard = none) (m x : Operand) (t : TypeId) (hop : o.op = .lookup t m x true)
    {kk : κ → Value} {key elem : TypeId} {d : TypeDesc} (hp : Plain d) (K : KeyLaw d kk) (ht : P.underlying t = some (.map key elem)) (hk : P.underlying key = some d) (hz : ∀ w, (zeroValue elem).run P w = .ok (.int .i64 0) w)
    {b : Nat} {l : List (κ × Int)} (h : MapIs kk w b l) (hm : a.eval m = .map (some b)) (k : κ) (hx : a.eval x = kk k) (hK : wpList P ops Q rest (a.put o.dst (.tuple #[.int .i64 ((mget l k).getD 0), .bool (mget l k).isSome])) w) : wpList P ops Q (o :: rest) a w := by
  refine wpList_plain hgd fun K' hK' => ?_
  have hrun := run_lookup (P := P) hp K ht hk hz h k true
  unfold Oper.wp execOp
  simp only [hop, hm, hx, Sem.run_bind, hrun, Result.andThen_ok, Sem.run_pure, Oper.upon_value, if_true]
  exact hK' _ _ hK
/-- 'm[k] = v' at the operation. -/
theorem wpList_mput {ops : Array Oper} {rest : List Oper} {o : Oper} {a : Act} {w : World} {Q : Exit → Act → World → Prop} (hgd : o.guard = none) (m x y : Operand) (t : TypeId) (hop : o.op = .mapUpdate t m x y)
    {kk : κ → Value} {key elem : TypeId} {d : TypeDesc} (hp : Plain d) (K : KeyLaw d kk) (ht : P.underlying t = some (.map key elem)) (hk : P.underlying key = some d)
    {b : Nat} {l : List (κ × Int)} (h : MapIs kk w b l) (hm : a.eval m = .map (some b)) (k : κ) (hx : a.eval x = kk k) (v : Int) (hy : a.eval y = .int .i64 v)
    (hK : ∀ w', MapIs kk w' b (mput l k v) → w.grownBy w' (some b) → wpList P ops Q rest (a.put o.dst undef) w') : wpList P ops Q (o :: rest) a w := by
  refine wpList_plain hgd fun K' hK' => ?_
  obtain ⟨w', hrun, r1, r2⟩ := run_update (P := P) hp K ht hk h k v
  unfold Oper.wp execOp
  simp only [hop, hm, hx, hy, Sem.run_bind, hrun, Result.andThen_ok, Sem.run_pure, Oper.upon_skip]
  exact hK' _ _ (hK w' r1 r2)
end
end Go.Proofs.Ytaogejkmkalnlaa.HM
