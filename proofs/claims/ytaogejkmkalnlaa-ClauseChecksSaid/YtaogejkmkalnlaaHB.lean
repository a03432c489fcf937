/- clause.isKept, and the document's Kept: contracts typed by hand. -/
import Derived.Test.YtaogejkmkalnlaaHS
import Derived.Test.YtaogejkmkalnlaaShelf
import Derived.Deep.WholeRow
import Derived.KernelRfl
import Derived.Lib.Hide
namespace Go.Proofs.Ytaogejkmkalnlaa.HB
open Go.RowKit Go.Proofs.Ytaogejkmkalnlaa.HS
def keptText : List UInt8 := [32, 112, 114, 111, 100, 117, 99, 116, 32, 103, 105, 118, 101, 110, 32, 108, 101, 116, 32, 121, 101, 97, 114, 115, 32, 112, 114, 101, 109, 105, 117, 109, 32, 99, 111, 115, 116, 32, 100, 101, 97, 116, 104, 32, 108, 105, 118, 101, 32, 110, 117, 109, 98, 101, 114, 32, 109, 111, 110, 101, 121, 32, 116, 114, 117, 116, 104, 32, 102, 114, 111, 109, 32, 116, 111, 32, 105, 115, 32, 105, 102, 32, 116, 104, 101, 110, 32, 101, 108, 115, 101, 32, 97, 110, 100, 32, 111, 114, 32, 110, 111, 116, 32, 116, 114, 117, 101, 32, 102, 97, 108, 115, 101, 32, 109, 105, 110, 32, 109, 97, 120, 32, 114, 111, 117, 110, 100, 32]
set_option maxHeartbeats 1000000 in
set_option maxRecDepth 100000 in
theorem isKept_any (s : ByteArray) (w : World) (m : Int) (hs : s.size ≤ 24) (hm : w.cell? ⟨0, 0, none⟩ = some (.int .i64 m)) :
    Calls Try.prog 34 #[.string s] w fun e w' => e = .returned (.bool (Lib.contains keptText (32 :: (s.data.toList ++ [32])))) ∧ w = w' := by
  go_enter Try.func34, Try.ntmps34
  go_wp2_with fail
  refine (Try.strings_Contains ⟨keptText.toArray⟩ _ m w (by decide) hm).mono ?_
  rintro e w' ⟨rfl, rfl⟩
  go_wp2_with fail
  go_ret
  refine ⟨ret_bool ?_, rfl⟩
  congr 1
/-- The document's kept words. -/
def keptWs : List ByteArray := [⟨#[112, 114, 111, 100, 117, 99, 116]⟩, ⟨#[103, 105, 118, 101, 110]⟩, ⟨#[108, 101, 116]⟩, ⟨#[121, 101, 97, 114, 115]⟩, ⟨#[112, 114, 101, 109, 105, 117, 109]⟩, ⟨#[99, 111, 115, 116]⟩, ⟨#[100, 101, 97, 116, 104]⟩, ⟨#[108, 105, 118, 101]⟩, ⟨#[110, 117, 109, 98, 101, 114]⟩, ⟨#[109, 111, 110, 101, 121]⟩, ⟨#[116, 114, 117, 116, 104]⟩, ⟨#[102, 114, 111, 109]⟩, ⟨#[116, 111]⟩, ⟨#[105, 115]⟩, ⟨#[105, 102]⟩, ⟨#[116, 104, 101, 110]⟩, ⟨#[101, 108, 115, 101]⟩, ⟨#[97, 110, 100]⟩, ⟨#[111, 114]⟩, ⟨#[110, 111, 116]⟩, ⟨#[116, 114, 117, 101]⟩, ⟨#[102, 97, 108, 115, 101]⟩, ⟨#[109, 105, 110]⟩, ⟨#[109, 97, 120]⟩, ⟨#[114, 111, 117, 110, 100]⟩]
def keptVals : Array Value := (keptWs.map Value.string).toArray
def keptB (s : ByteArray) : Bool := keptWs.any fun x => x.toList == s.toList
theorem wp_world {P : Program} {c : Code} {Q : Exit → Act → World → Prop} {a : Act} {w : World} (w' : World) (e : w = w') (h : c.wp P Q a w') : c.wp P Q a w := e ▸ h
theorem wpList_store_new {P : Program} {ops : Array Oper} {rest : List Oper} {o : Oper} {a : Act} {w : World} {Q : Exit → Act → World → Prop} (hgd : o.guard = none) (hd : o.dst = none) (ty : TypeId) (x y : Operand) (ho : o.op = .store ty x y)
    (w0 : World) (c c' : Array Value) (hx : a.eval x = .pointer (some ⟨w0.heap.size, 0, none⟩)) (hy : a.eval y = .agg c') (hw : w = w0.alloc (.cells c ty)) (hi : (P.info? ty).map (·.size) = some c'.size) (hs : c.size = c'.size) (h1 : c'.all (·.oneCell') = true)
    (h : wpList P ops Q rest a (w0.alloc (.cells c' ty))) : wpList P ops Q (o :: rest) a w := by
  refine wpList_plain hgd fun K hK => ?_
  subst hw
  unfold Oper.wp execOp
  simp only [ho, hx, hy, Sem.run_bind, run_storeAt_new (P := P) w0 ty c c' hi hs h1, Result.andThen_ok, Sem.run_pure, Oper.upon_skip, hd]
  exact hK _ _ h
theorem keptVals_at (k : Nat) (h : k < 25) : keptVals[k]? = some (.string (keptWs.getD k ByteArray.empty)) := by
  unfold keptVals
  rw [List.getElem?_toArray, List.getElem?_map, List.getD_eq_getElem?_getD, List.getElem?_eq_getElem (show k < keptWs.length from h)]
  rfl
theorem keptVals_one : keptVals.all (·.oneCell') = true := by
  rw [Array.all_eq_true]
  intro i hi
  simp only [keptVals, List.getElem_toArray, List.getElem_map]
  rfl
theorem keptB_yes (s : ByteArray) (k : Nat) (h : k < 25) (hq : ((keptWs.getD k ByteArray.empty).toList == s.toList) = true) : keptB s = true := by
  unfold keptB
  rw [List.any_eq_true]
  refine ⟨keptWs.getD k ByteArray.empty, ?_, hq⟩
  rw [List.getD_eq_getElem?_getD, List.getElem?_eq_getElem (show k < keptWs.length from h)]
  exact List.getElem_mem _
theorem keptB_no (s : ByteArray) (h : ∀ j, j < 25 → ((keptWs.getD j ByteArray.empty).toList == s.toList) = false) : keptB s = false := by
  unfold keptB
  rw [List.any_eq_false]
  intro x hx
  obtain ⟨j, hj, rfl⟩ := List.getElem_of_mem hx
  have := h j hj
  rw [List.getD_eq_getElem?_getD, List.getElem?_eq_getElem hj] at this
  simpa using this
set_option maxHeartbeats 4000000 in
set_option maxRecDepth 100000 in
theorem kept_any (s : ByteArray) (w : World) :
    Calls Try.prog 35 #[.string s] w fun e w' => e = .returned (.bool (keptB s)) ∧ Below w.heap.size w w' := by
  have hinfo : (Try.prog.info? 62).map (·.size) = some keptVals.size := by kernel_rfl
  have HI := Lib.hid hinfo
  clear hinfo
  go_enter Try.func35, Try.ntmps35
  go_wp2_with (refine wpList_store_new rfl rfl _ _ _ rfl w _ keptVals rfl rfl rfl HI.out rfl keptVals_one ?_)
  obtain ⟨W, hW⟩ : ∃ W, W = w.alloc (.cells keptVals 62) := ⟨_, rfl⟩
  have hb : W.heap[w.heap.size]? = some (.cells keptVals 62 (0, 0)) := by rw [hW]; exact heap_alloc_last w _
  have hB : Below w.heap.size w W := by rw [hW]; exact (Below.refl _ _).alloc (Nat.le_refl _) _
  refine wp_world W (show w.alloc (.cells keptVals 62) = W from hW.symm) ?_
  clear hW
  go_loop [4] (fun i => ∃ k : Nat, k ≤ 25 ∧ i = .int .i64 k ∧ ∀ j, j < k → ((keptWs.getD j ByteArray.empty).toList == s.toList) = false) (fun i => 25 - (intOf i).toNat)
  case atStart => exact ⟨0, by omega, rfl, fun j hj => by omega⟩
  case round =>
    obtain ⟨k, hk, rfl, hall⟩ := hrel
    have HA := Lib.hid hall
    clear hall
    by_cases hlt : k < 25
    · have hcell : W.cell? ⟨w.heap.size, k, none⟩ = some (.string (keptWs.getD k ByteArray.empty)) := (cell_of_row W w.heap.size k keptVals _ (0, 0) hb).trans (keptVals_at k hlt)
      obtain ⟨x, hx⟩ : ∃ x, x = keptWs.getD k ByteArray.empty := ⟨_, rfl⟩
      rw [← hx] at hcell
      have HX := Lib.hid hx
      clear hx
      by_cases hq : (x.toList == s.toList) = true
      · go_wp2_with fail
        go_ret
        refine ⟨ret_bool ?_, hB⟩
        rw [keptB_yes s k hlt (by rw [← HX.out]; exact hq)]
      · have hq' : (x.toList == s.toList) = false := by simpa using hq
        clear hq
        go_wp2_with fail
        go_round
        case rel => exact ⟨k + 1, by omega, by go_num, fun j hj => by
          by_cases e : j = k
          · rw [e, ← HX.out]; exact hq'
          · exact HA.out j (by omega)⟩
        case measure => simp [intOf]; omega
    · go_wp2_with fail
      go_ret
      refine ⟨ret_bool ?_, hB⟩
      rw [keptB_no s (fun j hj => HA.out j (by omega))]
end Go.Proofs.Ytaogejkmkalnlaa.HB
