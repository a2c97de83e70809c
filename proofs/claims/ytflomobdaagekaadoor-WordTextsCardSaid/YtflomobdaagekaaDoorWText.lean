/- The reference of layer 'word': a word's text. -/
import Derived.Test.YtflomobdaagekaaDoorWd
import Derived.Test.YtflomobdaagekaaDoorNum
import Derived.Laws.Concat
import Derived.Test.YtflomobdaagekaaDoorWord
import Derived.Test.YtflomobdaagekaaDoorLib
import Derived.Lib.ItoaLen
import Derived.Deep.RegionHeld3
namespace Go.Proofs.YtflomobdaagekaaDoor
open Go.RowKit
set_option linter.unusedVariables false
set_option linter.unusedSimpArgs false

theorem ret_s2 {a b : ByteArray} (h : a = b) : Ending.returned (.string a) = .returned (.string b) := by rw [h]

set_option maxHeartbeats 1600000 in
theorem rtext_0f (x : Int) (hO : ∀ W, Calls Tryd.prog 13 #[.int .u64 x] W fun e W' => e = .returned (.agg #[.int .i64 0, .bool false, .int .i64 0]) ∧ Below W.heap.size W W') (w : World) :
    Calls Tryd.prog 22 #[.int .u64 x] w fun e w' => e = .returned (.string (⟨#[98, 97, 100]⟩)) ∧ Below w.heap.size w w' := by
  have HO := Lib.hid hO
  clear hO
  go_enter Tryd.func22, Tryd.ntmps22
  go_wp2_with fail
  refine (HO.out _).mono ?_; rintro e1 w1 ⟨rfl, hb1⟩; obtain ⟨hc1, hf1⟩ := bcell hb1; have hz1 := hb1.size; (try simp at hz1)
  go_wp2
  go_ret
  exact ⟨ret_s2 (by first | rfl | (simp; done)), by (repeat (first | exact Below.refl _ _ | (with_reducible assumption) | refine Below.drew ?_ | refine Below.drewN' ?_ _ | refine Below.alloc ?_ (by first | omega | (simp; done) | (simp; omega)) _ | refine Below.setCell ?_ (by first | omega | (simp; done) | (simp; omega)) _ | refine Below.then ?_ hb9 (by first | omega | (simp; done) | (simp; omega)) | refine Below.then ?_ hb8 (by first | omega | (simp; done) | (simp; omega)) | refine Below.then ?_ hb7 (by first | omega | (simp; done) | (simp; omega)) | refine Below.then ?_ hb6 (by first | omega | (simp; done) | (simp; omega)) | refine Below.then ?_ hb5 (by first | omega | (simp; done) | (simp; omega)) | refine Below.then ?_ hb4 (by first | omega | (simp; done) | (simp; omega)) | refine Below.then ?_ hb3 (by first | omega | (simp; done) | (simp; omega)) | refine Below.then ?_ hb2 (by first | omega | (simp; done) | (simp; omega)) | refine Below.then ?_ hb1 (by first | omega | (simp; done) | (simp; omega))))⟩
set_option maxHeartbeats 1600000 in
theorem rtext_1f (x : Int) (hO : ∀ W, Calls Tryd.prog 13 #[.int .u64 x] W fun e W' => e = .returned (.agg #[.int .i64 1, .bool false, .int .i64 0]) ∧ Below W.heap.size W W') (w : World) :
    Calls Tryd.prog 22 #[.int .u64 x] w fun e w' => e = .returned (.string ((⟨#[]⟩ : ByteArray) ++ ⟨#[110, 117, 108, 108]⟩)) ∧ Below w.heap.size w w' := by
  have HO := Lib.hid hO
  clear hO
  go_enter Tryd.func22, Tryd.ntmps22
  go_wp2_with fail
  refine (HO.out _).mono ?_; rintro e1 w1 ⟨rfl, hb1⟩; obtain ⟨hc1, hf1⟩ := bcell hb1; have hz1 := hb1.size; (try simp at hz1)
  go_wp2
  go_ret
  exact ⟨ret_s2 (by first | rfl | (simp; done)), by (repeat (first | exact Below.refl _ _ | (with_reducible assumption) | refine Below.drew ?_ | refine Below.drewN' ?_ _ | refine Below.alloc ?_ (by first | omega | (simp; done) | (simp; omega)) _ | refine Below.setCell ?_ (by first | omega | (simp; done) | (simp; omega)) _ | refine Below.then ?_ hb9 (by first | omega | (simp; done) | (simp; omega)) | refine Below.then ?_ hb8 (by first | omega | (simp; done) | (simp; omega)) | refine Below.then ?_ hb7 (by first | omega | (simp; done) | (simp; omega)) | refine Below.then ?_ hb6 (by first | omega | (simp; done) | (simp; omega)) | refine Below.then ?_ hb5 (by first | omega | (simp; done) | (simp; omega)) | refine Below.then ?_ hb4 (by first | omega | (simp; done) | (simp; omega)) | refine Below.then ?_ hb3 (by first | omega | (simp; done) | (simp; omega)) | refine Below.then ?_ hb2 (by first | omega | (simp; done) | (simp; omega)) | refine Below.then ?_ hb1 (by first | omega | (simp; done) | (simp; omega))))⟩
set_option maxHeartbeats 1600000 in
theorem rtext_1t (x : Int) (hO : ∀ W, Calls Tryd.prog 13 #[.int .u64 x] W fun e W' => e = .returned (.agg #[.int .i64 1, .bool true, .int .i64 0]) ∧ Below W.heap.size W W') (w : World) :
    Calls Tryd.prog 22 #[.int .u64 x] w fun e w' => e = .returned (.string ((⟨#[33]⟩ : ByteArray) ++ ⟨#[110, 117, 108, 108]⟩)) ∧ Below w.heap.size w w' := by
  have HO := Lib.hid hO
  clear hO
  go_enter Tryd.func22, Tryd.ntmps22
  go_wp2_with fail
  refine (HO.out _).mono ?_; rintro e1 w1 ⟨rfl, hb1⟩; obtain ⟨hc1, hf1⟩ := bcell hb1; have hz1 := hb1.size; (try simp at hz1)
  go_wp2
  go_ret
  exact ⟨ret_s2 (by first | rfl | (simp; done)), by (repeat (first | exact Below.refl _ _ | (with_reducible assumption) | refine Below.drew ?_ | refine Below.drewN' ?_ _ | refine Below.alloc ?_ (by first | omega | (simp; done) | (simp; omega)) _ | refine Below.setCell ?_ (by first | omega | (simp; done) | (simp; omega)) _ | refine Below.then ?_ hb9 (by first | omega | (simp; done) | (simp; omega)) | refine Below.then ?_ hb8 (by first | omega | (simp; done) | (simp; omega)) | refine Below.then ?_ hb7 (by first | omega | (simp; done) | (simp; omega)) | refine Below.then ?_ hb6 (by first | omega | (simp; done) | (simp; omega)) | refine Below.then ?_ hb5 (by first | omega | (simp; done) | (simp; omega)) | refine Below.then ?_ hb4 (by first | omega | (simp; done) | (simp; omega)) | refine Below.then ?_ hb3 (by first | omega | (simp; done) | (simp; omega)) | refine Below.then ?_ hb2 (by first | omega | (simp; done) | (simp; omega)) | refine Below.then ?_ hb1 (by first | omega | (simp; done) | (simp; omega))))⟩
set_option maxHeartbeats 1600000 in
theorem rtext_2f (x : Int) (V : Int) (s : ByteArray) (hs : s.size ≤ 30) (hF : ∀ W, Calls Tryd.prog 41 #[.int .i64 V] W fun e W' => e = .returned (.string s) ∧ Below W.heap.size W W') (hO : ∀ W, Calls Tryd.prog 13 #[.int .u64 x] W fun e W' => e = .returned (.agg #[.int .i64 2, .bool false, .int .i64 V]) ∧ Below W.heap.size W W') (w : World) :
    Calls Tryd.prog 22 #[.int .u64 x] w fun e w' => e = .returned (.string ((⟨#[]⟩ : ByteArray) ++ ⟨#[64]⟩ ++ s)) ∧ Below w.heap.size w w' := by
  have HO := Lib.hid hO
  clear hO
  have HF := Lib.hid hF
  clear hF
  go_enter Tryd.func22, Tryd.ntmps22
  go_wp2_with fail
  refine (HO.out _).mono ?_; rintro e1 w1 ⟨rfl, hb1⟩; obtain ⟨hc1, hf1⟩ := bcell hb1; have hz1 := hb1.size; (try simp at hz1)
  go_wp2_with fail
  refine (HF.out _).mono ?_; rintro e3 w3 ⟨rfl, hb3⟩; have hz3 := hb3.size; (try simp at hz3)
  go_wp2
  go_ret
  exact ⟨ret_s2 (by first | rfl | (simp; done)), by (repeat (first | exact Below.refl _ _ | (with_reducible assumption) | refine Below.drew ?_ | refine Below.drewN' ?_ _ | refine Below.alloc ?_ (by first | omega | (simp; done) | (simp; omega)) _ | refine Below.setCell ?_ (by first | omega | (simp; done) | (simp; omega)) _ | refine Below.then ?_ hb9 (by first | omega | (simp; done) | (simp; omega)) | refine Below.then ?_ hb8 (by first | omega | (simp; done) | (simp; omega)) | refine Below.then ?_ hb7 (by first | omega | (simp; done) | (simp; omega)) | refine Below.then ?_ hb6 (by first | omega | (simp; done) | (simp; omega)) | refine Below.then ?_ hb5 (by first | omega | (simp; done) | (simp; omega)) | refine Below.then ?_ hb4 (by first | omega | (simp; done) | (simp; omega)) | refine Below.then ?_ hb3 (by first | omega | (simp; done) | (simp; omega)) | refine Below.then ?_ hb2 (by first | omega | (simp; done) | (simp; omega)) | refine Below.then ?_ hb1 (by first | omega | (simp; done) | (simp; omega))))⟩
set_option maxHeartbeats 1600000 in
theorem rtext_2t (x : Int) (V : Int) (s : ByteArray) (hs : s.size ≤ 30) (hF : ∀ W, Calls Tryd.prog 41 #[.int .i64 V] W fun e W' => e = .returned (.string s) ∧ Below W.heap.size W W') (hO : ∀ W, Calls Tryd.prog 13 #[.int .u64 x] W fun e W' => e = .returned (.agg #[.int .i64 2, .bool true, .int .i64 V]) ∧ Below W.heap.size W W') (w : World) :
    Calls Tryd.prog 22 #[.int .u64 x] w fun e w' => e = .returned (.string ((⟨#[33]⟩ : ByteArray) ++ ⟨#[64]⟩ ++ s)) ∧ Below w.heap.size w w' := by
  have HO := Lib.hid hO
  clear hO
  have HF := Lib.hid hF
  clear hF
  go_enter Tryd.func22, Tryd.ntmps22
  go_wp2_with fail
  refine (HO.out _).mono ?_; rintro e1 w1 ⟨rfl, hb1⟩; obtain ⟨hc1, hf1⟩ := bcell hb1; have hz1 := hb1.size; (try simp at hz1)
  go_wp2_with fail
  refine (HF.out _).mono ?_; rintro e3 w3 ⟨rfl, hb3⟩; have hz3 := hb3.size; (try simp at hz3)
  go_wp2
  go_ret
  exact ⟨ret_s2 (by first | rfl | (simp; done)), by (repeat (first | exact Below.refl _ _ | (with_reducible assumption) | refine Below.drew ?_ | refine Below.drewN' ?_ _ | refine Below.alloc ?_ (by first | omega | (simp; done) | (simp; omega)) _ | refine Below.setCell ?_ (by first | omega | (simp; done) | (simp; omega)) _ | refine Below.then ?_ hb9 (by first | omega | (simp; done) | (simp; omega)) | refine Below.then ?_ hb8 (by first | omega | (simp; done) | (simp; omega)) | refine Below.then ?_ hb7 (by first | omega | (simp; done) | (simp; omega)) | refine Below.then ?_ hb6 (by first | omega | (simp; done) | (simp; omega)) | refine Below.then ?_ hb5 (by first | omega | (simp; done) | (simp; omega)) | refine Below.then ?_ hb4 (by first | omega | (simp; done) | (simp; omega)) | refine Below.then ?_ hb3 (by first | omega | (simp; done) | (simp; omega)) | refine Below.then ?_ hb2 (by first | omega | (simp; done) | (simp; omega)) | refine Below.then ?_ hb1 (by first | omega | (simp; done) | (simp; omega))))⟩
set_option maxHeartbeats 1600000 in
theorem rtext_3f (x : Int) (V : Int) (s : ByteArray) (hs : s.size ≤ 30) (hF : ∀ W, Calls Tryd.prog 41 #[.int .i64 V] W fun e W' => e = .returned (.string s) ∧ Below W.heap.size W W') (hO : ∀ W, Calls Tryd.prog 13 #[.int .u64 x] W fun e W' => e = .returned (.agg #[.int .i64 3, .bool false, .int .i64 V]) ∧ Below W.heap.size W W') (w : World) :
    Calls Tryd.prog 22 #[.int .u64 x] w fun e w' => e = .returned (.string ((⟨#[]⟩ : ByteArray) ++ s)) ∧ Below w.heap.size w w' := by
  have HO := Lib.hid hO
  clear hO
  have HF := Lib.hid hF
  clear hF
  go_enter Tryd.func22, Tryd.ntmps22
  go_wp2_with fail
  refine (HO.out _).mono ?_; rintro e1 w1 ⟨rfl, hb1⟩; obtain ⟨hc1, hf1⟩ := bcell hb1; have hz1 := hb1.size; (try simp at hz1)
  go_wp2_with fail
  refine (HF.out _).mono ?_; rintro e3 w3 ⟨rfl, hb3⟩; have hz3 := hb3.size; (try simp at hz3)
  go_wp2
  go_ret
  exact ⟨ret_s2 (by first | rfl | (simp; done)), by (repeat (first | exact Below.refl _ _ | (with_reducible assumption) | refine Below.drew ?_ | refine Below.drewN' ?_ _ | refine Below.alloc ?_ (by first | omega | (simp; done) | (simp; omega)) _ | refine Below.setCell ?_ (by first | omega | (simp; done) | (simp; omega)) _ | refine Below.then ?_ hb9 (by first | omega | (simp; done) | (simp; omega)) | refine Below.then ?_ hb8 (by first | omega | (simp; done) | (simp; omega)) | refine Below.then ?_ hb7 (by first | omega | (simp; done) | (simp; omega)) | refine Below.then ?_ hb6 (by first | omega | (simp; done) | (simp; omega)) | refine Below.then ?_ hb5 (by first | omega | (simp; done) | (simp; omega)) | refine Below.then ?_ hb4 (by first | omega | (simp; done) | (simp; omega)) | refine Below.then ?_ hb3 (by first | omega | (simp; done) | (simp; omega)) | refine Below.then ?_ hb2 (by first | omega | (simp; done) | (simp; omega)) | refine Below.then ?_ hb1 (by first | omega | (simp; done) | (simp; omega))))⟩
set_option maxHeartbeats 1600000 in
theorem rtext_3t (x : Int) (V : Int) (s : ByteArray) (hs : s.size ≤ 30) (hF : ∀ W, Calls Tryd.prog 41 #[.int .i64 V] W fun e W' => e = .returned (.string s) ∧ Below W.heap.size W W') (hO : ∀ W, Calls Tryd.prog 13 #[.int .u64 x] W fun e W' => e = .returned (.agg #[.int .i64 3, .bool true, .int .i64 V]) ∧ Below W.heap.size W W') (w : World) :
    Calls Tryd.prog 22 #[.int .u64 x] w fun e w' => e = .returned (.string ((⟨#[33]⟩ : ByteArray) ++ s)) ∧ Below w.heap.size w w' := by
  have HO := Lib.hid hO
  clear hO
  have HF := Lib.hid hF
  clear hF
  go_enter Tryd.func22, Tryd.ntmps22
  go_wp2_with fail
  refine (HO.out _).mono ?_; rintro e1 w1 ⟨rfl, hb1⟩; obtain ⟨hc1, hf1⟩ := bcell hb1; have hz1 := hb1.size; (try simp at hz1)
  go_wp2_with fail
  refine (HF.out _).mono ?_; rintro e3 w3 ⟨rfl, hb3⟩; have hz3 := hb3.size; (try simp at hz3)
  go_wp2
  go_ret
  exact ⟨ret_s2 (by first | rfl | (simp; done)), by (repeat (first | exact Below.refl _ _ | (with_reducible assumption) | refine Below.drew ?_ | refine Below.drewN' ?_ _ | refine Below.alloc ?_ (by first | omega | (simp; done) | (simp; omega)) _ | refine Below.setCell ?_ (by first | omega | (simp; done) | (simp; omega)) _ | refine Below.then ?_ hb9 (by first | omega | (simp; done) | (simp; omega)) | refine Below.then ?_ hb8 (by first | omega | (simp; done) | (simp; omega)) | refine Below.then ?_ hb7 (by first | omega | (simp; done) | (simp; omega)) | refine Below.then ?_ hb6 (by first | omega | (simp; done) | (simp; omega)) | refine Below.then ?_ hb5 (by first | omega | (simp; done) | (simp; omega)) | refine Below.then ?_ hb4 (by first | omega | (simp; done) | (simp; omega)) | refine Below.then ?_ hb3 (by first | omega | (simp; done) | (simp; omega)) | refine Below.then ?_ hb2 (by first | omega | (simp; done) | (simp; omega)) | refine Below.then ?_ hb1 (by first | omega | (simp; done) | (simp; omega))))⟩
set_option maxHeartbeats 1600000 in
theorem rtext_4f (x : Int) (hO : ∀ W, Calls Tryd.prog 13 #[.int .u64 x] W fun e W' => e = .returned (.agg #[.int .i64 4, .bool false, .int .i64 0]) ∧ Below W.heap.size W W') (w : World) :
    Calls Tryd.prog 22 #[.int .u64 x] w fun e w' => e = .returned (.string (⟨#[101, 109, 112, 116, 121]⟩)) ∧ Below w.heap.size w w' := by
  have HO := Lib.hid hO
  clear hO
  go_enter Tryd.func22, Tryd.ntmps22
  go_wp2_with fail
  refine (HO.out _).mono ?_; rintro e1 w1 ⟨rfl, hb1⟩; obtain ⟨hc1, hf1⟩ := bcell hb1; have hz1 := hb1.size; (try simp at hz1)
  go_wp2
  go_ret
  exact ⟨ret_s2 (by first | rfl | (simp; done)), by (repeat (first | exact Below.refl _ _ | (with_reducible assumption) | refine Below.drew ?_ | refine Below.drewN' ?_ _ | refine Below.alloc ?_ (by first | omega | (simp; done) | (simp; omega)) _ | refine Below.setCell ?_ (by first | omega | (simp; done) | (simp; omega)) _ | refine Below.then ?_ hb9 (by first | omega | (simp; done) | (simp; omega)) | refine Below.then ?_ hb8 (by first | omega | (simp; done) | (simp; omega)) | refine Below.then ?_ hb7 (by first | omega | (simp; done) | (simp; omega)) | refine Below.then ?_ hb6 (by first | omega | (simp; done) | (simp; omega)) | refine Below.then ?_ hb5 (by first | omega | (simp; done) | (simp; omega)) | refine Below.then ?_ hb4 (by first | omega | (simp; done) | (simp; omega)) | refine Below.then ?_ hb3 (by first | omega | (simp; done) | (simp; omega)) | refine Below.then ?_ hb2 (by first | omega | (simp; done) | (simp; omega)) | refine Below.then ?_ hb1 (by first | omega | (simp; done) | (simp; omega))))⟩

end Go.Proofs.YtflomobdaagekaaDoor

namespace Go.Proofs.YtflomobdaagekaaDoor
open Go.RowKit
set_option linter.unusedVariables false
set_option linter.unusedSimpArgs false

theorem n0_ (W : World) : (Instr.index 62 (.agg rowsV) (.int .i64 0)).run Tryd.prog W = .ok (.agg #[.string ⟨#[98, 97, 100]⟩, .func (.func 44) #[] #[], .int .i64 0, .int .i64 0, .nilFunc]) W := index_row0 W
theorem n1_ (W : World) : (Instr.index 62 (.agg rowsV) (.int .i64 1)).run Tryd.prog W = .ok (.agg #[.string ⟨#[110, 117, 108, 108]⟩, .func (.func 45) #[] #[], .int .i64 0, .int .i64 0, .func (.func 46) #[] #[]]) W := index_row1 W
theorem n2_ (W : World) : (Instr.index 62 (.agg rowsV) (.int .i64 2)).run Tryd.prog W = .ok (.agg #[.string ⟨#[]⟩, .func (.func 47) #[] #[], .int .i64 1, .int .i64 16777215, .func (.func 48) #[] #[]]) W := index_row2 W
theorem n3_ (W : World) : (Instr.index 62 (.agg rowsV) (.int .i64 3)).run Tryd.prog W = .ok (.agg #[.string ⟨#[]⟩, .func (.func 49) #[] #[], .int .i64 (-576460752303423488), .int .i64 576460752303423487, .func (.func 50) #[] #[]]) W := index_row3 W
theorem n4_ (W : World) : (Instr.index 62 (.agg rowsV) (.int .i64 4)).run Tryd.prog W = .ok (.agg #[.string ⟨#[101, 109, 112, 116, 121]⟩, .func (.func 51) #[] #[], .int .i64 0, .int .i64 0, .func (.func 52) #[] #[]]) W := index_row4 W
theorem ret_s {a b : ByteArray} (h : a = b) : Ending.returned (.string a) = .returned (.string b) := by rw [h]

set_option maxRecDepth 100000 in
set_option maxHeartbeats 1600000 in
theorem text_0f (x : Int) (hO : ∀ W, Calls Tryd.prog 11 #[.int .u64 x] W fun e W' => e = .returned (.agg #[.int .i64 0, .bool false, .int .i64 0]) ∧ Below W.heap.size W W') (w : World) :
    Calls Tryd.prog 20 #[.int .u64 x] w fun e w' => e = .returned (.string (⟨#[98, 97, 100]⟩)) ∧ Below w.heap.size w w' := by
  have i0 := n0_
  have fl : ∀ W : World, (Instr.field 61 (.agg #[.string ⟨#[98, 97, 100]⟩, .func (.func 44) #[] #[], .int .i64 0, .int .i64 0, .nilFunc]) 0).run Tryd.prog W = .ok (.string ⟨#[98, 97, 100]⟩) W := fun _ => by kernel_rfl
  have HO := Lib.hid hO
  clear hO
  go_enter Tryd.func20, Tryd.ntmps20
  go_wp2_with fail
  refine (HO.out _).mono ?_; rintro e1 w1 ⟨rfl, hb1⟩; obtain ⟨hc1, hf1⟩ := bcell hb1; have hz1 := hb1.size; (try simp at hz1)
  go_wp2_with fail
  refine wp_region_held_drew (S := fun A => A.cell? ⟨w1.heap.size, 0, none⟩ = some (.int .i64 0)) (by kernel_rfl) ?hS0 (fun hHeld => ?_)
  case hS0 => simp [go_sem]
  (refine wpAnyH_take (i := 1) (oi := ?oiz1) (v := ?vz1) ?hiz1 ?hsz1 ?hfz1 ?hrz1 ?hQz1 ?hyz1 ?hSz1 ?hz1)
  (case hiz1 => rfl)
  (case hsz1 => kernel_rfl)
  (case hfz1 => kernel_rfl)
  (case hrz1 => kernel_rfl)
  (case hQz1 => first | exact fun _ _ _ h => h | exact fun _ _ _ h => (nomatch h.1))
  (case hSz1 => assumption)
  (case hyz1 => (refine Or.inl ⟨by rfl, ?_⟩; intro W hW; (try dsimp only at hW); go_simp; try with_reducible rfl))
  (try simp only [List.getElem_toArray, List.getElem_cons_succ, List.getElem_cons_zero, Act.put, List.setIfInBounds_toArray, List.set_cons_zero, List.set_cons_succ])
  (refine wpAnyH_take (i := 2) (oi := ?oiz2) (v := ?vz2) ?hiz2 ?hsz2 ?hfz2 ?hrz2 ?hQz2 ?hyz2 ?hSz2 ?hz2)
  (case hiz2 => rfl)
  (case hsz2 => kernel_rfl)
  (case hfz2 => kernel_rfl)
  (case hrz2 => kernel_rfl)
  (case hQz2 => first | exact fun _ _ _ h => h | exact fun _ _ _ h => (nomatch h.1))
  (case hSz2 => assumption)
  (case hyz2 => (refine Or.inl ⟨by rfl, ?_⟩; intro W hW; (try dsimp only at hW); go_simp; try with_reducible rfl))
  (try simp only [List.getElem_toArray, List.getElem_cons_succ, List.getElem_cons_zero, Act.put, List.setIfInBounds_toArray, List.set_cons_zero, List.set_cons_succ])
  refine wpAnyH_ready (rs := [0]) (by kernel_rfl) (by simp) ?_
  refine AllReadyH.cons rfl (fun K hK => ?_) (AllReadyH.nil)
  go_simp
  refine (rows_calls _).mono ?_
  rintro e2 w2 ⟨rfl, hb2⟩
  obtain ⟨hc2, hf2⟩ := bcell hb2
  have hz2 := hb2.size
  (try simp at hz2)
  have bq0 := hc2 w1.heap.size 0 (by first | omega | (simp; done) | (simp; omega)); simp [go_sem] at bq0
  have bq1 := hc2 w1.heap.size 1 (by first | omega | (simp; done) | (simp; omega)); simp [go_sem] at bq1
  have bq2 := hc2 w1.heap.size 2 (by first | omega | (simp; done) | (simp; omega)); simp [go_sem] at bq2
  refine hK.out _ _ bq0 (fun hHeld2 => ?_)
  clear hK K hHeld
  try simp only [List.getElem_toArray, List.getElem_cons_succ, List.getElem_cons_zero, Act.put, List.setIfInBounds_toArray, List.set_cons_zero, List.set_cons_succ]
  (refine wpAnyH_take (i := 3) (oi := ?oiz3) (v := ?vz3) ?hiz3 ?hsz3 ?hfz3 ?hrz3 ?hQz3 ?hyz3 ?hSz3 ?hz3)
  (case hiz3 => rfl)
  (case hsz3 => kernel_rfl)
  (case hfz3 => kernel_rfl)
  (case hrz3 => kernel_rfl)
  (case hQz3 => first | exact fun _ _ _ h => h | exact fun _ _ _ h => (nomatch h.1))
  (case hSz3 => assumption)
  (case hyz3 => (refine Or.inl ⟨by rfl, ?_⟩; intro W hW; (try dsimp only at hW); go_simp; try with_reducible rfl))
  (try simp only [List.getElem_toArray, List.getElem_cons_succ, List.getElem_cons_zero, Act.put, List.setIfInBounds_toArray, List.set_cons_zero, List.set_cons_succ])
  (refine wpAnyH_take (i := 4) (oi := ?oiz4) (v := ?vz4) ?hiz4 ?hsz4 ?hfz4 ?hrz4 ?hQz4 ?hyz4 ?hSz4 ?hz4)
  (case hiz4 => rfl)
  (case hsz4 => kernel_rfl)
  (case hfz4 => kernel_rfl)
  (case hrz4 => kernel_rfl)
  (case hQz4 => first | exact fun _ _ _ h => h | exact fun _ _ _ h => (nomatch h.1))
  (case hSz4 => assumption)
  (case hyz4 => (refine Or.inl ⟨by rfl, ?_⟩; intro W hW; (try dsimp only at hW); go_simp; try with_reducible rfl))
  (try simp only [List.getElem_toArray, List.getElem_cons_succ, List.getElem_cons_zero, Act.put, List.setIfInBounds_toArray, List.set_cons_zero, List.set_cons_succ])
  (refine wpAnyH_take (i := 5) (oi := ?oiz5) (v := ?vz5) ?hiz5 ?hsz5 ?hfz5 ?hrz5 ?hQz5 ?hyz5 ?hSz5 ?hz5)
  (case hiz5 => rfl)
  (case hsz5 => kernel_rfl)
  (case hfz5 => kernel_rfl)
  (case hrz5 => kernel_rfl)
  (case hQz5 => first | exact fun _ _ _ h => h | exact fun _ _ _ h => (nomatch h.1))
  (case hSz5 => assumption)
  (case hyz5 => (refine Or.inl ⟨by rfl, ?_⟩; intro W hW; (try dsimp only at hW); go_simp; try with_reducible rfl))
  (try simp only [List.getElem_toArray, List.getElem_cons_succ, List.getElem_cons_zero, Act.put, List.setIfInBounds_toArray, List.set_cons_zero, List.set_cons_succ])
  refine wpAnyH_done (by kernel_rfl) ?_ _
  clear hHeld2
  go_wp2
  go_ret
  exact ⟨ret_s (by first | rfl | (simp; done)), by (repeat (first | exact Below.refl _ _ | (with_reducible assumption) | refine Below.drew ?_ | refine Below.drewN' ?_ _ | refine Below.alloc ?_ (by first | omega | (simp; done) | (simp; omega)) _ | refine Below.setCell ?_ (by first | omega | (simp; done) | (simp; omega)) _ | refine Below.then ?_ hb9 (by first | omega | (simp; done) | (simp; omega)) | refine Below.then ?_ hb8 (by first | omega | (simp; done) | (simp; omega)) | refine Below.then ?_ hb7 (by first | omega | (simp; done) | (simp; omega)) | refine Below.then ?_ hb6 (by first | omega | (simp; done) | (simp; omega)) | refine Below.then ?_ hb5 (by first | omega | (simp; done) | (simp; omega)) | refine Below.then ?_ hb4 (by first | omega | (simp; done) | (simp; omega)) | refine Below.then ?_ hb3 (by first | omega | (simp; done) | (simp; omega)) | refine Below.then ?_ hb2 (by first | omega | (simp; done) | (simp; omega)) | refine Below.then ?_ hb1 (by first | omega | (simp; done) | (simp; omega))))⟩
set_option maxRecDepth 100000 in
set_option maxHeartbeats 1600000 in
theorem text_1f (x : Int) (hO : ∀ W, Calls Tryd.prog 11 #[.int .u64 x] W fun e W' => e = .returned (.agg #[.int .i64 1, .bool false, .int .i64 0]) ∧ Below W.heap.size W W') (w : World) :
    Calls Tryd.prog 20 #[.int .u64 x] w fun e w' => e = .returned (.string (⟨#[110, 117, 108, 108]⟩)) ∧ Below w.heap.size w w' := by
  have i1 := n1_
  have fl : ∀ W : World, (Instr.field 61 (.agg #[.string ⟨#[110, 117, 108, 108]⟩, .func (.func 45) #[] #[], .int .i64 0, .int .i64 0, .func (.func 46) #[] #[]]) 0).run Tryd.prog W = .ok (.string ⟨#[110, 117, 108, 108]⟩) W := fun _ => by kernel_rfl
  have HO := Lib.hid hO
  clear hO
  go_enter Tryd.func20, Tryd.ntmps20
  go_wp2_with fail
  refine (HO.out _).mono ?_; rintro e1 w1 ⟨rfl, hb1⟩; obtain ⟨hc1, hf1⟩ := bcell hb1; have hz1 := hb1.size; (try simp at hz1)
  go_wp2_with fail
  refine wp_region_held_drew (S := fun A => A.cell? ⟨w1.heap.size, 0, none⟩ = some (.int .i64 1)) (by kernel_rfl) ?hS0 (fun hHeld => ?_)
  case hS0 => simp [go_sem]
  (refine wpAnyH_take (i := 1) (oi := ?oiz1) (v := ?vz1) ?hiz1 ?hsz1 ?hfz1 ?hrz1 ?hQz1 ?hyz1 ?hSz1 ?hz1)
  (case hiz1 => rfl)
  (case hsz1 => kernel_rfl)
  (case hfz1 => kernel_rfl)
  (case hrz1 => kernel_rfl)
  (case hQz1 => first | exact fun _ _ _ h => h | exact fun _ _ _ h => (nomatch h.1))
  (case hSz1 => assumption)
  (case hyz1 => (refine Or.inl ⟨by rfl, ?_⟩; intro W hW; (try dsimp only at hW); go_simp; try with_reducible rfl))
  (try simp only [List.getElem_toArray, List.getElem_cons_succ, List.getElem_cons_zero, Act.put, List.setIfInBounds_toArray, List.set_cons_zero, List.set_cons_succ])
  (refine wpAnyH_take (i := 2) (oi := ?oiz2) (v := ?vz2) ?hiz2 ?hsz2 ?hfz2 ?hrz2 ?hQz2 ?hyz2 ?hSz2 ?hz2)
  (case hiz2 => rfl)
  (case hsz2 => kernel_rfl)
  (case hfz2 => kernel_rfl)
  (case hrz2 => kernel_rfl)
  (case hQz2 => first | exact fun _ _ _ h => h | exact fun _ _ _ h => (nomatch h.1))
  (case hSz2 => assumption)
  (case hyz2 => (refine Or.inl ⟨by rfl, ?_⟩; intro W hW; (try dsimp only at hW); go_simp; try with_reducible rfl))
  (try simp only [List.getElem_toArray, List.getElem_cons_succ, List.getElem_cons_zero, Act.put, List.setIfInBounds_toArray, List.set_cons_zero, List.set_cons_succ])
  refine wpAnyH_ready (rs := [0]) (by kernel_rfl) (by simp) ?_
  refine AllReadyH.cons rfl (fun K hK => ?_) (AllReadyH.nil)
  go_simp
  refine (rows_calls _).mono ?_
  rintro e2 w2 ⟨rfl, hb2⟩
  obtain ⟨hc2, hf2⟩ := bcell hb2
  have hz2 := hb2.size
  (try simp at hz2)
  have bq0 := hc2 w1.heap.size 0 (by first | omega | (simp; done) | (simp; omega)); simp [go_sem] at bq0
  have bq1 := hc2 w1.heap.size 1 (by first | omega | (simp; done) | (simp; omega)); simp [go_sem] at bq1
  have bq2 := hc2 w1.heap.size 2 (by first | omega | (simp; done) | (simp; omega)); simp [go_sem] at bq2
  refine hK.out _ _ bq0 (fun hHeld2 => ?_)
  clear hK K hHeld
  try simp only [List.getElem_toArray, List.getElem_cons_succ, List.getElem_cons_zero, Act.put, List.setIfInBounds_toArray, List.set_cons_zero, List.set_cons_succ]
  (refine wpAnyH_take (i := 3) (oi := ?oiz3) (v := ?vz3) ?hiz3 ?hsz3 ?hfz3 ?hrz3 ?hQz3 ?hyz3 ?hSz3 ?hz3)
  (case hiz3 => rfl)
  (case hsz3 => kernel_rfl)
  (case hfz3 => kernel_rfl)
  (case hrz3 => kernel_rfl)
  (case hQz3 => first | exact fun _ _ _ h => h | exact fun _ _ _ h => (nomatch h.1))
  (case hSz3 => assumption)
  (case hyz3 => (refine Or.inl ⟨by rfl, ?_⟩; intro W hW; (try dsimp only at hW); go_simp; try with_reducible rfl))
  (try simp only [List.getElem_toArray, List.getElem_cons_succ, List.getElem_cons_zero, Act.put, List.setIfInBounds_toArray, List.set_cons_zero, List.set_cons_succ])
  (refine wpAnyH_take (i := 4) (oi := ?oiz4) (v := ?vz4) ?hiz4 ?hsz4 ?hfz4 ?hrz4 ?hQz4 ?hyz4 ?hSz4 ?hz4)
  (case hiz4 => rfl)
  (case hsz4 => kernel_rfl)
  (case hfz4 => kernel_rfl)
  (case hrz4 => kernel_rfl)
  (case hQz4 => first | exact fun _ _ _ h => h | exact fun _ _ _ h => (nomatch h.1))
  (case hSz4 => assumption)
  (case hyz4 => (refine Or.inl ⟨by rfl, ?_⟩; intro W hW; (try dsimp only at hW); go_simp; try with_reducible rfl))
  (try simp only [List.getElem_toArray, List.getElem_cons_succ, List.getElem_cons_zero, Act.put, List.setIfInBounds_toArray, List.set_cons_zero, List.set_cons_succ])
  (refine wpAnyH_take (i := 5) (oi := ?oiz5) (v := ?vz5) ?hiz5 ?hsz5 ?hfz5 ?hrz5 ?hQz5 ?hyz5 ?hSz5 ?hz5)
  (case hiz5 => rfl)
  (case hsz5 => kernel_rfl)
  (case hfz5 => kernel_rfl)
  (case hrz5 => kernel_rfl)
  (case hQz5 => first | exact fun _ _ _ h => h | exact fun _ _ _ h => (nomatch h.1))
  (case hSz5 => assumption)
  (case hyz5 => (refine Or.inl ⟨by rfl, ?_⟩; intro W hW; (try dsimp only at hW); go_simp; try with_reducible rfl))
  (try simp only [List.getElem_toArray, List.getElem_cons_succ, List.getElem_cons_zero, Act.put, List.setIfInBounds_toArray, List.set_cons_zero, List.set_cons_succ])
  refine wpAnyH_done (by kernel_rfl) ?_ _
  clear hHeld2
  go_wp2
  go_ret
  exact ⟨ret_s (by first | rfl | (simp; done)), by (repeat (first | exact Below.refl _ _ | (with_reducible assumption) | refine Below.drew ?_ | refine Below.drewN' ?_ _ | refine Below.alloc ?_ (by first | omega | (simp; done) | (simp; omega)) _ | refine Below.setCell ?_ (by first | omega | (simp; done) | (simp; omega)) _ | refine Below.then ?_ hb9 (by first | omega | (simp; done) | (simp; omega)) | refine Below.then ?_ hb8 (by first | omega | (simp; done) | (simp; omega)) | refine Below.then ?_ hb7 (by first | omega | (simp; done) | (simp; omega)) | refine Below.then ?_ hb6 (by first | omega | (simp; done) | (simp; omega)) | refine Below.then ?_ hb5 (by first | omega | (simp; done) | (simp; omega)) | refine Below.then ?_ hb4 (by first | omega | (simp; done) | (simp; omega)) | refine Below.then ?_ hb3 (by first | omega | (simp; done) | (simp; omega)) | refine Below.then ?_ hb2 (by first | omega | (simp; done) | (simp; omega)) | refine Below.then ?_ hb1 (by first | omega | (simp; done) | (simp; omega))))⟩
set_option maxRecDepth 100000 in
set_option maxHeartbeats 1600000 in
theorem text_1t (x : Int) (hO : ∀ W, Calls Tryd.prog 11 #[.int .u64 x] W fun e W' => e = .returned (.agg #[.int .i64 1, .bool true, .int .i64 0]) ∧ Below W.heap.size W W') (w : World) :
    Calls Tryd.prog 20 #[.int .u64 x] w fun e w' => e = .returned (.string ((⟨#[33]⟩ : ByteArray) ++ ⟨#[110, 117, 108, 108]⟩)) ∧ Below w.heap.size w w' := by
  have i1 := n1_
  have fl : ∀ W : World, (Instr.field 61 (.agg #[.string ⟨#[110, 117, 108, 108]⟩, .func (.func 45) #[] #[], .int .i64 0, .int .i64 0, .func (.func 46) #[] #[]]) 0).run Tryd.prog W = .ok (.string ⟨#[110, 117, 108, 108]⟩) W := fun _ => by kernel_rfl
  have HO := Lib.hid hO
  clear hO
  go_enter Tryd.func20, Tryd.ntmps20
  go_wp2_with fail
  refine (HO.out _).mono ?_; rintro e1 w1 ⟨rfl, hb1⟩; obtain ⟨hc1, hf1⟩ := bcell hb1; have hz1 := hb1.size; (try simp at hz1)
  go_wp2_with fail
  refine wp_region_held_drew (S := fun A => A.cell? ⟨w1.heap.size, 0, none⟩ = some (.int .i64 1)) (by kernel_rfl) ?hS0 (fun hHeld => ?_)
  case hS0 => simp [go_sem]
  (refine wpAnyH_take (i := 1) (oi := ?oiz1) (v := ?vz1) ?hiz1 ?hsz1 ?hfz1 ?hrz1 ?hQz1 ?hyz1 ?hSz1 ?hz1)
  (case hiz1 => rfl)
  (case hsz1 => kernel_rfl)
  (case hfz1 => kernel_rfl)
  (case hrz1 => kernel_rfl)
  (case hQz1 => first | exact fun _ _ _ h => h | exact fun _ _ _ h => (nomatch h.1))
  (case hSz1 => assumption)
  (case hyz1 => (refine Or.inl ⟨by rfl, ?_⟩; intro W hW; (try dsimp only at hW); go_simp; try with_reducible rfl))
  (try simp only [List.getElem_toArray, List.getElem_cons_succ, List.getElem_cons_zero, Act.put, List.setIfInBounds_toArray, List.set_cons_zero, List.set_cons_succ])
  (refine wpAnyH_take (i := 2) (oi := ?oiz2) (v := ?vz2) ?hiz2 ?hsz2 ?hfz2 ?hrz2 ?hQz2 ?hyz2 ?hSz2 ?hz2)
  (case hiz2 => rfl)
  (case hsz2 => kernel_rfl)
  (case hfz2 => kernel_rfl)
  (case hrz2 => kernel_rfl)
  (case hQz2 => first | exact fun _ _ _ h => h | exact fun _ _ _ h => (nomatch h.1))
  (case hSz2 => assumption)
  (case hyz2 => (refine Or.inl ⟨by rfl, ?_⟩; intro W hW; (try dsimp only at hW); go_simp; try with_reducible rfl))
  (try simp only [List.getElem_toArray, List.getElem_cons_succ, List.getElem_cons_zero, Act.put, List.setIfInBounds_toArray, List.set_cons_zero, List.set_cons_succ])
  refine wpAnyH_ready (rs := [0]) (by kernel_rfl) (by simp) ?_
  refine AllReadyH.cons rfl (fun K hK => ?_) (AllReadyH.nil)
  go_simp
  refine (rows_calls _).mono ?_
  rintro e2 w2 ⟨rfl, hb2⟩
  obtain ⟨hc2, hf2⟩ := bcell hb2
  have hz2 := hb2.size
  (try simp at hz2)
  have bq0 := hc2 w1.heap.size 0 (by first | omega | (simp; done) | (simp; omega)); simp [go_sem] at bq0
  have bq1 := hc2 w1.heap.size 1 (by first | omega | (simp; done) | (simp; omega)); simp [go_sem] at bq1
  have bq2 := hc2 w1.heap.size 2 (by first | omega | (simp; done) | (simp; omega)); simp [go_sem] at bq2
  refine hK.out _ _ bq0 (fun hHeld2 => ?_)
  clear hK K hHeld
  try simp only [List.getElem_toArray, List.getElem_cons_succ, List.getElem_cons_zero, Act.put, List.setIfInBounds_toArray, List.set_cons_zero, List.set_cons_succ]
  (refine wpAnyH_take (i := 3) (oi := ?oiz3) (v := ?vz3) ?hiz3 ?hsz3 ?hfz3 ?hrz3 ?hQz3 ?hyz3 ?hSz3 ?hz3)
  (case hiz3 => rfl)
  (case hsz3 => kernel_rfl)
  (case hfz3 => kernel_rfl)
  (case hrz3 => kernel_rfl)
  (case hQz3 => first | exact fun _ _ _ h => h | exact fun _ _ _ h => (nomatch h.1))
  (case hSz3 => assumption)
  (case hyz3 => (refine Or.inl ⟨by rfl, ?_⟩; intro W hW; (try dsimp only at hW); go_simp; try with_reducible rfl))
  (try simp only [List.getElem_toArray, List.getElem_cons_succ, List.getElem_cons_zero, Act.put, List.setIfInBounds_toArray, List.set_cons_zero, List.set_cons_succ])
  (refine wpAnyH_take (i := 4) (oi := ?oiz4) (v := ?vz4) ?hiz4 ?hsz4 ?hfz4 ?hrz4 ?hQz4 ?hyz4 ?hSz4 ?hz4)
  (case hiz4 => rfl)
  (case hsz4 => kernel_rfl)
  (case hfz4 => kernel_rfl)
  (case hrz4 => kernel_rfl)
  (case hQz4 => first | exact fun _ _ _ h => h | exact fun _ _ _ h => (nomatch h.1))
  (case hSz4 => assumption)
  (case hyz4 => (refine Or.inl ⟨by rfl, ?_⟩; intro W hW; (try dsimp only at hW); go_simp; try with_reducible rfl))
  (try simp only [List.getElem_toArray, List.getElem_cons_succ, List.getElem_cons_zero, Act.put, List.setIfInBounds_toArray, List.set_cons_zero, List.set_cons_succ])
  (refine wpAnyH_take (i := 5) (oi := ?oiz5) (v := ?vz5) ?hiz5 ?hsz5 ?hfz5 ?hrz5 ?hQz5 ?hyz5 ?hSz5 ?hz5)
  (case hiz5 => rfl)
  (case hsz5 => kernel_rfl)
  (case hfz5 => kernel_rfl)
  (case hrz5 => kernel_rfl)
  (case hQz5 => first | exact fun _ _ _ h => h | exact fun _ _ _ h => (nomatch h.1))
  (case hSz5 => assumption)
  (case hyz5 => (refine Or.inl ⟨by rfl, ?_⟩; intro W hW; (try dsimp only at hW); go_simp; try with_reducible rfl))
  (try simp only [List.getElem_toArray, List.getElem_cons_succ, List.getElem_cons_zero, Act.put, List.setIfInBounds_toArray, List.set_cons_zero, List.set_cons_succ])
  refine wpAnyH_done (by kernel_rfl) ?_ _
  clear hHeld2
  go_wp2
  go_ret
  exact ⟨ret_s (by first | rfl | (simp; done)), by (repeat (first | exact Below.refl _ _ | (with_reducible assumption) | refine Below.drew ?_ | refine Below.drewN' ?_ _ | refine Below.alloc ?_ (by first | omega | (simp; done) | (simp; omega)) _ | refine Below.setCell ?_ (by first | omega | (simp; done) | (simp; omega)) _ | refine Below.then ?_ hb9 (by first | omega | (simp; done) | (simp; omega)) | refine Below.then ?_ hb8 (by first | omega | (simp; done) | (simp; omega)) | refine Below.then ?_ hb7 (by first | omega | (simp; done) | (simp; omega)) | refine Below.then ?_ hb6 (by first | omega | (simp; done) | (simp; omega)) | refine Below.then ?_ hb5 (by first | omega | (simp; done) | (simp; omega)) | refine Below.then ?_ hb4 (by first | omega | (simp; done) | (simp; omega)) | refine Below.then ?_ hb3 (by first | omega | (simp; done) | (simp; omega)) | refine Below.then ?_ hb2 (by first | omega | (simp; done) | (simp; omega)) | refine Below.then ?_ hb1 (by first | omega | (simp; done) | (simp; omega))))⟩
set_option maxRecDepth 100000 in
set_option maxHeartbeats 1600000 in
theorem text_4f (x : Int) (hO : ∀ W, Calls Tryd.prog 11 #[.int .u64 x] W fun e W' => e = .returned (.agg #[.int .i64 4, .bool false, .int .i64 0]) ∧ Below W.heap.size W W') (w : World) :
    Calls Tryd.prog 20 #[.int .u64 x] w fun e w' => e = .returned (.string (⟨#[101, 109, 112, 116, 121]⟩)) ∧ Below w.heap.size w w' := by
  have i4 := n4_
  have fl : ∀ W : World, (Instr.field 61 (.agg #[.string ⟨#[101, 109, 112, 116, 121]⟩, .func (.func 51) #[] #[], .int .i64 0, .int .i64 0, .func (.func 52) #[] #[]]) 0).run Tryd.prog W = .ok (.string ⟨#[101, 109, 112, 116, 121]⟩) W := fun _ => by kernel_rfl
  have HO := Lib.hid hO
  clear hO
  go_enter Tryd.func20, Tryd.ntmps20
  go_wp2_with fail
  refine (HO.out _).mono ?_; rintro e1 w1 ⟨rfl, hb1⟩; obtain ⟨hc1, hf1⟩ := bcell hb1; have hz1 := hb1.size; (try simp at hz1)
  go_wp2_with fail
  refine wp_region_held_drew (S := fun A => A.cell? ⟨w1.heap.size, 0, none⟩ = some (.int .i64 4)) (by kernel_rfl) ?hS0 (fun hHeld => ?_)
  case hS0 => simp [go_sem]
  (refine wpAnyH_take (i := 1) (oi := ?oiz1) (v := ?vz1) ?hiz1 ?hsz1 ?hfz1 ?hrz1 ?hQz1 ?hyz1 ?hSz1 ?hz1)
  (case hiz1 => rfl)
  (case hsz1 => kernel_rfl)
  (case hfz1 => kernel_rfl)
  (case hrz1 => kernel_rfl)
  (case hQz1 => first | exact fun _ _ _ h => h | exact fun _ _ _ h => (nomatch h.1))
  (case hSz1 => assumption)
  (case hyz1 => (refine Or.inl ⟨by rfl, ?_⟩; intro W hW; (try dsimp only at hW); go_simp; try with_reducible rfl))
  (try simp only [List.getElem_toArray, List.getElem_cons_succ, List.getElem_cons_zero, Act.put, List.setIfInBounds_toArray, List.set_cons_zero, List.set_cons_succ])
  (refine wpAnyH_take (i := 2) (oi := ?oiz2) (v := ?vz2) ?hiz2 ?hsz2 ?hfz2 ?hrz2 ?hQz2 ?hyz2 ?hSz2 ?hz2)
  (case hiz2 => rfl)
  (case hsz2 => kernel_rfl)
  (case hfz2 => kernel_rfl)
  (case hrz2 => kernel_rfl)
  (case hQz2 => first | exact fun _ _ _ h => h | exact fun _ _ _ h => (nomatch h.1))
  (case hSz2 => assumption)
  (case hyz2 => (refine Or.inl ⟨by rfl, ?_⟩; intro W hW; (try dsimp only at hW); go_simp; try with_reducible rfl))
  (try simp only [List.getElem_toArray, List.getElem_cons_succ, List.getElem_cons_zero, Act.put, List.setIfInBounds_toArray, List.set_cons_zero, List.set_cons_succ])
  refine wpAnyH_ready (rs := [0]) (by kernel_rfl) (by simp) ?_
  refine AllReadyH.cons rfl (fun K hK => ?_) (AllReadyH.nil)
  go_simp
  refine (rows_calls _).mono ?_
  rintro e2 w2 ⟨rfl, hb2⟩
  obtain ⟨hc2, hf2⟩ := bcell hb2
  have hz2 := hb2.size
  (try simp at hz2)
  have bq0 := hc2 w1.heap.size 0 (by first | omega | (simp; done) | (simp; omega)); simp [go_sem] at bq0
  have bq1 := hc2 w1.heap.size 1 (by first | omega | (simp; done) | (simp; omega)); simp [go_sem] at bq1
  have bq2 := hc2 w1.heap.size 2 (by first | omega | (simp; done) | (simp; omega)); simp [go_sem] at bq2
  refine hK.out _ _ bq0 (fun hHeld2 => ?_)
  clear hK K hHeld
  try simp only [List.getElem_toArray, List.getElem_cons_succ, List.getElem_cons_zero, Act.put, List.setIfInBounds_toArray, List.set_cons_zero, List.set_cons_succ]
  (refine wpAnyH_take (i := 3) (oi := ?oiz3) (v := ?vz3) ?hiz3 ?hsz3 ?hfz3 ?hrz3 ?hQz3 ?hyz3 ?hSz3 ?hz3)
  (case hiz3 => rfl)
  (case hsz3 => kernel_rfl)
  (case hfz3 => kernel_rfl)
  (case hrz3 => kernel_rfl)
  (case hQz3 => first | exact fun _ _ _ h => h | exact fun _ _ _ h => (nomatch h.1))
  (case hSz3 => assumption)
  (case hyz3 => (refine Or.inl ⟨by rfl, ?_⟩; intro W hW; (try dsimp only at hW); go_simp; try with_reducible rfl))
  (try simp only [List.getElem_toArray, List.getElem_cons_succ, List.getElem_cons_zero, Act.put, List.setIfInBounds_toArray, List.set_cons_zero, List.set_cons_succ])
  (refine wpAnyH_take (i := 4) (oi := ?oiz4) (v := ?vz4) ?hiz4 ?hsz4 ?hfz4 ?hrz4 ?hQz4 ?hyz4 ?hSz4 ?hz4)
  (case hiz4 => rfl)
  (case hsz4 => kernel_rfl)
  (case hfz4 => kernel_rfl)
  (case hrz4 => kernel_rfl)
  (case hQz4 => first | exact fun _ _ _ h => h | exact fun _ _ _ h => (nomatch h.1))
  (case hSz4 => assumption)
  (case hyz4 => (refine Or.inl ⟨by rfl, ?_⟩; intro W hW; (try dsimp only at hW); go_simp; try with_reducible rfl))
  (try simp only [List.getElem_toArray, List.getElem_cons_succ, List.getElem_cons_zero, Act.put, List.setIfInBounds_toArray, List.set_cons_zero, List.set_cons_succ])
  (refine wpAnyH_take (i := 5) (oi := ?oiz5) (v := ?vz5) ?hiz5 ?hsz5 ?hfz5 ?hrz5 ?hQz5 ?hyz5 ?hSz5 ?hz5)
  (case hiz5 => rfl)
  (case hsz5 => kernel_rfl)
  (case hfz5 => kernel_rfl)
  (case hrz5 => kernel_rfl)
  (case hQz5 => first | exact fun _ _ _ h => h | exact fun _ _ _ h => (nomatch h.1))
  (case hSz5 => assumption)
  (case hyz5 => (refine Or.inl ⟨by rfl, ?_⟩; intro W hW; (try dsimp only at hW); go_simp; try with_reducible rfl))
  (try simp only [List.getElem_toArray, List.getElem_cons_succ, List.getElem_cons_zero, Act.put, List.setIfInBounds_toArray, List.set_cons_zero, List.set_cons_succ])
  refine wpAnyH_done (by kernel_rfl) ?_ _
  clear hHeld2
  go_wp2
  go_ret
  exact ⟨ret_s (by first | rfl | (simp; done)), by (repeat (first | exact Below.refl _ _ | (with_reducible assumption) | refine Below.drew ?_ | refine Below.drewN' ?_ _ | refine Below.alloc ?_ (by first | omega | (simp; done) | (simp; omega)) _ | refine Below.setCell ?_ (by first | omega | (simp; done) | (simp; omega)) _ | refine Below.then ?_ hb9 (by first | omega | (simp; done) | (simp; omega)) | refine Below.then ?_ hb8 (by first | omega | (simp; done) | (simp; omega)) | refine Below.then ?_ hb7 (by first | omega | (simp; done) | (simp; omega)) | refine Below.then ?_ hb6 (by first | omega | (simp; done) | (simp; omega)) | refine Below.then ?_ hb5 (by first | omega | (simp; done) | (simp; omega)) | refine Below.then ?_ hb4 (by first | omega | (simp; done) | (simp; omega)) | refine Below.then ?_ hb3 (by first | omega | (simp; done) | (simp; omega)) | refine Below.then ?_ hb2 (by first | omega | (simp; done) | (simp; omega)) | refine Below.then ?_ hb1 (by first | omega | (simp; done) | (simp; omega))))⟩
set_option maxRecDepth 100000 in
set_option maxHeartbeats 1600000 in
theorem text_2f (x : Int) (V : Int) (s : ByteArray) (hs : s.size ≤ 30) (w : World) (hF : ∀ W, Below w.heap.size w W → Calls Tryd.prog 37 #[.int .i64 V, .int .i64 10] W fun e W' => e = .returned (.string s) ∧ Below W.heap.size W W') (hO : ∀ W, Calls Tryd.prog 11 #[.int .u64 x] W fun e W' => e = .returned (.agg #[.int .i64 2, .bool false, .int .i64 V]) ∧ Below W.heap.size W W'):
    Calls Tryd.prog 20 #[.int .u64 x] w fun e w' => e = .returned (.string ((⟨#[64]⟩ : ByteArray) ++ s)) ∧ Below w.heap.size w w' := by
  have i2 := n2_
  have fl : ∀ W : World, (Instr.field 61 (.agg #[.string ⟨#[]⟩, .func (.func 47) #[] #[], .int .i64 1, .int .i64 16777215, .func (.func 48) #[] #[]]) 0).run Tryd.prog W = .ok (.string ⟨#[]⟩) W := fun _ => by kernel_rfl
  have HO := Lib.hid hO
  clear hO
  have HF := Lib.hid hF
  clear hF
  go_enter Tryd.func20, Tryd.ntmps20
  go_wp2_with fail
  refine (HO.out _).mono ?_; rintro e1 w1 ⟨rfl, hb1⟩; obtain ⟨hc1, hf1⟩ := bcell hb1; have hz1 := hb1.size; (try simp at hz1)
  go_wp2_with fail
  refine wp_region_held_drew (S := fun A => A.cell? ⟨w1.heap.size, 0, none⟩ = some (.int .i64 2)) (by kernel_rfl) ?hS0 (fun hHeld => ?_)
  case hS0 => simp [go_sem]
  (refine wpAnyH_take (i := 1) (oi := ?oiz1) (v := ?vz1) ?hiz1 ?hsz1 ?hfz1 ?hrz1 ?hQz1 ?hyz1 ?hSz1 ?hz1)
  (case hiz1 => rfl)
  (case hsz1 => kernel_rfl)
  (case hfz1 => kernel_rfl)
  (case hrz1 => kernel_rfl)
  (case hQz1 => first | exact fun _ _ _ h => h | exact fun _ _ _ h => (nomatch h.1))
  (case hSz1 => assumption)
  (case hyz1 => (refine Or.inl ⟨by rfl, ?_⟩; intro W hW; (try dsimp only at hW); go_simp; try with_reducible rfl))
  (try simp only [List.getElem_toArray, List.getElem_cons_succ, List.getElem_cons_zero, Act.put, List.setIfInBounds_toArray, List.set_cons_zero, List.set_cons_succ])
  (refine wpAnyH_take (i := 2) (oi := ?oiz2) (v := ?vz2) ?hiz2 ?hsz2 ?hfz2 ?hrz2 ?hQz2 ?hyz2 ?hSz2 ?hz2)
  (case hiz2 => rfl)
  (case hsz2 => kernel_rfl)
  (case hfz2 => kernel_rfl)
  (case hrz2 => kernel_rfl)
  (case hQz2 => first | exact fun _ _ _ h => h | exact fun _ _ _ h => (nomatch h.1))
  (case hSz2 => assumption)
  (case hyz2 => (refine Or.inl ⟨by rfl, ?_⟩; intro W hW; (try dsimp only at hW); go_simp; try with_reducible rfl))
  (try simp only [List.getElem_toArray, List.getElem_cons_succ, List.getElem_cons_zero, Act.put, List.setIfInBounds_toArray, List.set_cons_zero, List.set_cons_succ])
  refine wpAnyH_ready (rs := [0]) (by kernel_rfl) (by simp) ?_
  refine AllReadyH.cons rfl (fun K hK => ?_) (AllReadyH.nil)
  go_simp
  refine (rows_calls _).mono ?_
  rintro e2 w2 ⟨rfl, hb2⟩
  obtain ⟨hc2, hf2⟩ := bcell hb2
  have hz2 := hb2.size
  (try simp at hz2)
  have bq0 := hc2 w1.heap.size 0 (by first | omega | (simp; done) | (simp; omega)); simp [go_sem] at bq0
  have bq1 := hc2 w1.heap.size 1 (by first | omega | (simp; done) | (simp; omega)); simp [go_sem] at bq1
  have bq2 := hc2 w1.heap.size 2 (by first | omega | (simp; done) | (simp; omega)); simp [go_sem] at bq2
  refine hK.out _ _ bq0 (fun hHeld2 => ?_)
  clear hK K hHeld
  try simp only [List.getElem_toArray, List.getElem_cons_succ, List.getElem_cons_zero, Act.put, List.setIfInBounds_toArray, List.set_cons_zero, List.set_cons_succ]
  (refine wpAnyH_take (i := 3) (oi := ?oiz3) (v := ?vz3) ?hiz3 ?hsz3 ?hfz3 ?hrz3 ?hQz3 ?hyz3 ?hSz3 ?hz3)
  (case hiz3 => rfl)
  (case hsz3 => kernel_rfl)
  (case hfz3 => kernel_rfl)
  (case hrz3 => kernel_rfl)
  (case hQz3 => first | exact fun _ _ _ h => h | exact fun _ _ _ h => (nomatch h.1))
  (case hSz3 => assumption)
  (case hyz3 => (refine Or.inl ⟨by rfl, ?_⟩; intro W hW; (try dsimp only at hW); go_simp; try with_reducible rfl))
  (try simp only [List.getElem_toArray, List.getElem_cons_succ, List.getElem_cons_zero, Act.put, List.setIfInBounds_toArray, List.set_cons_zero, List.set_cons_succ])
  (refine wpAnyH_take (i := 4) (oi := ?oiz4) (v := ?vz4) ?hiz4 ?hsz4 ?hfz4 ?hrz4 ?hQz4 ?hyz4 ?hSz4 ?hz4)
  (case hiz4 => rfl)
  (case hsz4 => kernel_rfl)
  (case hfz4 => kernel_rfl)
  (case hrz4 => kernel_rfl)
  (case hQz4 => first | exact fun _ _ _ h => h | exact fun _ _ _ h => (nomatch h.1))
  (case hSz4 => assumption)
  (case hyz4 => (refine Or.inl ⟨by rfl, ?_⟩; intro W hW; (try dsimp only at hW); go_simp; try with_reducible rfl))
  (try simp only [List.getElem_toArray, List.getElem_cons_succ, List.getElem_cons_zero, Act.put, List.setIfInBounds_toArray, List.set_cons_zero, List.set_cons_succ])
  (refine wpAnyH_take (i := 5) (oi := ?oiz5) (v := ?vz5) ?hiz5 ?hsz5 ?hfz5 ?hrz5 ?hQz5 ?hyz5 ?hSz5 ?hz5)
  (case hiz5 => rfl)
  (case hsz5 => kernel_rfl)
  (case hfz5 => kernel_rfl)
  (case hrz5 => kernel_rfl)
  (case hQz5 => first | exact fun _ _ _ h => h | exact fun _ _ _ h => (nomatch h.1))
  (case hSz5 => assumption)
  (case hyz5 => (refine Or.inl ⟨by rfl, ?_⟩; intro W hW; (try dsimp only at hW); go_simp; try with_reducible rfl))
  (try simp only [List.getElem_toArray, List.getElem_cons_succ, List.getElem_cons_zero, Act.put, List.setIfInBounds_toArray, List.set_cons_zero, List.set_cons_succ])
  refine wpAnyH_done (by kernel_rfl) ?_ _
  clear hHeld2
  go_wp2_with fail
  refine (HF.out _ (by (repeat (first | exact Below.refl _ _ | (with_reducible assumption) | refine Below.drew ?_ | refine Below.drewN' ?_ _ | refine Below.alloc ?_ (by first | omega | (simp; done) | (simp; omega)) _ | refine Below.setCell ?_ (by first | omega | (simp; done) | (simp; omega)) _ | refine Below.then ?_ hb9 (by first | omega | (simp; done) | (simp; omega)) | refine Below.then ?_ hb8 (by first | omega | (simp; done) | (simp; omega)) | refine Below.then ?_ hb7 (by first | omega | (simp; done) | (simp; omega)) | refine Below.then ?_ hb6 (by first | omega | (simp; done) | (simp; omega)) | refine Below.then ?_ hb5 (by first | omega | (simp; done) | (simp; omega)) | refine Below.then ?_ hb4 (by first | omega | (simp; done) | (simp; omega)) | refine Below.then ?_ hb3 (by first | omega | (simp; done) | (simp; omega)) | refine Below.then ?_ hb2 (by first | omega | (simp; done) | (simp; omega)) | refine Below.then ?_ hb1 (by first | omega | (simp; done) | (simp; omega)))))).mono ?_
  rintro e3 w3 ⟨rfl, hb3⟩
  have hz3 := hb3.size
  replace bq0 := hold_cell (w2 := w3) bq0 (by (repeat (first | exact Below.refl _ _ | (with_reducible assumption) | refine Below.drew ?_ | refine Below.drewN' ?_ _ | refine Below.alloc ?_ (by first | omega | (simp; done) | (simp; omega)) _ | refine Below.setCell ?_ (by first | omega | (simp; done) | (simp; omega)) _ | refine Below.then ?_ hb9 (by first | omega | (simp; done) | (simp; omega)) | refine Below.then ?_ hb8 (by first | omega | (simp; done) | (simp; omega)) | refine Below.then ?_ hb7 (by first | omega | (simp; done) | (simp; omega)) | refine Below.then ?_ hb6 (by first | omega | (simp; done) | (simp; omega)) | refine Below.then ?_ hb5 (by first | omega | (simp; done) | (simp; omega)) | refine Below.then ?_ hb4 (by first | omega | (simp; done) | (simp; omega)) | refine Below.then ?_ hb3 (by first | omega | (simp; done) | (simp; omega)) | refine Below.then ?_ hb2 (by first | omega | (simp; done) | (simp; omega)) | refine Below.then ?_ hb1 (by first | omega | (simp; done) | (simp; omega))))) (by first | omega | (simp; done) | (simp; omega))
  replace bq1 := hold_cell (w2 := w3) bq1 (by (repeat (first | exact Below.refl _ _ | (with_reducible assumption) | refine Below.drew ?_ | refine Below.drewN' ?_ _ | refine Below.alloc ?_ (by first | omega | (simp; done) | (simp; omega)) _ | refine Below.setCell ?_ (by first | omega | (simp; done) | (simp; omega)) _ | refine Below.then ?_ hb9 (by first | omega | (simp; done) | (simp; omega)) | refine Below.then ?_ hb8 (by first | omega | (simp; done) | (simp; omega)) | refine Below.then ?_ hb7 (by first | omega | (simp; done) | (simp; omega)) | refine Below.then ?_ hb6 (by first | omega | (simp; done) | (simp; omega)) | refine Below.then ?_ hb5 (by first | omega | (simp; done) | (simp; omega)) | refine Below.then ?_ hb4 (by first | omega | (simp; done) | (simp; omega)) | refine Below.then ?_ hb3 (by first | omega | (simp; done) | (simp; omega)) | refine Below.then ?_ hb2 (by first | omega | (simp; done) | (simp; omega)) | refine Below.then ?_ hb1 (by first | omega | (simp; done) | (simp; omega))))) (by first | omega | (simp; done) | (simp; omega))
  replace bq2 := hold_cell (w2 := w3) bq2 (by (repeat (first | exact Below.refl _ _ | (with_reducible assumption) | refine Below.drew ?_ | refine Below.drewN' ?_ _ | refine Below.alloc ?_ (by first | omega | (simp; done) | (simp; omega)) _ | refine Below.setCell ?_ (by first | omega | (simp; done) | (simp; omega)) _ | refine Below.then ?_ hb9 (by first | omega | (simp; done) | (simp; omega)) | refine Below.then ?_ hb8 (by first | omega | (simp; done) | (simp; omega)) | refine Below.then ?_ hb7 (by first | omega | (simp; done) | (simp; omega)) | refine Below.then ?_ hb6 (by first | omega | (simp; done) | (simp; omega)) | refine Below.then ?_ hb5 (by first | omega | (simp; done) | (simp; omega)) | refine Below.then ?_ hb4 (by first | omega | (simp; done) | (simp; omega)) | refine Below.then ?_ hb3 (by first | omega | (simp; done) | (simp; omega)) | refine Below.then ?_ hb2 (by first | omega | (simp; done) | (simp; omega)) | refine Below.then ?_ hb1 (by first | omega | (simp; done) | (simp; omega))))) (by first | omega | (simp; done) | (simp; omega))
  go_wp2
  go_ret
  exact ⟨rfl, by (repeat (first | exact Below.refl _ _ | (with_reducible assumption) | refine Below.drew ?_ | refine Below.drewN' ?_ _ | refine Below.alloc ?_ (by first | omega | (simp; done) | (simp; omega)) _ | refine Below.setCell ?_ (by first | omega | (simp; done) | (simp; omega)) _ | refine Below.then ?_ hb9 (by first | omega | (simp; done) | (simp; omega)) | refine Below.then ?_ hb8 (by first | omega | (simp; done) | (simp; omega)) | refine Below.then ?_ hb7 (by first | omega | (simp; done) | (simp; omega)) | refine Below.then ?_ hb6 (by first | omega | (simp; done) | (simp; omega)) | refine Below.then ?_ hb5 (by first | omega | (simp; done) | (simp; omega)) | refine Below.then ?_ hb4 (by first | omega | (simp; done) | (simp; omega)) | refine Below.then ?_ hb3 (by first | omega | (simp; done) | (simp; omega)) | refine Below.then ?_ hb2 (by first | omega | (simp; done) | (simp; omega)) | refine Below.then ?_ hb1 (by first | omega | (simp; done) | (simp; omega))))⟩
set_option maxRecDepth 100000 in
set_option maxHeartbeats 1600000 in
theorem text_2t (x : Int) (V : Int) (s : ByteArray) (hs : s.size ≤ 30) (w : World) (hF : ∀ W, Below w.heap.size w W → Calls Tryd.prog 37 #[.int .i64 V, .int .i64 10] W fun e W' => e = .returned (.string s) ∧ Below W.heap.size W W') (hO : ∀ W, Calls Tryd.prog 11 #[.int .u64 x] W fun e W' => e = .returned (.agg #[.int .i64 2, .bool true, .int .i64 V]) ∧ Below W.heap.size W W'):
    Calls Tryd.prog 20 #[.int .u64 x] w fun e w' => e = .returned (.string ((⟨#[33]⟩ : ByteArray) ++ ((⟨#[64]⟩ : ByteArray) ++ s))) ∧ Below w.heap.size w w' := by
  have i2 := n2_
  have fl : ∀ W : World, (Instr.field 61 (.agg #[.string ⟨#[]⟩, .func (.func 47) #[] #[], .int .i64 1, .int .i64 16777215, .func (.func 48) #[] #[]]) 0).run Tryd.prog W = .ok (.string ⟨#[]⟩) W := fun _ => by kernel_rfl
  have HO := Lib.hid hO
  clear hO
  have HF := Lib.hid hF
  clear hF
  go_enter Tryd.func20, Tryd.ntmps20
  go_wp2_with fail
  refine (HO.out _).mono ?_; rintro e1 w1 ⟨rfl, hb1⟩; obtain ⟨hc1, hf1⟩ := bcell hb1; have hz1 := hb1.size; (try simp at hz1)
  go_wp2_with fail
  refine wp_region_held_drew (S := fun A => A.cell? ⟨w1.heap.size, 0, none⟩ = some (.int .i64 2)) (by kernel_rfl) ?hS0 (fun hHeld => ?_)
  case hS0 => simp [go_sem]
  (refine wpAnyH_take (i := 1) (oi := ?oiz1) (v := ?vz1) ?hiz1 ?hsz1 ?hfz1 ?hrz1 ?hQz1 ?hyz1 ?hSz1 ?hz1)
  (case hiz1 => rfl)
  (case hsz1 => kernel_rfl)
  (case hfz1 => kernel_rfl)
  (case hrz1 => kernel_rfl)
  (case hQz1 => first | exact fun _ _ _ h => h | exact fun _ _ _ h => (nomatch h.1))
  (case hSz1 => assumption)
  (case hyz1 => (refine Or.inl ⟨by rfl, ?_⟩; intro W hW; (try dsimp only at hW); go_simp; try with_reducible rfl))
  (try simp only [List.getElem_toArray, List.getElem_cons_succ, List.getElem_cons_zero, Act.put, List.setIfInBounds_toArray, List.set_cons_zero, List.set_cons_succ])
  (refine wpAnyH_take (i := 2) (oi := ?oiz2) (v := ?vz2) ?hiz2 ?hsz2 ?hfz2 ?hrz2 ?hQz2 ?hyz2 ?hSz2 ?hz2)
  (case hiz2 => rfl)
  (case hsz2 => kernel_rfl)
  (case hfz2 => kernel_rfl)
  (case hrz2 => kernel_rfl)
  (case hQz2 => first | exact fun _ _ _ h => h | exact fun _ _ _ h => (nomatch h.1))
  (case hSz2 => assumption)
  (case hyz2 => (refine Or.inl ⟨by rfl, ?_⟩; intro W hW; (try dsimp only at hW); go_simp; try with_reducible rfl))
  (try simp only [List.getElem_toArray, List.getElem_cons_succ, List.getElem_cons_zero, Act.put, List.setIfInBounds_toArray, List.set_cons_zero, List.set_cons_succ])
  refine wpAnyH_ready (rs := [0]) (by kernel_rfl) (by simp) ?_
  refine AllReadyH.cons rfl (fun K hK => ?_) (AllReadyH.nil)
  go_simp
  refine (rows_calls _).mono ?_
  rintro e2 w2 ⟨rfl, hb2⟩
  obtain ⟨hc2, hf2⟩ := bcell hb2
  have hz2 := hb2.size
  (try simp at hz2)
  have bq0 := hc2 w1.heap.size 0 (by first | omega | (simp; done) | (simp; omega)); simp [go_sem] at bq0
  have bq1 := hc2 w1.heap.size 1 (by first | omega | (simp; done) | (simp; omega)); simp [go_sem] at bq1
  have bq2 := hc2 w1.heap.size 2 (by first | omega | (simp; done) | (simp; omega)); simp [go_sem] at bq2
  refine hK.out _ _ bq0 (fun hHeld2 => ?_)
  clear hK K hHeld
  try simp only [List.getElem_toArray, List.getElem_cons_succ, List.getElem_cons_zero, Act.put, List.setIfInBounds_toArray, List.set_cons_zero, List.set_cons_succ]
  (refine wpAnyH_take (i := 3) (oi := ?oiz3) (v := ?vz3) ?hiz3 ?hsz3 ?hfz3 ?hrz3 ?hQz3 ?hyz3 ?hSz3 ?hz3)
  (case hiz3 => rfl)
  (case hsz3 => kernel_rfl)
  (case hfz3 => kernel_rfl)
  (case hrz3 => kernel_rfl)
  (case hQz3 => first | exact fun _ _ _ h => h | exact fun _ _ _ h => (nomatch h.1))
  (case hSz3 => assumption)
  (case hyz3 => (refine Or.inl ⟨by rfl, ?_⟩; intro W hW; (try dsimp only at hW); go_simp; try with_reducible rfl))
  (try simp only [List.getElem_toArray, List.getElem_cons_succ, List.getElem_cons_zero, Act.put, List.setIfInBounds_toArray, List.set_cons_zero, List.set_cons_succ])
  (refine wpAnyH_take (i := 4) (oi := ?oiz4) (v := ?vz4) ?hiz4 ?hsz4 ?hfz4 ?hrz4 ?hQz4 ?hyz4 ?hSz4 ?hz4)
  (case hiz4 => rfl)
  (case hsz4 => kernel_rfl)
  (case hfz4 => kernel_rfl)
  (case hrz4 => kernel_rfl)
  (case hQz4 => first | exact fun _ _ _ h => h | exact fun _ _ _ h => (nomatch h.1))
  (case hSz4 => assumption)
  (case hyz4 => (refine Or.inl ⟨by rfl, ?_⟩; intro W hW; (try dsimp only at hW); go_simp; try with_reducible rfl))
  (try simp only [List.getElem_toArray, List.getElem_cons_succ, List.getElem_cons_zero, Act.put, List.setIfInBounds_toArray, List.set_cons_zero, List.set_cons_succ])
  (refine wpAnyH_take (i := 5) (oi := ?oiz5) (v := ?vz5) ?hiz5 ?hsz5 ?hfz5 ?hrz5 ?hQz5 ?hyz5 ?hSz5 ?hz5)
  (case hiz5 => rfl)
  (case hsz5 => kernel_rfl)
  (case hfz5 => kernel_rfl)
  (case hrz5 => kernel_rfl)
  (case hQz5 => first | exact fun _ _ _ h => h | exact fun _ _ _ h => (nomatch h.1))
  (case hSz5 => assumption)
  (case hyz5 => (refine Or.inl ⟨by rfl, ?_⟩; intro W hW; (try dsimp only at hW); go_simp; try with_reducible rfl))
  (try simp only [List.getElem_toArray, List.getElem_cons_succ, List.getElem_cons_zero, Act.put, List.setIfInBounds_toArray, List.set_cons_zero, List.set_cons_succ])
  refine wpAnyH_done (by kernel_rfl) ?_ _
  clear hHeld2
  go_wp2_with fail
  refine (HF.out _ (by (repeat (first | exact Below.refl _ _ | (with_reducible assumption) | refine Below.drew ?_ | refine Below.drewN' ?_ _ | refine Below.alloc ?_ (by first | omega | (simp; done) | (simp; omega)) _ | refine Below.setCell ?_ (by first | omega | (simp; done) | (simp; omega)) _ | refine Below.then ?_ hb9 (by first | omega | (simp; done) | (simp; omega)) | refine Below.then ?_ hb8 (by first | omega | (simp; done) | (simp; omega)) | refine Below.then ?_ hb7 (by first | omega | (simp; done) | (simp; omega)) | refine Below.then ?_ hb6 (by first | omega | (simp; done) | (simp; omega)) | refine Below.then ?_ hb5 (by first | omega | (simp; done) | (simp; omega)) | refine Below.then ?_ hb4 (by first | omega | (simp; done) | (simp; omega)) | refine Below.then ?_ hb3 (by first | omega | (simp; done) | (simp; omega)) | refine Below.then ?_ hb2 (by first | omega | (simp; done) | (simp; omega)) | refine Below.then ?_ hb1 (by first | omega | (simp; done) | (simp; omega)))))).mono ?_
  rintro e3 w3 ⟨rfl, hb3⟩
  have hz3 := hb3.size
  replace bq0 := hold_cell (w2 := w3) bq0 (by (repeat (first | exact Below.refl _ _ | (with_reducible assumption) | refine Below.drew ?_ | refine Below.drewN' ?_ _ | refine Below.alloc ?_ (by first | omega | (simp; done) | (simp; omega)) _ | refine Below.setCell ?_ (by first | omega | (simp; done) | (simp; omega)) _ | refine Below.then ?_ hb9 (by first | omega | (simp; done) | (simp; omega)) | refine Below.then ?_ hb8 (by first | omega | (simp; done) | (simp; omega)) | refine Below.then ?_ hb7 (by first | omega | (simp; done) | (simp; omega)) | refine Below.then ?_ hb6 (by first | omega | (simp; done) | (simp; omega)) | refine Below.then ?_ hb5 (by first | omega | (simp; done) | (simp; omega)) | refine Below.then ?_ hb4 (by first | omega | (simp; done) | (simp; omega)) | refine Below.then ?_ hb3 (by first | omega | (simp; done) | (simp; omega)) | refine Below.then ?_ hb2 (by first | omega | (simp; done) | (simp; omega)) | refine Below.then ?_ hb1 (by first | omega | (simp; done) | (simp; omega))))) (by first | omega | (simp; done) | (simp; omega))
  replace bq1 := hold_cell (w2 := w3) bq1 (by (repeat (first | exact Below.refl _ _ | (with_reducible assumption) | refine Below.drew ?_ | refine Below.drewN' ?_ _ | refine Below.alloc ?_ (by first | omega | (simp; done) | (simp; omega)) _ | refine Below.setCell ?_ (by first | omega | (simp; done) | (simp; omega)) _ | refine Below.then ?_ hb9 (by first | omega | (simp; done) | (simp; omega)) | refine Below.then ?_ hb8 (by first | omega | (simp; done) | (simp; omega)) | refine Below.then ?_ hb7 (by first | omega | (simp; done) | (simp; omega)) | refine Below.then ?_ hb6 (by first | omega | (simp; done) | (simp; omega)) | refine Below.then ?_ hb5 (by first | omega | (simp; done) | (simp; omega)) | refine Below.then ?_ hb4 (by first | omega | (simp; done) | (simp; omega)) | refine Below.then ?_ hb3 (by first | omega | (simp; done) | (simp; omega)) | refine Below.then ?_ hb2 (by first | omega | (simp; done) | (simp; omega)) | refine Below.then ?_ hb1 (by first | omega | (simp; done) | (simp; omega))))) (by first | omega | (simp; done) | (simp; omega))
  replace bq2 := hold_cell (w2 := w3) bq2 (by (repeat (first | exact Below.refl _ _ | (with_reducible assumption) | refine Below.drew ?_ | refine Below.drewN' ?_ _ | refine Below.alloc ?_ (by first | omega | (simp; done) | (simp; omega)) _ | refine Below.setCell ?_ (by first | omega | (simp; done) | (simp; omega)) _ | refine Below.then ?_ hb9 (by first | omega | (simp; done) | (simp; omega)) | refine Below.then ?_ hb8 (by first | omega | (simp; done) | (simp; omega)) | refine Below.then ?_ hb7 (by first | omega | (simp; done) | (simp; omega)) | refine Below.then ?_ hb6 (by first | omega | (simp; done) | (simp; omega)) | refine Below.then ?_ hb5 (by first | omega | (simp; done) | (simp; omega)) | refine Below.then ?_ hb4 (by first | omega | (simp; done) | (simp; omega)) | refine Below.then ?_ hb3 (by first | omega | (simp; done) | (simp; omega)) | refine Below.then ?_ hb2 (by first | omega | (simp; done) | (simp; omega)) | refine Below.then ?_ hb1 (by first | omega | (simp; done) | (simp; omega))))) (by first | omega | (simp; done) | (simp; omega))
  go_wp2
  go_ret
  exact ⟨rfl, by (repeat (first | exact Below.refl _ _ | (with_reducible assumption) | refine Below.drew ?_ | refine Below.drewN' ?_ _ | refine Below.alloc ?_ (by first | omega | (simp; done) | (simp; omega)) _ | refine Below.setCell ?_ (by first | omega | (simp; done) | (simp; omega)) _ | refine Below.then ?_ hb9 (by first | omega | (simp; done) | (simp; omega)) | refine Below.then ?_ hb8 (by first | omega | (simp; done) | (simp; omega)) | refine Below.then ?_ hb7 (by first | omega | (simp; done) | (simp; omega)) | refine Below.then ?_ hb6 (by first | omega | (simp; done) | (simp; omega)) | refine Below.then ?_ hb5 (by first | omega | (simp; done) | (simp; omega)) | refine Below.then ?_ hb4 (by first | omega | (simp; done) | (simp; omega)) | refine Below.then ?_ hb3 (by first | omega | (simp; done) | (simp; omega)) | refine Below.then ?_ hb2 (by first | omega | (simp; done) | (simp; omega)) | refine Below.then ?_ hb1 (by first | omega | (simp; done) | (simp; omega))))⟩
set_option maxRecDepth 100000 in
set_option maxHeartbeats 1600000 in
theorem text_3f (x : Int) (V : Int) (s : ByteArray) (hs : s.size ≤ 30) (w : World) (hF : ∀ W, Below w.heap.size w W → Calls Tryd.prog 37 #[.int .i64 V, .int .i64 10] W fun e W' => e = .returned (.string s) ∧ Below W.heap.size W W') (hO : ∀ W, Calls Tryd.prog 11 #[.int .u64 x] W fun e W' => e = .returned (.agg #[.int .i64 3, .bool false, .int .i64 V]) ∧ Below W.heap.size W W'):
    Calls Tryd.prog 20 #[.int .u64 x] w fun e w' => e = .returned (.string (s)) ∧ Below w.heap.size w w' := by
  have i3 := n3_
  have fl : ∀ W : World, (Instr.field 61 (.agg #[.string ⟨#[]⟩, .func (.func 49) #[] #[], .int .i64 (-576460752303423488), .int .i64 576460752303423487, .func (.func 50) #[] #[]]) 0).run Tryd.prog W = .ok (.string ⟨#[]⟩) W := fun _ => by kernel_rfl
  have HO := Lib.hid hO
  clear hO
  have HF := Lib.hid hF
  clear hF
  go_enter Tryd.func20, Tryd.ntmps20
  go_wp2_with fail
  refine (HO.out _).mono ?_; rintro e1 w1 ⟨rfl, hb1⟩; obtain ⟨hc1, hf1⟩ := bcell hb1; have hz1 := hb1.size; (try simp at hz1)
  go_wp2_with fail
  refine wp_region_held_drew (S := fun A => A.cell? ⟨w1.heap.size, 0, none⟩ = some (.int .i64 3)) (by kernel_rfl) ?hS0 (fun hHeld => ?_)
  case hS0 => simp [go_sem]
  (refine wpAnyH_take (i := 1) (oi := ?oiz1) (v := ?vz1) ?hiz1 ?hsz1 ?hfz1 ?hrz1 ?hQz1 ?hyz1 ?hSz1 ?hz1)
  (case hiz1 => rfl)
  (case hsz1 => kernel_rfl)
  (case hfz1 => kernel_rfl)
  (case hrz1 => kernel_rfl)
  (case hQz1 => first | exact fun _ _ _ h => h | exact fun _ _ _ h => (nomatch h.1))
  (case hSz1 => assumption)
  (case hyz1 => (refine Or.inl ⟨by rfl, ?_⟩; intro W hW; (try dsimp only at hW); go_simp; try with_reducible rfl))
  (try simp only [List.getElem_toArray, List.getElem_cons_succ, List.getElem_cons_zero, Act.put, List.setIfInBounds_toArray, List.set_cons_zero, List.set_cons_succ])
  (refine wpAnyH_take (i := 2) (oi := ?oiz2) (v := ?vz2) ?hiz2 ?hsz2 ?hfz2 ?hrz2 ?hQz2 ?hyz2 ?hSz2 ?hz2)
  (case hiz2 => rfl)
  (case hsz2 => kernel_rfl)
  (case hfz2 => kernel_rfl)
  (case hrz2 => kernel_rfl)
  (case hQz2 => first | exact fun _ _ _ h => h | exact fun _ _ _ h => (nomatch h.1))
  (case hSz2 => assumption)
  (case hyz2 => (refine Or.inl ⟨by rfl, ?_⟩; intro W hW; (try dsimp only at hW); go_simp; try with_reducible rfl))
  (try simp only [List.getElem_toArray, List.getElem_cons_succ, List.getElem_cons_zero, Act.put, List.setIfInBounds_toArray, List.set_cons_zero, List.set_cons_succ])
  refine wpAnyH_ready (rs := [0]) (by kernel_rfl) (by simp) ?_
  refine AllReadyH.cons rfl (fun K hK => ?_) (AllReadyH.nil)
  go_simp
  refine (rows_calls _).mono ?_
  rintro e2 w2 ⟨rfl, hb2⟩
  obtain ⟨hc2, hf2⟩ := bcell hb2
  have hz2 := hb2.size
  (try simp at hz2)
  have bq0 := hc2 w1.heap.size 0 (by first | omega | (simp; done) | (simp; omega)); simp [go_sem] at bq0
  have bq1 := hc2 w1.heap.size 1 (by first | omega | (simp; done) | (simp; omega)); simp [go_sem] at bq1
  have bq2 := hc2 w1.heap.size 2 (by first | omega | (simp; done) | (simp; omega)); simp [go_sem] at bq2
  refine hK.out _ _ bq0 (fun hHeld2 => ?_)
  clear hK K hHeld
  try simp only [List.getElem_toArray, List.getElem_cons_succ, List.getElem_cons_zero, Act.put, List.setIfInBounds_toArray, List.set_cons_zero, List.set_cons_succ]
  (refine wpAnyH_take (i := 3) (oi := ?oiz3) (v := ?vz3) ?hiz3 ?hsz3 ?hfz3 ?hrz3 ?hQz3 ?hyz3 ?hSz3 ?hz3)
  (case hiz3 => rfl)
  (case hsz3 => kernel_rfl)
  (case hfz3 => kernel_rfl)
  (case hrz3 => kernel_rfl)
  (case hQz3 => first | exact fun _ _ _ h => h | exact fun _ _ _ h => (nomatch h.1))
  (case hSz3 => assumption)
  (case hyz3 => (refine Or.inl ⟨by rfl, ?_⟩; intro W hW; (try dsimp only at hW); go_simp; try with_reducible rfl))
  (try simp only [List.getElem_toArray, List.getElem_cons_succ, List.getElem_cons_zero, Act.put, List.setIfInBounds_toArray, List.set_cons_zero, List.set_cons_succ])
  (refine wpAnyH_take (i := 4) (oi := ?oiz4) (v := ?vz4) ?hiz4 ?hsz4 ?hfz4 ?hrz4 ?hQz4 ?hyz4 ?hSz4 ?hz4)
  (case hiz4 => rfl)
  (case hsz4 => kernel_rfl)
  (case hfz4 => kernel_rfl)
  (case hrz4 => kernel_rfl)
  (case hQz4 => first | exact fun _ _ _ h => h | exact fun _ _ _ h => (nomatch h.1))
  (case hSz4 => assumption)
  (case hyz4 => (refine Or.inl ⟨by rfl, ?_⟩; intro W hW; (try dsimp only at hW); go_simp; try with_reducible rfl))
  (try simp only [List.getElem_toArray, List.getElem_cons_succ, List.getElem_cons_zero, Act.put, List.setIfInBounds_toArray, List.set_cons_zero, List.set_cons_succ])
  (refine wpAnyH_take (i := 5) (oi := ?oiz5) (v := ?vz5) ?hiz5 ?hsz5 ?hfz5 ?hrz5 ?hQz5 ?hyz5 ?hSz5 ?hz5)
  (case hiz5 => rfl)
  (case hsz5 => kernel_rfl)
  (case hfz5 => kernel_rfl)
  (case hrz5 => kernel_rfl)
  (case hQz5 => first | exact fun _ _ _ h => h | exact fun _ _ _ h => (nomatch h.1))
  (case hSz5 => assumption)
  (case hyz5 => (refine Or.inl ⟨by rfl, ?_⟩; intro W hW; (try dsimp only at hW); go_simp; try with_reducible rfl))
  (try simp only [List.getElem_toArray, List.getElem_cons_succ, List.getElem_cons_zero, Act.put, List.setIfInBounds_toArray, List.set_cons_zero, List.set_cons_succ])
  refine wpAnyH_done (by kernel_rfl) ?_ _
  clear hHeld2
  go_wp2_with fail
  refine (HF.out _ (by (repeat (first | exact Below.refl _ _ | (with_reducible assumption) | refine Below.drew ?_ | refine Below.drewN' ?_ _ | refine Below.alloc ?_ (by first | omega | (simp; done) | (simp; omega)) _ | refine Below.setCell ?_ (by first | omega | (simp; done) | (simp; omega)) _ | refine Below.then ?_ hb9 (by first | omega | (simp; done) | (simp; omega)) | refine Below.then ?_ hb8 (by first | omega | (simp; done) | (simp; omega)) | refine Below.then ?_ hb7 (by first | omega | (simp; done) | (simp; omega)) | refine Below.then ?_ hb6 (by first | omega | (simp; done) | (simp; omega)) | refine Below.then ?_ hb5 (by first | omega | (simp; done) | (simp; omega)) | refine Below.then ?_ hb4 (by first | omega | (simp; done) | (simp; omega)) | refine Below.then ?_ hb3 (by first | omega | (simp; done) | (simp; omega)) | refine Below.then ?_ hb2 (by first | omega | (simp; done) | (simp; omega)) | refine Below.then ?_ hb1 (by first | omega | (simp; done) | (simp; omega)))))).mono ?_
  rintro e3 w3 ⟨rfl, hb3⟩
  have hz3 := hb3.size
  replace bq0 := hold_cell (w2 := w3) bq0 (by (repeat (first | exact Below.refl _ _ | (with_reducible assumption) | refine Below.drew ?_ | refine Below.drewN' ?_ _ | refine Below.alloc ?_ (by first | omega | (simp; done) | (simp; omega)) _ | refine Below.setCell ?_ (by first | omega | (simp; done) | (simp; omega)) _ | refine Below.then ?_ hb9 (by first | omega | (simp; done) | (simp; omega)) | refine Below.then ?_ hb8 (by first | omega | (simp; done) | (simp; omega)) | refine Below.then ?_ hb7 (by first | omega | (simp; done) | (simp; omega)) | refine Below.then ?_ hb6 (by first | omega | (simp; done) | (simp; omega)) | refine Below.then ?_ hb5 (by first | omega | (simp; done) | (simp; omega)) | refine Below.then ?_ hb4 (by first | omega | (simp; done) | (simp; omega)) | refine Below.then ?_ hb3 (by first | omega | (simp; done) | (simp; omega)) | refine Below.then ?_ hb2 (by first | omega | (simp; done) | (simp; omega)) | refine Below.then ?_ hb1 (by first | omega | (simp; done) | (simp; omega))))) (by first | omega | (simp; done) | (simp; omega))
  replace bq1 := hold_cell (w2 := w3) bq1 (by (repeat (first | exact Below.refl _ _ | (with_reducible assumption) | refine Below.drew ?_ | refine Below.drewN' ?_ _ | refine Below.alloc ?_ (by first | omega | (simp; done) | (simp; omega)) _ | refine Below.setCell ?_ (by first | omega | (simp; done) | (simp; omega)) _ | refine Below.then ?_ hb9 (by first | omega | (simp; done) | (simp; omega)) | refine Below.then ?_ hb8 (by first | omega | (simp; done) | (simp; omega)) | refine Below.then ?_ hb7 (by first | omega | (simp; done) | (simp; omega)) | refine Below.then ?_ hb6 (by first | omega | (simp; done) | (simp; omega)) | refine Below.then ?_ hb5 (by first | omega | (simp; done) | (simp; omega)) | refine Below.then ?_ hb4 (by first | omega | (simp; done) | (simp; omega)) | refine Below.then ?_ hb3 (by first | omega | (simp; done) | (simp; omega)) | refine Below.then ?_ hb2 (by first | omega | (simp; done) | (simp; omega)) | refine Below.then ?_ hb1 (by first | omega | (simp; done) | (simp; omega))))) (by first | omega | (simp; done) | (simp; omega))
  replace bq2 := hold_cell (w2 := w3) bq2 (by (repeat (first | exact Below.refl _ _ | (with_reducible assumption) | refine Below.drew ?_ | refine Below.drewN' ?_ _ | refine Below.alloc ?_ (by first | omega | (simp; done) | (simp; omega)) _ | refine Below.setCell ?_ (by first | omega | (simp; done) | (simp; omega)) _ | refine Below.then ?_ hb9 (by first | omega | (simp; done) | (simp; omega)) | refine Below.then ?_ hb8 (by first | omega | (simp; done) | (simp; omega)) | refine Below.then ?_ hb7 (by first | omega | (simp; done) | (simp; omega)) | refine Below.then ?_ hb6 (by first | omega | (simp; done) | (simp; omega)) | refine Below.then ?_ hb5 (by first | omega | (simp; done) | (simp; omega)) | refine Below.then ?_ hb4 (by first | omega | (simp; done) | (simp; omega)) | refine Below.then ?_ hb3 (by first | omega | (simp; done) | (simp; omega)) | refine Below.then ?_ hb2 (by first | omega | (simp; done) | (simp; omega)) | refine Below.then ?_ hb1 (by first | omega | (simp; done) | (simp; omega))))) (by first | omega | (simp; done) | (simp; omega))
  go_wp2
  go_ret
  exact ⟨rfl, by (repeat (first | exact Below.refl _ _ | (with_reducible assumption) | refine Below.drew ?_ | refine Below.drewN' ?_ _ | refine Below.alloc ?_ (by first | omega | (simp; done) | (simp; omega)) _ | refine Below.setCell ?_ (by first | omega | (simp; done) | (simp; omega)) _ | refine Below.then ?_ hb9 (by first | omega | (simp; done) | (simp; omega)) | refine Below.then ?_ hb8 (by first | omega | (simp; done) | (simp; omega)) | refine Below.then ?_ hb7 (by first | omega | (simp; done) | (simp; omega)) | refine Below.then ?_ hb6 (by first | omega | (simp; done) | (simp; omega)) | refine Below.then ?_ hb5 (by first | omega | (simp; done) | (simp; omega)) | refine Below.then ?_ hb4 (by first | omega | (simp; done) | (simp; omega)) | refine Below.then ?_ hb3 (by first | omega | (simp; done) | (simp; omega)) | refine Below.then ?_ hb2 (by first | omega | (simp; done) | (simp; omega)) | refine Below.then ?_ hb1 (by first | omega | (simp; done) | (simp; omega))))⟩
set_option maxRecDepth 100000 in
set_option maxHeartbeats 1600000 in
theorem text_3t (x : Int) (V : Int) (s : ByteArray) (hs : s.size ≤ 30) (w : World) (hF : ∀ W, Below w.heap.size w W → Calls Tryd.prog 37 #[.int .i64 V, .int .i64 10] W fun e W' => e = .returned (.string s) ∧ Below W.heap.size W W') (hO : ∀ W, Calls Tryd.prog 11 #[.int .u64 x] W fun e W' => e = .returned (.agg #[.int .i64 3, .bool true, .int .i64 V]) ∧ Below W.heap.size W W'):
    Calls Tryd.prog 20 #[.int .u64 x] w fun e w' => e = .returned (.string ((⟨#[33]⟩ : ByteArray) ++ s)) ∧ Below w.heap.size w w' := by
  have i3 := n3_
  have fl : ∀ W : World, (Instr.field 61 (.agg #[.string ⟨#[]⟩, .func (.func 49) #[] #[], .int .i64 (-576460752303423488), .int .i64 576460752303423487, .func (.func 50) #[] #[]]) 0).run Tryd.prog W = .ok (.string ⟨#[]⟩) W := fun _ => by kernel_rfl
  have HO := Lib.hid hO
  clear hO
  have HF := Lib.hid hF
  clear hF
  go_enter Tryd.func20, Tryd.ntmps20
  go_wp2_with fail
  refine (HO.out _).mono ?_; rintro e1 w1 ⟨rfl, hb1⟩; obtain ⟨hc1, hf1⟩ := bcell hb1; have hz1 := hb1.size; (try simp at hz1)
  go_wp2_with fail
  refine wp_region_held_drew (S := fun A => A.cell? ⟨w1.heap.size, 0, none⟩ = some (.int .i64 3)) (by kernel_rfl) ?hS0 (fun hHeld => ?_)
  case hS0 => simp [go_sem]
  (refine wpAnyH_take (i := 1) (oi := ?oiz1) (v := ?vz1) ?hiz1 ?hsz1 ?hfz1 ?hrz1 ?hQz1 ?hyz1 ?hSz1 ?hz1)
  (case hiz1 => rfl)
  (case hsz1 => kernel_rfl)
  (case hfz1 => kernel_rfl)
  (case hrz1 => kernel_rfl)
  (case hQz1 => first | exact fun _ _ _ h => h | exact fun _ _ _ h => (nomatch h.1))
  (case hSz1 => assumption)
  (case hyz1 => (refine Or.inl ⟨by rfl, ?_⟩; intro W hW; (try dsimp only at hW); go_simp; try with_reducible rfl))
  (try simp only [List.getElem_toArray, List.getElem_cons_succ, List.getElem_cons_zero, Act.put, List.setIfInBounds_toArray, List.set_cons_zero, List.set_cons_succ])
  (refine wpAnyH_take (i := 2) (oi := ?oiz2) (v := ?vz2) ?hiz2 ?hsz2 ?hfz2 ?hrz2 ?hQz2 ?hyz2 ?hSz2 ?hz2)
  (case hiz2 => rfl)
  (case hsz2 => kernel_rfl)
  (case hfz2 => kernel_rfl)
  (case hrz2 => kernel_rfl)
  (case hQz2 => first | exact fun _ _ _ h => h | exact fun _ _ _ h => (nomatch h.1))
  (case hSz2 => assumption)
  (case hyz2 => (refine Or.inl ⟨by rfl, ?_⟩; intro W hW; (try dsimp only at hW); go_simp; try with_reducible rfl))
  (try simp only [List.getElem_toArray, List.getElem_cons_succ, List.getElem_cons_zero, Act.put, List.setIfInBounds_toArray, List.set_cons_zero, List.set_cons_succ])
  refine wpAnyH_ready (rs := [0]) (by kernel_rfl) (by simp) ?_
  refine AllReadyH.cons rfl (fun K hK => ?_) (AllReadyH.nil)
  go_simp
  refine (rows_calls _).mono ?_
  rintro e2 w2 ⟨rfl, hb2⟩
  obtain ⟨hc2, hf2⟩ := bcell hb2
  have hz2 := hb2.size
  (try simp at hz2)
  have bq0 := hc2 w1.heap.size 0 (by first | omega | (simp; done) | (simp; omega)); simp [go_sem] at bq0
  have bq1 := hc2 w1.heap.size 1 (by first | omega | (simp; done) | (simp; omega)); simp [go_sem] at bq1
  have bq2 := hc2 w1.heap.size 2 (by first | omega | (simp; done) | (simp; omega)); simp [go_sem] at bq2
  refine hK.out _ _ bq0 (fun hHeld2 => ?_)
  clear hK K hHeld
  try simp only [List.getElem_toArray, List.getElem_cons_succ, List.getElem_cons_zero, Act.put, List.setIfInBounds_toArray, List.set_cons_zero, List.set_cons_succ]
  (refine wpAnyH_take (i := 3) (oi := ?oiz3) (v := ?vz3) ?hiz3 ?hsz3 ?hfz3 ?hrz3 ?hQz3 ?hyz3 ?hSz3 ?hz3)
  (case hiz3 => rfl)
  (case hsz3 => kernel_rfl)
  (case hfz3 => kernel_rfl)
  (case hrz3 => kernel_rfl)
  (case hQz3 => first | exact fun _ _ _ h => h | exact fun _ _ _ h => (nomatch h.1))
  (case hSz3 => assumption)
  (case hyz3 => (refine Or.inl ⟨by rfl, ?_⟩; intro W hW; (try dsimp only at hW); go_simp; try with_reducible rfl))
  (try simp only [List.getElem_toArray, List.getElem_cons_succ, List.getElem_cons_zero, Act.put, List.setIfInBounds_toArray, List.set_cons_zero, List.set_cons_succ])
  (refine wpAnyH_take (i := 4) (oi := ?oiz4) (v := ?vz4) ?hiz4 ?hsz4 ?hfz4 ?hrz4 ?hQz4 ?hyz4 ?hSz4 ?hz4)
  (case hiz4 => rfl)
  (case hsz4 => kernel_rfl)
  (case hfz4 => kernel_rfl)
  (case hrz4 => kernel_rfl)
  (case hQz4 => first | exact fun _ _ _ h => h | exact fun _ _ _ h => (nomatch h.1))
  (case hSz4 => assumption)
  (case hyz4 => (refine Or.inl ⟨by rfl, ?_⟩; intro W hW; (try dsimp only at hW); go_simp; try with_reducible rfl))
  (try simp only [List.getElem_toArray, List.getElem_cons_succ, List.getElem_cons_zero, Act.put, List.setIfInBounds_toArray, List.set_cons_zero, List.set_cons_succ])
  (refine wpAnyH_take (i := 5) (oi := ?oiz5) (v := ?vz5) ?hiz5 ?hsz5 ?hfz5 ?hrz5 ?hQz5 ?hyz5 ?hSz5 ?hz5)
  (case hiz5 => rfl)
  (case hsz5 => kernel_rfl)
  (case hfz5 => kernel_rfl)
  (case hrz5 => kernel_rfl)
  (case hQz5 => first | exact fun _ _ _ h => h | exact fun _ _ _ h => (nomatch h.1))
  (case hSz5 => assumption)
  (case hyz5 => (refine Or.inl ⟨by rfl, ?_⟩; intro W hW; (try dsimp only at hW); go_simp; try with_reducible rfl))
  (try simp only [List.getElem_toArray, List.getElem_cons_succ, List.getElem_cons_zero, Act.put, List.setIfInBounds_toArray, List.set_cons_zero, List.set_cons_succ])
  refine wpAnyH_done (by kernel_rfl) ?_ _
  clear hHeld2
  go_wp2_with fail
  refine (HF.out _ (by (repeat (first | exact Below.refl _ _ | (with_reducible assumption) | refine Below.drew ?_ | refine Below.drewN' ?_ _ | refine Below.alloc ?_ (by first | omega | (simp; done) | (simp; omega)) _ | refine Below.setCell ?_ (by first | omega | (simp; done) | (simp; omega)) _ | refine Below.then ?_ hb9 (by first | omega | (simp; done) | (simp; omega)) | refine Below.then ?_ hb8 (by first | omega | (simp; done) | (simp; omega)) | refine Below.then ?_ hb7 (by first | omega | (simp; done) | (simp; omega)) | refine Below.then ?_ hb6 (by first | omega | (simp; done) | (simp; omega)) | refine Below.then ?_ hb5 (by first | omega | (simp; done) | (simp; omega)) | refine Below.then ?_ hb4 (by first | omega | (simp; done) | (simp; omega)) | refine Below.then ?_ hb3 (by first | omega | (simp; done) | (simp; omega)) | refine Below.then ?_ hb2 (by first | omega | (simp; done) | (simp; omega)) | refine Below.then ?_ hb1 (by first | omega | (simp; done) | (simp; omega)))))).mono ?_
  rintro e3 w3 ⟨rfl, hb3⟩
  have hz3 := hb3.size
  replace bq0 := hold_cell (w2 := w3) bq0 (by (repeat (first | exact Below.refl _ _ | (with_reducible assumption) | refine Below.drew ?_ | refine Below.drewN' ?_ _ | refine Below.alloc ?_ (by first | omega | (simp; done) | (simp; omega)) _ | refine Below.setCell ?_ (by first | omega | (simp; done) | (simp; omega)) _ | refine Below.then ?_ hb9 (by first | omega | (simp; done) | (simp; omega)) | refine Below.then ?_ hb8 (by first | omega | (simp; done) | (simp; omega)) | refine Below.then ?_ hb7 (by first | omega | (simp; done) | (simp; omega)) | refine Below.then ?_ hb6 (by first | omega | (simp; done) | (simp; omega)) | refine Below.then ?_ hb5 (by first | omega | (simp; done) | (simp; omega)) | refine Below.then ?_ hb4 (by first | omega | (simp; done) | (simp; omega)) | refine Below.then ?_ hb3 (by first | omega | (simp; done) | (simp; omega)) | refine Below.then ?_ hb2 (by first | omega | (simp; done) | (simp; omega)) | refine Below.then ?_ hb1 (by first | omega | (simp; done) | (simp; omega))))) (by first | omega | (simp; done) | (simp; omega))
  replace bq1 := hold_cell (w2 := w3) bq1 (by (repeat (first | exact Below.refl _ _ | (with_reducible assumption) | refine Below.drew ?_ | refine Below.drewN' ?_ _ | refine Below.alloc ?_ (by first | omega | (simp; done) | (simp; omega)) _ | refine Below.setCell ?_ (by first | omega | (simp; done) | (simp; omega)) _ | refine Below.then ?_ hb9 (by first | omega | (simp; done) | (simp; omega)) | refine Below.then ?_ hb8 (by first | omega | (simp; done) | (simp; omega)) | refine Below.then ?_ hb7 (by first | omega | (simp; done) | (simp; omega)) | refine Below.then ?_ hb6 (by first | omega | (simp; done) | (simp; omega)) | refine Below.then ?_ hb5 (by first | omega | (simp; done) | (simp; omega)) | refine Below.then ?_ hb4 (by first | omega | (simp; done) | (simp; omega)) | refine Below.then ?_ hb3 (by first | omega | (simp; done) | (simp; omega)) | refine Below.then ?_ hb2 (by first | omega | (simp; done) | (simp; omega)) | refine Below.then ?_ hb1 (by first | omega | (simp; done) | (simp; omega))))) (by first | omega | (simp; done) | (simp; omega))
  replace bq2 := hold_cell (w2 := w3) bq2 (by (repeat (first | exact Below.refl _ _ | (with_reducible assumption) | refine Below.drew ?_ | refine Below.drewN' ?_ _ | refine Below.alloc ?_ (by first | omega | (simp; done) | (simp; omega)) _ | refine Below.setCell ?_ (by first | omega | (simp; done) | (simp; omega)) _ | refine Below.then ?_ hb9 (by first | omega | (simp; done) | (simp; omega)) | refine Below.then ?_ hb8 (by first | omega | (simp; done) | (simp; omega)) | refine Below.then ?_ hb7 (by first | omega | (simp; done) | (simp; omega)) | refine Below.then ?_ hb6 (by first | omega | (simp; done) | (simp; omega)) | refine Below.then ?_ hb5 (by first | omega | (simp; done) | (simp; omega)) | refine Below.then ?_ hb4 (by first | omega | (simp; done) | (simp; omega)) | refine Below.then ?_ hb3 (by first | omega | (simp; done) | (simp; omega)) | refine Below.then ?_ hb2 (by first | omega | (simp; done) | (simp; omega)) | refine Below.then ?_ hb1 (by first | omega | (simp; done) | (simp; omega))))) (by first | omega | (simp; done) | (simp; omega))
  go_wp2
  go_ret
  exact ⟨rfl, by (repeat (first | exact Below.refl _ _ | (with_reducible assumption) | refine Below.drew ?_ | refine Below.drewN' ?_ _ | refine Below.alloc ?_ (by first | omega | (simp; done) | (simp; omega)) _ | refine Below.setCell ?_ (by first | omega | (simp; done) | (simp; omega)) _ | refine Below.then ?_ hb9 (by first | omega | (simp; done) | (simp; omega)) | refine Below.then ?_ hb8 (by first | omega | (simp; done) | (simp; omega)) | refine Below.then ?_ hb7 (by first | omega | (simp; done) | (simp; omega)) | refine Below.then ?_ hb6 (by first | omega | (simp; done) | (simp; omega)) | refine Below.then ?_ hb5 (by first | omega | (simp; done) | (simp; omega)) | refine Below.then ?_ hb4 (by first | omega | (simp; done) | (simp; omega)) | refine Below.then ?_ hb3 (by first | omega | (simp; done) | (simp; omega)) | refine Below.then ?_ hb2 (by first | omega | (simp; done) | (simp; omega)) | refine Below.then ?_ hb1 (by first | omega | (simp; done) | (simp; omega))))⟩

end Go.Proofs.YtflomobdaagekaaDoor
