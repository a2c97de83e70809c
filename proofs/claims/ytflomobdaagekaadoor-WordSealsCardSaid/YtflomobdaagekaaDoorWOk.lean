/- The layer 'word': the word of a text. -/
import Derived.Test.YtflomobdaagekaaDoorWhole
import Derived.Laws.Concat
import Derived.Test.YtflomobdaagekaaDoorMakeB
import Derived.Test.YtflomobdaagekaaDoorLib
import Derived.Lib.ParseIntB
import Derived.Lib.AtoiErrMem
import Derived.Lib.ItoaLen
namespace Go.Proofs.YtflomobdaagekaaDoor
open Go.RowKit
set_option linter.unusedVariables false
set_option linter.unusedSimpArgs false

abbrev Cuts (s p r : ByteArray) (b : Bool) : Prop := ∀ W, Calls Tryd.prog 38 #[.string s, .string p] W fun e W' => e = .returned (.tuple #[.string r, .bool b]) ∧ W' = W
abbrev Makes (mw me : Int → Bool → Int → Int) : Prop := ∀ K S V W, Calls Tryd.prog 12 #[.agg #[.int .i64 K, .bool S, .int .i64 V]] W fun e W' => e = .returned (.tuple #[.int .u64 (mw K S V), .int .i64 (me K S V)]) ∧ Below W.heap.size W W'
abbrev Wholes (t : ByteArray) (b : Bool) : Prop := ∀ W, Calls Tryd.prog 39 #[.string t] W fun e W' => e = .returned (.bool b) ∧ Below W.heap.size W W'

set_option maxRecDepth 100000 in
set_option maxHeartbeats 3200000 in
theorem wread_null (mw me : Int → Bool → Int → Int) (hM : Makes mw me) (s s1 t : ByteArray) (S P : Bool) (h1 : Cuts s ⟨#[33]⟩ s1 S) (h2 : Cuts s1 ⟨#[64]⟩ t P) (n1 : (s1.toList == [110, 117, 108, 108]) = true) (w : World) :
    Calls Tryd.prog 21 #[.string s] w fun e w' => e = .returned (.tuple #[.int .u64 (mw 1 S 0), .int .i64 (me 1 S 0)]) ∧ Below w.heap.size w w' := by
  have H1 := Lib.hid h1
  have H2 := Lib.hid h2
  have HM := Lib.hid hM
  have n2 : s1.toList = [110, 117, 108, 108] := by simpa using n1
  clear h1 h2 hM
  go_enter Tryd.func21, Tryd.ntmps21
  go_wp2_with fail
  refine wp_scope_once 0 rfl ?_
  go_wp2_with fail
  refine (H1.out _).mono ?_
  rintro e1 w1 ⟨rfl, rfl⟩
  go_wp2_with fail
  refine (H2.out _).mono ?_
  rintro e2 w2 ⟨rfl, rfl⟩
  go_wp2_with fail
  refine (HM.out _ _ _ _).mono ?_; rintro e1 w1 ⟨rfl, hb1⟩; obtain ⟨hc1, hf1⟩ := bcell hb1; have hz1 := hb1.size; (try simp at hz1)
  go_wp2
  simp only [Exit.jump]
  go_ret2
  exact ⟨rfl, by (repeat (first | exact Below.refl _ _ | (with_reducible assumption) | refine Below.drew ?_ | refine Below.drewN' ?_ _ | refine Below.alloc ?_ (by first | omega | (simp; done) | (simp; omega)) _ | refine Below.setCell ?_ (by first | omega | (simp; done) | (simp; omega)) _ | refine Below.then ?_ hb9 (by first | omega | (simp; done) | (simp; omega)) | refine Below.then ?_ hb8 (by first | omega | (simp; done) | (simp; omega)) | refine Below.then ?_ hb7 (by first | omega | (simp; done) | (simp; omega)) | refine Below.then ?_ hb6 (by first | omega | (simp; done) | (simp; omega)) | refine Below.then ?_ hb5 (by first | omega | (simp; done) | (simp; omega)) | refine Below.then ?_ hb4 (by first | omega | (simp; done) | (simp; omega)) | refine Below.then ?_ hb3 (by first | omega | (simp; done) | (simp; omega)) | refine Below.then ?_ hb2 (by first | omega | (simp; done) | (simp; omega)) | refine Below.then ?_ hb1 (by first | omega | (simp; done) | (simp; omega))))⟩
set_option maxRecDepth 100000 in
set_option maxHeartbeats 3200000 in
theorem wread_empty (mw me : Int → Bool → Int → Int) (hM : Makes mw me) (s s1 t : ByteArray) (S P : Bool) (h1 : Cuts s ⟨#[33]⟩ s1 S) (h2 : Cuts s1 ⟨#[64]⟩ t P) (n1 : (s1.toList == [110, 117, 108, 108]) = false) (n3 : (s1.toList == [101, 109, 112, 116, 121]) = true) (w : World) :
    Calls Tryd.prog 21 #[.string s] w fun e w' => e = .returned (.tuple #[.int .u64 (mw 4 S 0), .int .i64 (me 4 S 0)]) ∧ Below w.heap.size w w' := by
  have H1 := Lib.hid h1
  have H2 := Lib.hid h2
  have HM := Lib.hid hM
  have n2 : ¬ s1.toList = [110, 117, 108, 108] := by simpa using n1
  have n4 : s1.toList = [101, 109, 112, 116, 121] := by simpa using n3
  clear h1 h2 hM
  go_enter Tryd.func21, Tryd.ntmps21
  go_wp2_with fail
  refine wp_scope_once 0 rfl ?_
  go_wp2_with fail
  refine (H1.out _).mono ?_
  rintro e1 w1 ⟨rfl, rfl⟩
  go_wp2_with fail
  refine (H2.out _).mono ?_
  rintro e2 w2 ⟨rfl, rfl⟩
  go_wp2_with fail
  refine (HM.out _ _ _ _).mono ?_; rintro e1 w1 ⟨rfl, hb1⟩; obtain ⟨hc1, hf1⟩ := bcell hb1; have hz1 := hb1.size; (try simp at hz1)
  go_wp2
  simp only [Exit.jump]
  go_ret2
  exact ⟨rfl, by (repeat (first | exact Below.refl _ _ | (with_reducible assumption) | refine Below.drew ?_ | refine Below.drewN' ?_ _ | refine Below.alloc ?_ (by first | omega | (simp; done) | (simp; omega)) _ | refine Below.setCell ?_ (by first | omega | (simp; done) | (simp; omega)) _ | refine Below.then ?_ hb9 (by first | omega | (simp; done) | (simp; omega)) | refine Below.then ?_ hb8 (by first | omega | (simp; done) | (simp; omega)) | refine Below.then ?_ hb7 (by first | omega | (simp; done) | (simp; omega)) | refine Below.then ?_ hb6 (by first | omega | (simp; done) | (simp; omega)) | refine Below.then ?_ hb5 (by first | omega | (simp; done) | (simp; omega)) | refine Below.then ?_ hb4 (by first | omega | (simp; done) | (simp; omega)) | refine Below.then ?_ hb3 (by first | omega | (simp; done) | (simp; omega)) | refine Below.then ?_ hb2 (by first | omega | (simp; done) | (simp; omega)) | refine Below.then ?_ hb1 (by first | omega | (simp; done) | (simp; omega))))⟩
set_option maxRecDepth 100000 in
set_option maxHeartbeats 3200000 in
theorem wread_no1 (mw me : Int → Bool → Int → Int) (hM : Makes mw me) (s s1 t : ByteArray) (S P : Bool) (h1 : Cuts s ⟨#[33]⟩ s1 S) (h2 : Cuts s1 ⟨#[64]⟩ t P) (n1 : (s1.toList == [110, 117, 108, 108]) = false) (n3 : (s1.toList == [101, 109, 112, 116, 121]) = false) (hW : Wholes t false) (w : World) :
    Calls Tryd.prog 21 #[.string s] w fun e w' => e = .returned (.tuple #[.int .u64 0, .int .i64 2]) ∧ Below w.heap.size w w' := by
  have H1 := Lib.hid h1
  have H2 := Lib.hid h2
  have HM := Lib.hid hM
  have n2 : ¬ s1.toList = [110, 117, 108, 108] := by simpa using n1
  have n4 : ¬ s1.toList = [101, 109, 112, 116, 121] := by simpa using n3
  have HW := Lib.hid hW
  clear hW
  cases P
  all_goals
  clear h1 h2 hM
  go_enter Tryd.func21, Tryd.ntmps21
  go_wp2_with fail
  refine wp_scope_once 0 rfl ?_
  go_wp2_with fail
  refine (H1.out _).mono ?_
  rintro e1 w1 ⟨rfl, rfl⟩
  go_wp2_with fail
  refine (H2.out _).mono ?_
  rintro e2 w2 ⟨rfl, rfl⟩
  go_wp2_with fail
  refine (HW.out _).mono ?_; rintro e3 w3 ⟨rfl, hb3⟩; obtain ⟨hc3, hf3⟩ := bcell hb3; have hz3 := hb3.size; (try simp at hz3)
  have bq0 := hc3 w.heap.size 0 (by first | omega | (simp; done) | (simp; omega)); simp [go_sem] at bq0
  have bq1 := hc3 w.heap.size 1 (by first | omega | (simp; done) | (simp; omega)); simp [go_sem] at bq1
  have bq2 := hc3 w.heap.size 2 (by first | omega | (simp; done) | (simp; omega)); simp [go_sem] at bq2
  have bf0 := hf3 w.heap.size 0 (by first | omega | (simp; done) | (simp; omega)); simp [go_sem] at bf0
  have bf1 := hf3 w.heap.size 1 (by first | omega | (simp; done) | (simp; omega)); simp [go_sem] at bf1
  have bf2 := hf3 w.heap.size 2 (by first | omega | (simp; done) | (simp; omega)); simp [go_sem] at bf2
  have bl : w.heap.size < w3.heap.size := by first | omega | (simp; done) | (simp; omega)
  go_wp2
  go_step3
  refine ⟨rfl, ?_⟩
  go_wp2
  rw [Exit.noGoto_ret]
  go_ret2
  exact ⟨rfl, by (repeat (first | exact Below.refl _ _ | (with_reducible assumption) | refine Below.drew ?_ | refine Below.drewN' ?_ _ | refine Below.alloc ?_ (by first | omega | (simp; done) | (simp; omega)) _ | refine Below.setCell ?_ (by first | omega | (simp; done) | (simp; omega)) _ | refine Below.then ?_ hb9 (by first | omega | (simp; done) | (simp; omega)) | refine Below.then ?_ hb8 (by first | omega | (simp; done) | (simp; omega)) | refine Below.then ?_ hb7 (by first | omega | (simp; done) | (simp; omega)) | refine Below.then ?_ hb6 (by first | omega | (simp; done) | (simp; omega)) | refine Below.then ?_ hb5 (by first | omega | (simp; done) | (simp; omega)) | refine Below.then ?_ hb4 (by first | omega | (simp; done) | (simp; omega)) | refine Below.then ?_ hb3 (by first | omega | (simp; done) | (simp; omega)) | refine Below.then ?_ hb2 (by first | omega | (simp; done) | (simp; omega)) | refine Below.then ?_ hb1 (by first | omega | (simp; done) | (simp; omega))))⟩
set_option maxRecDepth 100000 in
set_option maxHeartbeats 3200000 in
theorem wread_no2 (mw me : Int → Bool → Int → Int) (hM : Makes mw me) (s s1 t : ByteArray) (S : Bool) (h1 : Cuts s ⟨#[33]⟩ s1 S) (h2 : Cuts s1 ⟨#[64]⟩ t true) (n1 : (s1.toList == [110, 117, 108, 108]) = false) (n3 : (s1.toList == [101, 109, 112, 116, 121]) = false) (hW : Wholes t true) (h0 : 0 < t.size) (hm : ((t[0].toNat : Int) == 45) = true) (w : World) :
    Calls Tryd.prog 21 #[.string s] w fun e w' => e = .returned (.tuple #[.int .u64 0, .int .i64 2]) ∧ Below w.heap.size w w' := by
  have H1 := Lib.hid h1
  have H2 := Lib.hid h2
  have HM := Lib.hid hM
  have n2 : ¬ s1.toList = [110, 117, 108, 108] := by simpa using n1
  have n4 : ¬ s1.toList = [101, 109, 112, 116, 121] := by simpa using n3
  have HW := Lib.hid hW
  clear hW
  clear h1 h2 hM
  go_enter Tryd.func21, Tryd.ntmps21
  go_wp2_with fail
  refine wp_scope_once 0 rfl ?_
  go_wp2_with fail
  refine (H1.out _).mono ?_
  rintro e1 w1 ⟨rfl, rfl⟩
  go_wp2_with fail
  refine (H2.out _).mono ?_
  rintro e2 w2 ⟨rfl, rfl⟩
  go_wp2_with fail
  refine (HW.out _).mono ?_; rintro e3 w3 ⟨rfl, hb3⟩; obtain ⟨hc3, hf3⟩ := bcell hb3; have hz3 := hb3.size; (try simp at hz3)
  have bq0 := hc3 w.heap.size 0 (by first | omega | (simp; done) | (simp; omega)); simp [go_sem] at bq0
  have bq1 := hc3 w.heap.size 1 (by first | omega | (simp; done) | (simp; omega)); simp [go_sem] at bq1
  have bq2 := hc3 w.heap.size 2 (by first | omega | (simp; done) | (simp; omega)); simp [go_sem] at bq2
  have bf0 := hf3 w.heap.size 0 (by first | omega | (simp; done) | (simp; omega)); simp [go_sem] at bf0
  have bf1 := hf3 w.heap.size 1 (by first | omega | (simp; done) | (simp; omega)); simp [go_sem] at bf1
  have bf2 := hf3 w.heap.size 2 (by first | omega | (simp; done) | (simp; omega)); simp [go_sem] at bf2
  have bl : w.heap.size < w3.heap.size := by first | omega | (simp; done) | (simp; omega)
  go_wp2
  go_step3
  refine ⟨rfl, ?_⟩
  go_wp2
  rw [Exit.noGoto_ret]
  go_ret2
  exact ⟨rfl, by (repeat (first | exact Below.refl _ _ | (with_reducible assumption) | refine Below.drew ?_ | refine Below.drewN' ?_ _ | refine Below.alloc ?_ (by first | omega | (simp; done) | (simp; omega)) _ | refine Below.setCell ?_ (by first | omega | (simp; done) | (simp; omega)) _ | refine Below.then ?_ hb9 (by first | omega | (simp; done) | (simp; omega)) | refine Below.then ?_ hb8 (by first | omega | (simp; done) | (simp; omega)) | refine Below.then ?_ hb7 (by first | omega | (simp; done) | (simp; omega)) | refine Below.then ?_ hb6 (by first | omega | (simp; done) | (simp; omega)) | refine Below.then ?_ hb5 (by first | omega | (simp; done) | (simp; omega)) | refine Below.then ?_ hb4 (by first | omega | (simp; done) | (simp; omega)) | refine Below.then ?_ hb3 (by first | omega | (simp; done) | (simp; omega)) | refine Below.then ?_ hb2 (by first | omega | (simp; done) | (simp; omega)) | refine Below.then ?_ hb1 (by first | omega | (simp; done) | (simp; omega))))⟩
set_option maxRecDepth 100000 in
set_option maxHeartbeats 3200000 in
theorem wread_okP (mw me : Int → Bool → Int → Int) (hM : Makes mw me) (s s1 t : ByteArray) (S : Bool) (h1 : Cuts s ⟨#[33]⟩ s1 S) (h2 : Cuts s1 ⟨#[64]⟩ t true) (n1 : (s1.toList == [110, 117, 108, 108]) = false) (n3 : (s1.toList == [101, 109, 112, 116, 121]) = false) (hW : Wholes t true) (h0 : 0 < t.size) (hm : ((t[0].toNat : Int) == 45) = false) (v : Int) (hI : ∀ W, Calls Tryd.prog 40 #[.string t, .int .i64 10, .int .i64 64] W fun e W' => e = .returned (.tuple #[.int .i64 v, .nilIface]) ∧ Below W.heap.size W W') (w : World) :
    Calls Tryd.prog 21 #[.string s] w fun e w' => e = .returned (.tuple #[.int .u64 (mw 2 S v), .int .i64 (me 2 S v)]) ∧ Below w.heap.size w w' := by
  have H1 := Lib.hid h1
  have H2 := Lib.hid h2
  have HM := Lib.hid hM
  have n2 : ¬ s1.toList = [110, 117, 108, 108] := by simpa using n1
  have n4 : ¬ s1.toList = [101, 109, 112, 116, 121] := by simpa using n3
  have HW := Lib.hid hW
  have HI := Lib.hid hI
  clear hW hI
  clear h1 h2 hM
  go_enter Tryd.func21, Tryd.ntmps21
  go_wp2_with fail
  refine wp_scope_once 0 rfl ?_
  go_wp2_with fail
  refine (H1.out _).mono ?_
  rintro e1 w1 ⟨rfl, rfl⟩
  go_wp2_with fail
  refine (H2.out _).mono ?_
  rintro e2 w2 ⟨rfl, rfl⟩
  go_wp2_with fail
  refine (HW.out _).mono ?_; rintro e3 w3 ⟨rfl, hb3⟩; obtain ⟨hc3, hf3⟩ := bcell hb3; have hz3 := hb3.size; (try simp at hz3)
  have bq0 := hc3 w.heap.size 0 (by first | omega | (simp; done) | (simp; omega)); simp [go_sem] at bq0
  have bq1 := hc3 w.heap.size 1 (by first | omega | (simp; done) | (simp; omega)); simp [go_sem] at bq1
  have bq2 := hc3 w.heap.size 2 (by first | omega | (simp; done) | (simp; omega)); simp [go_sem] at bq2
  have bf0 := hf3 w.heap.size 0 (by first | omega | (simp; done) | (simp; omega)); simp [go_sem] at bf0
  have bf1 := hf3 w.heap.size 1 (by first | omega | (simp; done) | (simp; omega)); simp [go_sem] at bf1
  have bf2 := hf3 w.heap.size 2 (by first | omega | (simp; done) | (simp; omega)); simp [go_sem] at bf2
  have bl : w.heap.size < w3.heap.size := by first | omega | (simp; done) | (simp; omega)
  go_wp2_with fail
  refine (HI.out _).mono ?_; rintro e4 w4 ⟨rfl, hb4⟩; obtain ⟨hc4, hf4⟩ := bcell hb4; have hz4 := hb4.size; (try simp at hz4)
  replace bq0 := hold_cell (w2 := w4) bq0 (by (repeat (first | exact Below.refl _ _ | (with_reducible assumption) | refine Below.drew ?_ | refine Below.drewN' ?_ _ | refine Below.alloc ?_ (by first | omega | (simp; done) | (simp; omega)) _ | refine Below.setCell ?_ (by first | omega | (simp; done) | (simp; omega)) _ | refine Below.then ?_ hb9 (by first | omega | (simp; done) | (simp; omega)) | refine Below.then ?_ hb8 (by first | omega | (simp; done) | (simp; omega)) | refine Below.then ?_ hb7 (by first | omega | (simp; done) | (simp; omega)) | refine Below.then ?_ hb6 (by first | omega | (simp; done) | (simp; omega)) | refine Below.then ?_ hb5 (by first | omega | (simp; done) | (simp; omega)) | refine Below.then ?_ hb4 (by first | omega | (simp; done) | (simp; omega)) | refine Below.then ?_ hb3 (by first | omega | (simp; done) | (simp; omega)) | refine Below.then ?_ hb2 (by first | omega | (simp; done) | (simp; omega)) | refine Below.then ?_ hb1 (by first | omega | (simp; done) | (simp; omega))))) (by first | omega | (simp; done) | (simp; omega))
  replace bq1 := hold_cell (w2 := w4) bq1 (by (repeat (first | exact Below.refl _ _ | (with_reducible assumption) | refine Below.drew ?_ | refine Below.drewN' ?_ _ | refine Below.alloc ?_ (by first | omega | (simp; done) | (simp; omega)) _ | refine Below.setCell ?_ (by first | omega | (simp; done) | (simp; omega)) _ | refine Below.then ?_ hb9 (by first | omega | (simp; done) | (simp; omega)) | refine Below.then ?_ hb8 (by first | omega | (simp; done) | (simp; omega)) | refine Below.then ?_ hb7 (by first | omega | (simp; done) | (simp; omega)) | refine Below.then ?_ hb6 (by first | omega | (simp; done) | (simp; omega)) | refine Below.then ?_ hb5 (by first | omega | (simp; done) | (simp; omega)) | refine Below.then ?_ hb4 (by first | omega | (simp; done) | (simp; omega)) | refine Below.then ?_ hb3 (by first | omega | (simp; done) | (simp; omega)) | refine Below.then ?_ hb2 (by first | omega | (simp; done) | (simp; omega)) | refine Below.then ?_ hb1 (by first | omega | (simp; done) | (simp; omega))))) (by first | omega | (simp; done) | (simp; omega))
  replace bq2 := hold_cell (w2 := w4) bq2 (by (repeat (first | exact Below.refl _ _ | (with_reducible assumption) | refine Below.drew ?_ | refine Below.drewN' ?_ _ | refine Below.alloc ?_ (by first | omega | (simp; done) | (simp; omega)) _ | refine Below.setCell ?_ (by first | omega | (simp; done) | (simp; omega)) _ | refine Below.then ?_ hb9 (by first | omega | (simp; done) | (simp; omega)) | refine Below.then ?_ hb8 (by first | omega | (simp; done) | (simp; omega)) | refine Below.then ?_ hb7 (by first | omega | (simp; done) | (simp; omega)) | refine Below.then ?_ hb6 (by first | omega | (simp; done) | (simp; omega)) | refine Below.then ?_ hb5 (by first | omega | (simp; done) | (simp; omega)) | refine Below.then ?_ hb4 (by first | omega | (simp; done) | (simp; omega)) | refine Below.then ?_ hb3 (by first | omega | (simp; done) | (simp; omega)) | refine Below.then ?_ hb2 (by first | omega | (simp; done) | (simp; omega)) | refine Below.then ?_ hb1 (by first | omega | (simp; done) | (simp; omega))))) (by first | omega | (simp; done) | (simp; omega))
  have cf0 := (hf4 w.heap.size 0 (by omega)).trans bf0
  have cf1 := (hf4 w.heap.size 1 (by omega)).trans bf1
  have cf2 := (hf4 w.heap.size 2 (by omega)).trans bf2
  go_wp2_with fail
  refine (HM.out _ _ _ _).mono ?_; rintro e5 w5 ⟨rfl, hb5⟩; obtain ⟨hc5, hf5⟩ := bcell hb5; have hz5 := hb5.size; (try simp at hz5)
  go_wp2
  simp only [Exit.jump]
  go_ret2
  exact ⟨rfl, by (repeat (first | exact Below.refl _ _ | (with_reducible assumption) | refine Below.drew ?_ | refine Below.drewN' ?_ _ | refine Below.alloc ?_ (by first | omega | (simp; done) | (simp; omega)) _ | refine Below.setCell ?_ (by first | omega | (simp; done) | (simp; omega)) _ | refine Below.then ?_ hb9 (by first | omega | (simp; done) | (simp; omega)) | refine Below.then ?_ hb8 (by first | omega | (simp; done) | (simp; omega)) | refine Below.then ?_ hb7 (by first | omega | (simp; done) | (simp; omega)) | refine Below.then ?_ hb6 (by first | omega | (simp; done) | (simp; omega)) | refine Below.then ?_ hb5 (by first | omega | (simp; done) | (simp; omega)) | refine Below.then ?_ hb4 (by first | omega | (simp; done) | (simp; omega)) | refine Below.then ?_ hb3 (by first | omega | (simp; done) | (simp; omega)) | refine Below.then ?_ hb2 (by first | omega | (simp; done) | (simp; omega)) | refine Below.then ?_ hb1 (by first | omega | (simp; done) | (simp; omega))))⟩
set_option maxRecDepth 100000 in
set_option maxHeartbeats 3200000 in
theorem wread_rgP (mw me : Int → Bool → Int → Int) (hM : Makes mw me) (s s1 t : ByteArray) (S : Bool) (h1 : Cuts s ⟨#[33]⟩ s1 S) (h2 : Cuts s1 ⟨#[64]⟩ t true) (n1 : (s1.toList == [110, 117, 108, 108]) = false) (n3 : (s1.toList == [101, 109, 112, 116, 121]) = false) (hW : Wholes t true) (h0 : 0 < t.size) (hm : ((t[0].toNat : Int) == 45) = false) (v : Int) (w : World) (hI : ∀ W, Below w.heap.size w W → Calls Tryd.prog 40 #[.string t, .int .i64 10, .int .i64 64] W fun e W' => ∃ t p, e = .returned (.tuple #[.int .i64 v, .iface t p]) ∧ Below W.heap.size W W') :
    Calls Tryd.prog 21 #[.string s] w fun e w' => e = .returned (.tuple #[.int .u64 0, .int .i64 4]) ∧ Below w.heap.size w w' := by
  have H1 := Lib.hid h1
  have H2 := Lib.hid h2
  have HM := Lib.hid hM
  have n2 : ¬ s1.toList = [110, 117, 108, 108] := by simpa using n1
  have n4 : ¬ s1.toList = [101, 109, 112, 116, 121] := by simpa using n3
  have HW := Lib.hid hW
  have HI := Lib.hid hI
  clear hW hI
  clear h1 h2 hM
  go_enter Tryd.func21, Tryd.ntmps21
  go_wp2_with fail
  refine wp_scope_once 0 rfl ?_
  go_wp2_with fail
  refine (H1.out _).mono ?_
  rintro e1 w1 ⟨rfl, rfl⟩
  go_wp2_with fail
  refine (H2.out _).mono ?_
  rintro e2 w2 ⟨rfl, rfl⟩
  go_wp2_with fail
  refine (HW.out _).mono ?_; rintro e3 w3 ⟨rfl, hb3⟩; obtain ⟨hc3, hf3⟩ := bcell hb3; have hz3 := hb3.size; (try simp at hz3)
  have bq0 := hc3 w.heap.size 0 (by first | omega | (simp; done) | (simp; omega)); simp [go_sem] at bq0
  have bq1 := hc3 w.heap.size 1 (by first | omega | (simp; done) | (simp; omega)); simp [go_sem] at bq1
  have bq2 := hc3 w.heap.size 2 (by first | omega | (simp; done) | (simp; omega)); simp [go_sem] at bq2
  have bf0 := hf3 w.heap.size 0 (by first | omega | (simp; done) | (simp; omega)); simp [go_sem] at bf0
  have bf1 := hf3 w.heap.size 1 (by first | omega | (simp; done) | (simp; omega)); simp [go_sem] at bf1
  have bf2 := hf3 w.heap.size 2 (by first | omega | (simp; done) | (simp; omega)); simp [go_sem] at bf2
  have bl : w.heap.size < w3.heap.size := by first | omega | (simp; done) | (simp; omega)
  go_wp2_with fail
  refine (HI.out _ (by (repeat (first | exact Below.refl _ _ | (with_reducible assumption) | refine Below.drew ?_ | refine Below.drewN' ?_ _ | refine Below.alloc ?_ (by first | omega | (simp; done) | (simp; omega)) _ | refine Below.setCell ?_ (by first | omega | (simp; done) | (simp; omega)) _ | refine Below.then ?_ hb9 (by first | omega | (simp; done) | (simp; omega)) | refine Below.then ?_ hb8 (by first | omega | (simp; done) | (simp; omega)) | refine Below.then ?_ hb7 (by first | omega | (simp; done) | (simp; omega)) | refine Below.then ?_ hb6 (by first | omega | (simp; done) | (simp; omega)) | refine Below.then ?_ hb5 (by first | omega | (simp; done) | (simp; omega)) | refine Below.then ?_ hb4 (by first | omega | (simp; done) | (simp; omega)) | refine Below.then ?_ hb3 (by first | omega | (simp; done) | (simp; omega)) | refine Below.then ?_ hb2 (by first | omega | (simp; done) | (simp; omega)) | refine Below.then ?_ hb1 (by first | omega | (simp; done) | (simp; omega)))))).mono ?_
  rintro e4 w4 ⟨te, pe, rfl, hb4⟩
  obtain ⟨hc4, hf4⟩ := bcell hb4
  have hz4 := hb4.size
  replace bq0 := hold_cell (w2 := w4) bq0 (by (repeat (first | exact Below.refl _ _ | (with_reducible assumption) | refine Below.drew ?_ | refine Below.drewN' ?_ _ | refine Below.alloc ?_ (by first | omega | (simp; done) | (simp; omega)) _ | refine Below.setCell ?_ (by first | omega | (simp; done) | (simp; omega)) _ | refine Below.then ?_ hb9 (by first | omega | (simp; done) | (simp; omega)) | refine Below.then ?_ hb8 (by first | omega | (simp; done) | (simp; omega)) | refine Below.then ?_ hb7 (by first | omega | (simp; done) | (simp; omega)) | refine Below.then ?_ hb6 (by first | omega | (simp; done) | (simp; omega)) | refine Below.then ?_ hb5 (by first | omega | (simp; done) | (simp; omega)) | refine Below.then ?_ hb4 (by first | omega | (simp; done) | (simp; omega)) | refine Below.then ?_ hb3 (by first | omega | (simp; done) | (simp; omega)) | refine Below.then ?_ hb2 (by first | omega | (simp; done) | (simp; omega)) | refine Below.then ?_ hb1 (by first | omega | (simp; done) | (simp; omega))))) (by first | omega | (simp; done) | (simp; omega))
  replace bq1 := hold_cell (w2 := w4) bq1 (by (repeat (first | exact Below.refl _ _ | (with_reducible assumption) | refine Below.drew ?_ | refine Below.drewN' ?_ _ | refine Below.alloc ?_ (by first | omega | (simp; done) | (simp; omega)) _ | refine Below.setCell ?_ (by first | omega | (simp; done) | (simp; omega)) _ | refine Below.then ?_ hb9 (by first | omega | (simp; done) | (simp; omega)) | refine Below.then ?_ hb8 (by first | omega | (simp; done) | (simp; omega)) | refine Below.then ?_ hb7 (by first | omega | (simp; done) | (simp; omega)) | refine Below.then ?_ hb6 (by first | omega | (simp; done) | (simp; omega)) | refine Below.then ?_ hb5 (by first | omega | (simp; done) | (simp; omega)) | refine Below.then ?_ hb4 (by first | omega | (simp; done) | (simp; omega)) | refine Below.then ?_ hb3 (by first | omega | (simp; done) | (simp; omega)) | refine Below.then ?_ hb2 (by first | omega | (simp; done) | (simp; omega)) | refine Below.then ?_ hb1 (by first | omega | (simp; done) | (simp; omega))))) (by first | omega | (simp; done) | (simp; omega))
  replace bq2 := hold_cell (w2 := w4) bq2 (by (repeat (first | exact Below.refl _ _ | (with_reducible assumption) | refine Below.drew ?_ | refine Below.drewN' ?_ _ | refine Below.alloc ?_ (by first | omega | (simp; done) | (simp; omega)) _ | refine Below.setCell ?_ (by first | omega | (simp; done) | (simp; omega)) _ | refine Below.then ?_ hb9 (by first | omega | (simp; done) | (simp; omega)) | refine Below.then ?_ hb8 (by first | omega | (simp; done) | (simp; omega)) | refine Below.then ?_ hb7 (by first | omega | (simp; done) | (simp; omega)) | refine Below.then ?_ hb6 (by first | omega | (simp; done) | (simp; omega)) | refine Below.then ?_ hb5 (by first | omega | (simp; done) | (simp; omega)) | refine Below.then ?_ hb4 (by first | omega | (simp; done) | (simp; omega)) | refine Below.then ?_ hb3 (by first | omega | (simp; done) | (simp; omega)) | refine Below.then ?_ hb2 (by first | omega | (simp; done) | (simp; omega)) | refine Below.then ?_ hb1 (by first | omega | (simp; done) | (simp; omega))))) (by first | omega | (simp; done) | (simp; omega))
  have cf0 := (hf4 w.heap.size 0 (by omega)).trans bf0
  have cf1 := (hf4 w.heap.size 1 (by omega)).trans bf1
  have cf2 := (hf4 w.heap.size 2 (by omega)).trans bf2
  go_wp2
  simp only [Exit.jump]
  go_ret2
  exact ⟨rfl, by (repeat (first | exact Below.refl _ _ | (with_reducible assumption) | refine Below.drew ?_ | refine Below.drewN' ?_ _ | refine Below.alloc ?_ (by first | omega | (simp; done) | (simp; omega)) _ | refine Below.setCell ?_ (by first | omega | (simp; done) | (simp; omega)) _ | refine Below.then ?_ hb9 (by first | omega | (simp; done) | (simp; omega)) | refine Below.then ?_ hb8 (by first | omega | (simp; done) | (simp; omega)) | refine Below.then ?_ hb7 (by first | omega | (simp; done) | (simp; omega)) | refine Below.then ?_ hb6 (by first | omega | (simp; done) | (simp; omega)) | refine Below.then ?_ hb5 (by first | omega | (simp; done) | (simp; omega)) | refine Below.then ?_ hb4 (by first | omega | (simp; done) | (simp; omega)) | refine Below.then ?_ hb3 (by first | omega | (simp; done) | (simp; omega)) | refine Below.then ?_ hb2 (by first | omega | (simp; done) | (simp; omega)) | refine Below.then ?_ hb1 (by first | omega | (simp; done) | (simp; omega))))⟩
set_option maxRecDepth 100000 in
set_option maxHeartbeats 3200000 in
theorem wread_okS (mw me : Int → Bool → Int → Int) (hM : Makes mw me) (s s1 t : ByteArray) (S : Bool) (h1 : Cuts s ⟨#[33]⟩ s1 S) (h2 : Cuts s1 ⟨#[64]⟩ t false) (n1 : (s1.toList == [110, 117, 108, 108]) = false) (n3 : (s1.toList == [101, 109, 112, 116, 121]) = false) (hW : Wholes t true) (v : Int) (hI : ∀ W, Calls Tryd.prog 40 #[.string t, .int .i64 10, .int .i64 64] W fun e W' => e = .returned (.tuple #[.int .i64 v, .nilIface]) ∧ Below W.heap.size W W') (w : World) :
    Calls Tryd.prog 21 #[.string s] w fun e w' => e = .returned (.tuple #[.int .u64 (mw 3 S v), .int .i64 (me 3 S v)]) ∧ Below w.heap.size w w' := by
  have H1 := Lib.hid h1
  have H2 := Lib.hid h2
  have HM := Lib.hid hM
  have n2 : ¬ s1.toList = [110, 117, 108, 108] := by simpa using n1
  have n4 : ¬ s1.toList = [101, 109, 112, 116, 121] := by simpa using n3
  have HW := Lib.hid hW
  have HI := Lib.hid hI
  clear hW hI
  clear h1 h2 hM
  go_enter Tryd.func21, Tryd.ntmps21
  go_wp2_with fail
  refine wp_scope_once 0 rfl ?_
  go_wp2_with fail
  refine (H1.out _).mono ?_
  rintro e1 w1 ⟨rfl, rfl⟩
  go_wp2_with fail
  refine (H2.out _).mono ?_
  rintro e2 w2 ⟨rfl, rfl⟩
  go_wp2_with fail
  refine (HW.out _).mono ?_; rintro e3 w3 ⟨rfl, hb3⟩; obtain ⟨hc3, hf3⟩ := bcell hb3; have hz3 := hb3.size; (try simp at hz3)
  have bq0 := hc3 w.heap.size 0 (by first | omega | (simp; done) | (simp; omega)); simp [go_sem] at bq0
  have bq1 := hc3 w.heap.size 1 (by first | omega | (simp; done) | (simp; omega)); simp [go_sem] at bq1
  have bq2 := hc3 w.heap.size 2 (by first | omega | (simp; done) | (simp; omega)); simp [go_sem] at bq2
  have bf0 := hf3 w.heap.size 0 (by first | omega | (simp; done) | (simp; omega)); simp [go_sem] at bf0
  have bf1 := hf3 w.heap.size 1 (by first | omega | (simp; done) | (simp; omega)); simp [go_sem] at bf1
  have bf2 := hf3 w.heap.size 2 (by first | omega | (simp; done) | (simp; omega)); simp [go_sem] at bf2
  have bl : w.heap.size < w3.heap.size := by first | omega | (simp; done) | (simp; omega)
  go_wp2_with fail
  refine (HI.out _).mono ?_; rintro e4 w4 ⟨rfl, hb4⟩; obtain ⟨hc4, hf4⟩ := bcell hb4; have hz4 := hb4.size; (try simp at hz4)
  replace bq0 := hold_cell (w2 := w4) bq0 (by (repeat (first | exact Below.refl _ _ | (with_reducible assumption) | refine Below.drew ?_ | refine Below.drewN' ?_ _ | refine Below.alloc ?_ (by first | omega | (simp; done) | (simp; omega)) _ | refine Below.setCell ?_ (by first | omega | (simp; done) | (simp; omega)) _ | refine Below.then ?_ hb9 (by first | omega | (simp; done) | (simp; omega)) | refine Below.then ?_ hb8 (by first | omega | (simp; done) | (simp; omega)) | refine Below.then ?_ hb7 (by first | omega | (simp; done) | (simp; omega)) | refine Below.then ?_ hb6 (by first | omega | (simp; done) | (simp; omega)) | refine Below.then ?_ hb5 (by first | omega | (simp; done) | (simp; omega)) | refine Below.then ?_ hb4 (by first | omega | (simp; done) | (simp; omega)) | refine Below.then ?_ hb3 (by first | omega | (simp; done) | (simp; omega)) | refine Below.then ?_ hb2 (by first | omega | (simp; done) | (simp; omega)) | refine Below.then ?_ hb1 (by first | omega | (simp; done) | (simp; omega))))) (by first | omega | (simp; done) | (simp; omega))
  replace bq1 := hold_cell (w2 := w4) bq1 (by (repeat (first | exact Below.refl _ _ | (with_reducible assumption) | refine Below.drew ?_ | refine Below.drewN' ?_ _ | refine Below.alloc ?_ (by first | omega | (simp; done) | (simp; omega)) _ | refine Below.setCell ?_ (by first | omega | (simp; done) | (simp; omega)) _ | refine Below.then ?_ hb9 (by first | omega | (simp; done) | (simp; omega)) | refine Below.then ?_ hb8 (by first | omega | (simp; done) | (simp; omega)) | refine Below.then ?_ hb7 (by first | omega | (simp; done) | (simp; omega)) | refine Below.then ?_ hb6 (by first | omega | (simp; done) | (simp; omega)) | refine Below.then ?_ hb5 (by first | omega | (simp; done) | (simp; omega)) | refine Below.then ?_ hb4 (by first | omega | (simp; done) | (simp; omega)) | refine Below.then ?_ hb3 (by first | omega | (simp; done) | (simp; omega)) | refine Below.then ?_ hb2 (by first | omega | (simp; done) | (simp; omega)) | refine Below.then ?_ hb1 (by first | omega | (simp; done) | (simp; omega))))) (by first | omega | (simp; done) | (simp; omega))
  replace bq2 := hold_cell (w2 := w4) bq2 (by (repeat (first | exact Below.refl _ _ | (with_reducible assumption) | refine Below.drew ?_ | refine Below.drewN' ?_ _ | refine Below.alloc ?_ (by first | omega | (simp; done) | (simp; omega)) _ | refine Below.setCell ?_ (by first | omega | (simp; done) | (simp; omega)) _ | refine Below.then ?_ hb9 (by first | omega | (simp; done) | (simp; omega)) | refine Below.then ?_ hb8 (by first | omega | (simp; done) | (simp; omega)) | refine Below.then ?_ hb7 (by first | omega | (simp; done) | (simp; omega)) | refine Below.then ?_ hb6 (by first | omega | (simp; done) | (simp; omega)) | refine Below.then ?_ hb5 (by first | omega | (simp; done) | (simp; omega)) | refine Below.then ?_ hb4 (by first | omega | (simp; done) | (simp; omega)) | refine Below.then ?_ hb3 (by first | omega | (simp; done) | (simp; omega)) | refine Below.then ?_ hb2 (by first | omega | (simp; done) | (simp; omega)) | refine Below.then ?_ hb1 (by first | omega | (simp; done) | (simp; omega))))) (by first | omega | (simp; done) | (simp; omega))
  have cf0 := (hf4 w.heap.size 0 (by omega)).trans bf0
  have cf1 := (hf4 w.heap.size 1 (by omega)).trans bf1
  have cf2 := (hf4 w.heap.size 2 (by omega)).trans bf2
  go_wp2_with fail
  refine (HM.out _ _ _ _).mono ?_; rintro e5 w5 ⟨rfl, hb5⟩; obtain ⟨hc5, hf5⟩ := bcell hb5; have hz5 := hb5.size; (try simp at hz5)
  go_wp2
  simp only [Exit.jump]
  go_ret2
  exact ⟨rfl, by (repeat (first | exact Below.refl _ _ | (with_reducible assumption) | refine Below.drew ?_ | refine Below.drewN' ?_ _ | refine Below.alloc ?_ (by first | omega | (simp; done) | (simp; omega)) _ | refine Below.setCell ?_ (by first | omega | (simp; done) | (simp; omega)) _ | refine Below.then ?_ hb9 (by first | omega | (simp; done) | (simp; omega)) | refine Below.then ?_ hb8 (by first | omega | (simp; done) | (simp; omega)) | refine Below.then ?_ hb7 (by first | omega | (simp; done) | (simp; omega)) | refine Below.then ?_ hb6 (by first | omega | (simp; done) | (simp; omega)) | refine Below.then ?_ hb5 (by first | omega | (simp; done) | (simp; omega)) | refine Below.then ?_ hb4 (by first | omega | (simp; done) | (simp; omega)) | refine Below.then ?_ hb3 (by first | omega | (simp; done) | (simp; omega)) | refine Below.then ?_ hb2 (by first | omega | (simp; done) | (simp; omega)) | refine Below.then ?_ hb1 (by first | omega | (simp; done) | (simp; omega))))⟩
set_option maxRecDepth 100000 in
set_option maxHeartbeats 3200000 in
theorem wread_rgS (mw me : Int → Bool → Int → Int) (hM : Makes mw me) (s s1 t : ByteArray) (S : Bool) (h1 : Cuts s ⟨#[33]⟩ s1 S) (h2 : Cuts s1 ⟨#[64]⟩ t false) (n1 : (s1.toList == [110, 117, 108, 108]) = false) (n3 : (s1.toList == [101, 109, 112, 116, 121]) = false) (hW : Wholes t true) (v : Int) (w : World) (hI : ∀ W, Below w.heap.size w W → Calls Tryd.prog 40 #[.string t, .int .i64 10, .int .i64 64] W fun e W' => ∃ t p, e = .returned (.tuple #[.int .i64 v, .iface t p]) ∧ Below W.heap.size W W') :
    Calls Tryd.prog 21 #[.string s] w fun e w' => e = .returned (.tuple #[.int .u64 0, .int .i64 4]) ∧ Below w.heap.size w w' := by
  have H1 := Lib.hid h1
  have H2 := Lib.hid h2
  have HM := Lib.hid hM
  have n2 : ¬ s1.toList = [110, 117, 108, 108] := by simpa using n1
  have n4 : ¬ s1.toList = [101, 109, 112, 116, 121] := by simpa using n3
  have HW := Lib.hid hW
  have HI := Lib.hid hI
  clear hW hI
  clear h1 h2 hM
  go_enter Tryd.func21, Tryd.ntmps21
  go_wp2_with fail
  refine wp_scope_once 0 rfl ?_
  go_wp2_with fail
  refine (H1.out _).mono ?_
  rintro e1 w1 ⟨rfl, rfl⟩
  go_wp2_with fail
  refine (H2.out _).mono ?_
  rintro e2 w2 ⟨rfl, rfl⟩
  go_wp2_with fail
  refine (HW.out _).mono ?_; rintro e3 w3 ⟨rfl, hb3⟩; obtain ⟨hc3, hf3⟩ := bcell hb3; have hz3 := hb3.size; (try simp at hz3)
  have bq0 := hc3 w.heap.size 0 (by first | omega | (simp; done) | (simp; omega)); simp [go_sem] at bq0
  have bq1 := hc3 w.heap.size 1 (by first | omega | (simp; done) | (simp; omega)); simp [go_sem] at bq1
  have bq2 := hc3 w.heap.size 2 (by first | omega | (simp; done) | (simp; omega)); simp [go_sem] at bq2
  have bf0 := hf3 w.heap.size 0 (by first | omega | (simp; done) | (simp; omega)); simp [go_sem] at bf0
  have bf1 := hf3 w.heap.size 1 (by first | omega | (simp; done) | (simp; omega)); simp [go_sem] at bf1
  have bf2 := hf3 w.heap.size 2 (by first | omega | (simp; done) | (simp; omega)); simp [go_sem] at bf2
  have bl : w.heap.size < w3.heap.size := by first | omega | (simp; done) | (simp; omega)
  go_wp2_with fail
  refine (HI.out _ (by (repeat (first | exact Below.refl _ _ | (with_reducible assumption) | refine Below.drew ?_ | refine Below.drewN' ?_ _ | refine Below.alloc ?_ (by first | omega | (simp; done) | (simp; omega)) _ | refine Below.setCell ?_ (by first | omega | (simp; done) | (simp; omega)) _ | refine Below.then ?_ hb9 (by first | omega | (simp; done) | (simp; omega)) | refine Below.then ?_ hb8 (by first | omega | (simp; done) | (simp; omega)) | refine Below.then ?_ hb7 (by first | omega | (simp; done) | (simp; omega)) | refine Below.then ?_ hb6 (by first | omega | (simp; done) | (simp; omega)) | refine Below.then ?_ hb5 (by first | omega | (simp; done) | (simp; omega)) | refine Below.then ?_ hb4 (by first | omega | (simp; done) | (simp; omega)) | refine Below.then ?_ hb3 (by first | omega | (simp; done) | (simp; omega)) | refine Below.then ?_ hb2 (by first | omega | (simp; done) | (simp; omega)) | refine Below.then ?_ hb1 (by first | omega | (simp; done) | (simp; omega)))))).mono ?_
  rintro e4 w4 ⟨te, pe, rfl, hb4⟩
  obtain ⟨hc4, hf4⟩ := bcell hb4
  have hz4 := hb4.size
  replace bq0 := hold_cell (w2 := w4) bq0 (by (repeat (first | exact Below.refl _ _ | (with_reducible assumption) | refine Below.drew ?_ | refine Below.drewN' ?_ _ | refine Below.alloc ?_ (by first | omega | (simp; done) | (simp; omega)) _ | refine Below.setCell ?_ (by first | omega | (simp; done) | (simp; omega)) _ | refine Below.then ?_ hb9 (by first | omega | (simp; done) | (simp; omega)) | refine Below.then ?_ hb8 (by first | omega | (simp; done) | (simp; omega)) | refine Below.then ?_ hb7 (by first | omega | (simp; done) | (simp; omega)) | refine Below.then ?_ hb6 (by first | omega | (simp; done) | (simp; omega)) | refine Below.then ?_ hb5 (by first | omega | (simp; done) | (simp; omega)) | refine Below.then ?_ hb4 (by first | omega | (simp; done) | (simp; omega)) | refine Below.then ?_ hb3 (by first | omega | (simp; done) | (simp; omega)) | refine Below.then ?_ hb2 (by first | omega | (simp; done) | (simp; omega)) | refine Below.then ?_ hb1 (by first | omega | (simp; done) | (simp; omega))))) (by first | omega | (simp; done) | (simp; omega))
  replace bq1 := hold_cell (w2 := w4) bq1 (by (repeat (first | exact Below.refl _ _ | (with_reducible assumption) | refine Below.drew ?_ | refine Below.drewN' ?_ _ | refine Below.alloc ?_ (by first | omega | (simp; done) | (simp; omega)) _ | refine Below.setCell ?_ (by first | omega | (simp; done) | (simp; omega)) _ | refine Below.then ?_ hb9 (by first | omega | (simp; done) | (simp; omega)) | refine Below.then ?_ hb8 (by first | omega | (simp; done) | (simp; omega)) | refine Below.then ?_ hb7 (by first | omega | (simp; done) | (simp; omega)) | refine Below.then ?_ hb6 (by first | omega | (simp; done) | (simp; omega)) | refine Below.then ?_ hb5 (by first | omega | (simp; done) | (simp; omega)) | refine Below.then ?_ hb4 (by first | omega | (simp; done) | (simp; omega)) | refine Below.then ?_ hb3 (by first | omega | (simp; done) | (simp; omega)) | refine Below.then ?_ hb2 (by first | omega | (simp; done) | (simp; omega)) | refine Below.then ?_ hb1 (by first | omega | (simp; done) | (simp; omega))))) (by first | omega | (simp; done) | (simp; omega))
  replace bq2 := hold_cell (w2 := w4) bq2 (by (repeat (first | exact Below.refl _ _ | (with_reducible assumption) | refine Below.drew ?_ | refine Below.drewN' ?_ _ | refine Below.alloc ?_ (by first | omega | (simp; done) | (simp; omega)) _ | refine Below.setCell ?_ (by first | omega | (simp; done) | (simp; omega)) _ | refine Below.then ?_ hb9 (by first | omega | (simp; done) | (simp; omega)) | refine Below.then ?_ hb8 (by first | omega | (simp; done) | (simp; omega)) | refine Below.then ?_ hb7 (by first | omega | (simp; done) | (simp; omega)) | refine Below.then ?_ hb6 (by first | omega | (simp; done) | (simp; omega)) | refine Below.then ?_ hb5 (by first | omega | (simp; done) | (simp; omega)) | refine Below.then ?_ hb4 (by first | omega | (simp; done) | (simp; omega)) | refine Below.then ?_ hb3 (by first | omega | (simp; done) | (simp; omega)) | refine Below.then ?_ hb2 (by first | omega | (simp; done) | (simp; omega)) | refine Below.then ?_ hb1 (by first | omega | (simp; done) | (simp; omega))))) (by first | omega | (simp; done) | (simp; omega))
  have cf0 := (hf4 w.heap.size 0 (by omega)).trans bf0
  have cf1 := (hf4 w.heap.size 1 (by omega)).trans bf1
  have cf2 := (hf4 w.heap.size 2 (by omega)).trans bf2
  go_wp2
  simp only [Exit.jump]
  go_ret2
  exact ⟨rfl, by (repeat (first | exact Below.refl _ _ | (with_reducible assumption) | refine Below.drew ?_ | refine Below.drewN' ?_ _ | refine Below.alloc ?_ (by first | omega | (simp; done) | (simp; omega)) _ | refine Below.setCell ?_ (by first | omega | (simp; done) | (simp; omega)) _ | refine Below.then ?_ hb9 (by first | omega | (simp; done) | (simp; omega)) | refine Below.then ?_ hb8 (by first | omega | (simp; done) | (simp; omega)) | refine Below.then ?_ hb7 (by first | omega | (simp; done) | (simp; omega)) | refine Below.then ?_ hb6 (by first | omega | (simp; done) | (simp; omega)) | refine Below.then ?_ hb5 (by first | omega | (simp; done) | (simp; omega)) | refine Below.then ?_ hb4 (by first | omega | (simp; done) | (simp; omega)) | refine Below.then ?_ hb3 (by first | omega | (simp; done) | (simp; omega)) | refine Below.then ?_ hb2 (by first | omega | (simp; done) | (simp; omega)) | refine Below.then ?_ hb1 (by first | omega | (simp; done) | (simp; omega))))⟩

end Go.Proofs.YtflomobdaagekaaDoor

namespace Go.Proofs.YtflomobdaagekaaDoor
open Go.RowKit
set_option linter.unusedVariables false
set_option linter.unusedSimpArgs false

def rS (s : ByteArray) : Bool := Lib.hasPrefix s.data.toList [33]
def rs1 (s : ByteArray) : ByteArray := ⟨(Lib.trimPrefix s.data.toList [33]).toArray⟩
def rP (s : ByteArray) : Bool := Lib.hasPrefix (rs1 s).data.toList [64]
def rt (s : ByteArray) : ByteArray := ⟨(Lib.trimPrefix (rs1 s).data.toList [64]).toArray⟩
def rK (s : ByteArray) : Int := if rP s = true then 2 else 3
/-- what a number's text is made into -/
def numMk (f : Int → Int) (no : Int) (l : List UInt8) : Int := match Lib.parseIntB 64 l with | .ok v => f v | _ => no
def readG (f : Int → Bool → Int → Int) (a b : Int) (s : ByteArray) : Int :=
  if (rs1 s).toList = [110, 117, 108, 108] then f 1 (rS s) 0 else if (rs1 s).toList = [101, 109, 112, 116, 121] then f 4 (rS s) 0
  else if wholeB (rt s) = false ∨ (rP s = true ∧ (rt s).data.toList.head? = some 45) then a else numMk (f (rK s) (rS s)) b (rt s).data.toList
def readW (s : ByteArray) : Int := readG mkW 0 0 s
def readE (s : ByteArray) : Int := readG mkE 2 4 s

/-- what the walks ask of the world: the variable that says 'out of range' holds some error -/
def RErr (w : World) : Prop := ∃ ev, w.cell? ⟨2, 0, none⟩ = some ev ∧ (ev = .nilIface ∨ ∃ te pe, ev = .iface te pe)
theorem RErr.below {w w' : World} (h : RErr w) (hb : Below w.heap.size w w') : RErr w' := by
  obtain ⟨ev, hc, he⟩ := h
  refine ⟨ev, (hb.cell (p := ⟨_, 0, none⟩) (World.block_lt_of_cell? w _ hc)).trans hc, he⟩

theorem whole_digs {t : ByteArray} (h : wholeB t = true) : (digsOf t).all digOk = true ∧ digsOf t ≠ [] ∧ ((digsOf t).head? ≠ some 48 ∨ t.data.toList = [48]) := by
  unfold wholeB at h
  simp only [Bool.and_eq_true, Bool.not_eq_true', List.isEmpty_eq_false_iff, Bool.or_eq_true, bne_iff_ne, beq_iff_eq] at h
  rw [ByteArray.toList_eq] at h
  exact ⟨h.1, h.2.1, h.2.2⟩
theorem pos_of_ne {t : ByteArray} (h : t.data.toList ≠ []) : 0 < t.size := by
  rcases Nat.eq_zero_or_pos t.size with h0 | h0
  · exact absurd (List.eq_nil_of_length_eq_zero (by rw [Array.length_toList]; exact h0)) h
  · exact h0
theorem whole_pos {t : ByteArray} (h : wholeB t = true) : 0 < t.size := by
  refine pos_of_ne fun e => (whole_digs h).2.1 ?_
  unfold digsOf Lib.trimPrefix
  rw [e]
  simp [Lib.hasPrefix]

theorem parseUintM_digs (M : Nat) : ∀ (l : List UInt8) (acc : Nat), l.all digOk = true → Lib.parseUintM M acc l ≠ Lib.NumEnd.syntax
  | [], acc, _ => by simp [Lib.parseUintM]
  | c :: r, acc, h => by
    simp only [List.all_cons, Bool.and_eq_true, digOk, decide_eq_true_eq] at h
    unfold Lib.parseUintM
    rw [if_pos h.1]
    split
    · simp
    · split
      · simp
      · exact parseUintM_digs M r _ (by simpa [digOk] using h.2)
theorem parse_not_syntax {t : ByteArray} (h : wholeB t = true) : Lib.parseIntB 64 t.data.toList ≠ Lib.NumEnd.syntax := by
  obtain ⟨h1, h2, _⟩ := whole_digs h
  unfold digsOf at h1 h2
  cases hl : t.data.toList with
  | nil => rw [hl] at h2; simp [Lib.trimPrefix, Lib.hasPrefix] at h2
  | cons c r =>
    rw [hl] at h1 h2
    have key : (if c.toNat = 43 ∨ c.toNat = 45 then r else c :: r) ≠ [] ∧ (if c.toNat = 43 ∨ c.toNat = 45 then r else c :: r).all digOk = true := by
      by_cases hc : c = 45
      · subst hc
        simp [Lib.trimPrefix, Lib.hasPrefix] at h1 h2 ⊢
        exact ⟨h2, h1⟩
      · have e : Lib.trimPrefix (c :: r) [45] = c :: r := by
          unfold Lib.trimPrefix Lib.hasPrefix
          have : ((45 : UInt8) == c) = false := by simp; exact fun h => hc h.symm
          simp [List.isPrefixOf, this]
        rw [e] at h1 h2
        have h3 : 48 ≤ c.toNat ∧ c.toNat ≤ 57 := by
          rw [List.all_cons, Bool.and_eq_true] at h1
          simpa [digOk] using h1.1
        rw [if_neg (by omega)]
        exact ⟨h2, h1⟩
    unfold Lib.parseIntB
    simp only
    have hu : Lib.parseUintB 64 (if c.toNat = 43 ∨ c.toNat = 45 then r else c :: r) ≠ Lib.NumEnd.syntax := by
      unfold Lib.parseUintB
      rw [if_neg key.1]
      exact parseUintM_digs _ _ _ key.2
    revert hu
    cases Lib.parseUintB 64 (if c.toNat = 43 ∨ c.toNat = 45 then r else c :: r) with
    | range => simp
    | ok u => intro _; simp only; split <;> (try split) <;> simp
    | _ => intro h; exact absurd rfl h

theorem trim_len (l p : List UInt8) : (Lib.trimPrefix l p).length ≤ l.length := by
  unfold Lib.trimPrefix
  split
  · rw [List.length_drop]; omega
  · exact Nat.le_refl _
theorem rt_size (s : ByteArray) : (rt s).size ≤ s.size := by
  have h1 : (rt s).size ≤ (rs1 s).size := by
    have := trim_len (rs1 s).data.toList [64]
    show (Lib.trimPrefix (rs1 s).data.toList [64]).toArray.size ≤ _
    rw [List.size_toArray]
    rwa [Array.length_toList] at this
  have h2 : (rs1 s).size ≤ s.size := by
    have := trim_len s.data.toList [33]
    show (Lib.trimPrefix s.data.toList [33]).toArray.size ≤ _
    rw [List.size_toArray]
    rwa [Array.length_toList] at this
  omega
theorem head_at {t : ByteArray} (h : 0 < t.size) : t.data.toList.head? = some t[0] := by
  rw [List.head?_eq_getElem?, List.getElem?_eq_getElem (by rw [Array.length_toList]; exact h)]
  rfl
theorem minus_at {t : ByteArray} (h : 0 < t.size) (b : Bool) (hb : decide (t.data.toList.head? = some 45) = b) : ((t[0].toNat : Int) == 45) = b := by
  rw [← hb, head_at h, Bool.eq_iff_iff]
  simp only [beq_iff_eq, decide_eq_true_eq, Option.some.injEq]
  constructor
  · intro e; apply UInt8.toNat_inj.1; simp; omega
  · intro e; rw [e]; rfl

theorem wordRead_calls (s : ByteArray) (hs : s.size ≤ 140737488351232) (w : World) (hR : RErr w) :
    Calls Tryd.prog 21 #[.string s] w fun e w' => e = .returned (.tuple #[.int .u64 (readW s), .int .i64 (readE s)]) ∧ Below w.heap.size w w' := by
  have hM : Makes mkW mkE := wmake_calls
  have h1 : Cuts s ⟨#[33]⟩ (rs1 s) (rS s) := fun W => Tryd.strings_CutPrefix s ⟨#[33]⟩ W
  have h2 : Cuts (rs1 s) ⟨#[64]⟩ (rt s) (rP s) := fun W => Tryd.strings_CutPrefix (rs1 s) ⟨#[64]⟩ W
  have ht := rt_size s
  have hwh : ∀ b, wholeB (rt s) = b → Wholes (rt s) b := fun b hb W => by have := whole_calls (rt s) W; rwa [hb] at this
  have hr : ∀ W, Below w.heap.size w W → RErr W := fun W hb => hR.below hb
  by_cases n1 : (rs1 s).toList = [110, 117, 108, 108]
  · have e1 : readW s = mkW 1 (rS s) 0 := by unfold readW readG; rw [if_pos n1]
    have e2 : readE s = mkE 1 (rS s) 0 := by unfold readE readG; rw [if_pos n1]
    rw [e1, e2]
    exact wread_null mkW mkE hM s _ _ _ _ h1 h2 (by simpa using n1) w
  have m1 : ((rs1 s).toList == [110, 117, 108, 108]) = false := by simpa using n1
  by_cases n2 : (rs1 s).toList = [101, 109, 112, 116, 121]
  · have e1 : readW s = mkW 4 (rS s) 0 := by unfold readW readG; rw [if_neg n1, if_pos n2]
    have e2 : readE s = mkE 4 (rS s) 0 := by unfold readE readG; rw [if_neg n1, if_pos n2]
    rw [e1, e2]
    exact wread_empty mkW mkE hM s _ _ _ _ h1 h2 m1 (by simpa using n2) w
  have m2 : ((rs1 s).toList == [101, 109, 112, 116, 121]) = false := by simpa using n2
  by_cases n3 : wholeB (rt s) = false ∨ (rP s = true ∧ (rt s).data.toList.head? = some 45)
  · have e1 : readW s = 0 := by unfold readW readG; rw [if_neg n1, if_neg n2, if_pos n3]
    have e2 : readE s = 2 := by unfold readE readG; rw [if_neg n1, if_neg n2, if_pos n3]
    rw [e1, e2]
    cases hb : wholeB (rt s) with
    | false => exact wread_no1 mkW mkE hM s _ _ _ _ h1 h2 m1 m2 (hwh _ hb) w
    | true =>
      rw [hb] at n3
      obtain ⟨hp, hm⟩ := n3.resolve_left (by simp)
      rw [hp] at h2
      exact wread_no2 mkW mkE hM s _ _ _ h1 h2 m1 m2 (hwh _ hb) (whole_pos hb) (minus_at (whole_pos hb) true (by simpa using hm)) w
  have hb : wholeB (rt s) = true := by
    cases h : wholeB (rt s) with
    | true => rfl
    | false => exact absurd (.inl h) n3
  have e1 : readW s = numMk (mkW (rK s) (rS s)) 0 (rt s).data.toList := by unfold readW readG; rw [if_neg n1, if_neg n2, if_neg n3]
  have e2 : readE s = numMk (mkE (rK s) (rS s)) 4 (rt s).data.toList := by unfold readE readG; rw [if_neg n1, if_neg n2, if_neg n3]
  rw [e1, e2]
  cases hp : Lib.parseIntB 64 (rt s).data.toList with
  | ok v =>
    have d1 : numMk (mkW (rK s) (rS s)) 0 (rt s).data.toList = mkW (rK s) (rS s) v := by unfold numMk; rw [hp]
    have d2 : numMk (mkE (rK s) (rS s)) 4 (rt s).data.toList = mkE (rK s) (rS s) v := by unfold numMk; rw [hp]
    rw [d1, d2]
    have hI : ∀ W, Calls Tryd.prog 40 #[.string (rt s), .int .i64 10, .int .i64 64] W fun e W' => e = .returned (.tuple #[.int .i64 v, .nilIface]) ∧ Below W.heap.size W W' := fun W => by
      refine (Tryd.strconv_ParseInt_10_at64_ok (rt s) (by omega) v hp W).mono ?_
      rintro e w' ⟨he, hw⟩
      refine ⟨he, ?_⟩
      rcases hw with rfl | ⟨t, rfl⟩
      · exact Below.refl _ _
      · exact Lib.bytesWorld_below _ _ _
    cases hP : rP s with
    | true =>
      rw [hP] at h2
      have hK : rK s = 2 := by unfold rK; rw [if_pos hP]
      rw [hK]
      have hm : ¬ (rt s).data.toList.head? = some 45 := fun h => n3 (.inr ⟨hP, h⟩)
      exact wread_okP mkW mkE hM s _ _ _ h1 h2 m1 m2 (hwh _ hb) (whole_pos hb) (minus_at (whole_pos hb) false (by simpa using hm)) v hI w
    | false =>
      rw [hP] at h2
      have hK : rK s = 3 := by unfold rK; rw [if_neg (by rw [hP]; decide)]
      rw [hK]
      exact wread_okS mkW mkE hM s _ _ _ h1 h2 m1 m2 (hwh _ hb) v hI w
  | range =>
    have d1 : numMk (mkW (rK s) (rS s)) 0 (rt s).data.toList = 0 := by unfold numMk; rw [hp]
    have d2 : numMk (mkE (rK s) (rS s)) 4 (rt s).data.toList = 4 := by unfold numMk; rw [hp]
    rw [d1, d2]
    have hI : ∀ W, Below w.heap.size w W → Calls Tryd.prog 40 #[.string (rt s), .int .i64 10, .int .i64 64] W fun e W' => ∃ t p, e = .returned (.tuple #[.int .i64 (Lib.intSat 64 (rt s).data.toList), .iface t p]) ∧ Below W.heap.size W W' := fun W hW => by
      obtain ⟨ev, hc, he⟩ := hr W hW
      refine (Tryd.strconv_ParseInt_10_at64_range (rt s) (by omega) hp ev W hc he).mono ?_
      rintro e w' ⟨N, he, _, _, hb⟩
      exact ⟨_, _, he, hb⟩
    cases hP : rP s with
    | true =>
      rw [hP] at h2
      have hm : ¬ (rt s).data.toList.head? = some 45 := fun h => n3 (.inr ⟨hP, h⟩)
      exact wread_rgP mkW mkE hM s _ _ _ h1 h2 m1 m2 (hwh _ hb) (whole_pos hb) (minus_at (whole_pos hb) false (by simpa using hm)) _ w hI
    | false =>
      rw [hP] at h2
      exact wread_rgS mkW mkE hM s _ _ _ h1 h2 m1 m2 (hwh _ hb) _ w hI
  | _ => exact absurd hp (parse_not_syntax hb)

end Go.Proofs.YtflomobdaagekaaDoor

namespace Go.Proofs.YtflomobdaagekaaDoor
open Go.RowKit
set_option linter.unusedVariables false
set_option linter.unusedSimpArgs false

def PowTab (w : World) : Prop := Lib.TabIs Tryd.prog w "internal/strconv.uint64pow10" .u64 Lib.pow10Tab
theorem powTab_below {w w' : World} (h : PowTab w) (hb : Below w.heap.size w w') : PowTab w' := by
  unfold PowTab Lib.TabIs World.var? at h ⊢
  obtain ⟨g, hg⟩ : ∃ g, Tryd.prog.globalNamed "internal/strconv.uint64pow10" = some g := by
    cases hg : Tryd.prog.globalNamed "internal/strconv.uint64pow10" with
    | none => rw [hg] at h; cases h
    | some g => exact ⟨g, rfl⟩
  rw [hg] at h ⊢
  simp only [Option.bind_some] at h ⊢
  have hlt : g < w.heap.size := by
    rcases Nat.lt_or_ge g w.heap.size with h' | h'
    · exact h'
    · rw [Array.getElem?_eq_none h'] at h; cases h
  rw [hb.block g hlt]
  exact h
theorem below_grow (w : World) (k : Nat) (os : Array Obj) : Below w.heap.size w (Sort.grow (w.drewN k) os) := by
  have h1 : Below w.heap.size w (w.drewN k) := below_drewN (Below.refl _ _) k
  refine h1.trans ⟨rfl, rfl, rfl, by simp [Sort.grow], fun j hj => ?_⟩
  have : j < (w.drewN k).heap.size := Nat.lt_of_lt_of_le hj h1.size
  simp only [Sort.grow, Array.getElem?_append, if_pos this]

structure WOk (w : World) : Prop where
  pow : PowTab w
  err : RErr w
theorem WOk.below {w w' : World} (h : WOk w) (hb : Below w.heap.size w w') : WOk w' := ⟨powTab_below h.pow hb, h.err.below hb⟩

end Go.Proofs.YtflomobdaagekaaDoor
