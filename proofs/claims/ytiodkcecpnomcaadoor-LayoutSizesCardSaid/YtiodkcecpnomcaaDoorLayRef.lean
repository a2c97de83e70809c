/- The reference of layer 'layout': which plans may be; the part of a word. -/
import Derived.Test.YtiodkcecpnomcaaDoorLayPart
import Derived.Deep.RegionWith
namespace Go.Proofs.YtiodkcecpnomcaaDoor
open Go.RowKit
set_option linter.unusedVariables false
set_option linter.unusedSimpArgs false

set_option maxHeartbeats 800000 in
theorem lyRight_calls (t sp : Int) (a : Option Addr) (c : Nat) (ss : List ByteArray) (hn : Fit ss) (w : World) (h : SlOf w a (strV ss)) :
    Calls Tryd.prog 13 #[.agg #[.int .i64 t, .int .i64 sp, .slice a ss.length c]] w fun e w' => e = .returned (.bool (planB t sp ss)) ∧ Below w.heap.size w w' := by
  have HS := Lib.hid h
  have hr := fun w h => refRight_calls a c ss hn w h
  clear h
  by_cases b0 : t < 1
  · have e1 : planB t sp ss = false := by
      cases hp : planB t sp ss with
      | false => rfl
      | true => have := plan_ok hp; omega
    rw [e1]
    clear hr e1
    go_enter Tryd.func13, Tryd.ntmps13
    go_wp2
    go_ret
    exact ⟨rfl, by (repeat (first | exact Below.refl _ _ | (with_reducible assumption) | refine Below.drew ?_ | refine Below.drewN' ?_ _ | refine Below.alloc ?_ (by first | omega | (simp; done) | (simp; omega)) _ | refine Below.setCell ?_ (by first | omega | (simp; done) | (simp; omega)) _ | refine Below.then ?_ hb9 (by first | omega | (simp; done) | (simp; omega)) | refine Below.then ?_ hb8 (by first | omega | (simp; done) | (simp; omega)) | refine Below.then ?_ hb7 (by first | omega | (simp; done) | (simp; omega)) | refine Below.then ?_ hb6 (by first | omega | (simp; done) | (simp; omega)) | refine Below.then ?_ hb5 (by first | omega | (simp; done) | (simp; omega)) | refine Below.then ?_ hb4 (by first | omega | (simp; done) | (simp; omega)) | refine Below.then ?_ hb3 (by first | omega | (simp; done) | (simp; omega)) | refine Below.then ?_ hb2 (by first | omega | (simp; done) | (simp; omega)) | refine Below.then ?_ hb1 (by first | omega | (simp; done) | (simp; omega))))⟩
  by_cases b1 : 8 < t
  · have e1 : planB t sp ss = false := by
      cases hp : planB t sp ss with
      | false => rfl
      | true => have := plan_ok hp; omega
    rw [e1]
    clear hr e1
    go_enter Tryd.func13, Tryd.ntmps13
    go_wp2
    go_ret
    exact ⟨rfl, by (repeat (first | exact Below.refl _ _ | (with_reducible assumption) | refine Below.drew ?_ | refine Below.drewN' ?_ _ | refine Below.alloc ?_ (by first | omega | (simp; done) | (simp; omega)) _ | refine Below.setCell ?_ (by first | omega | (simp; done) | (simp; omega)) _ | refine Below.then ?_ hb9 (by first | omega | (simp; done) | (simp; omega)) | refine Below.then ?_ hb8 (by first | omega | (simp; done) | (simp; omega)) | refine Below.then ?_ hb7 (by first | omega | (simp; done) | (simp; omega)) | refine Below.then ?_ hb6 (by first | omega | (simp; done) | (simp; omega)) | refine Below.then ?_ hb5 (by first | omega | (simp; done) | (simp; omega)) | refine Below.then ?_ hb4 (by first | omega | (simp; done) | (simp; omega)) | refine Below.then ?_ hb3 (by first | omega | (simp; done) | (simp; omega)) | refine Below.then ?_ hb2 (by first | omega | (simp; done) | (simp; omega)) | refine Below.then ?_ hb1 (by first | omega | (simp; done) | (simp; omega))))⟩
  by_cases b2 : sp < 32
  · have e1 : planB t sp ss = false := by
      cases hp : planB t sp ss with
      | false => rfl
      | true => have := plan_ok hp; omega
    rw [e1]
    clear hr e1
    go_enter Tryd.func13, Tryd.ntmps13
    go_wp2
    go_ret
    exact ⟨rfl, by (repeat (first | exact Below.refl _ _ | (with_reducible assumption) | refine Below.drew ?_ | refine Below.drewN' ?_ _ | refine Below.alloc ?_ (by first | omega | (simp; done) | (simp; omega)) _ | refine Below.setCell ?_ (by first | omega | (simp; done) | (simp; omega)) _ | refine Below.then ?_ hb9 (by first | omega | (simp; done) | (simp; omega)) | refine Below.then ?_ hb8 (by first | omega | (simp; done) | (simp; omega)) | refine Below.then ?_ hb7 (by first | omega | (simp; done) | (simp; omega)) | refine Below.then ?_ hb6 (by first | omega | (simp; done) | (simp; omega)) | refine Below.then ?_ hb5 (by first | omega | (simp; done) | (simp; omega)) | refine Below.then ?_ hb4 (by first | omega | (simp; done) | (simp; omega)) | refine Below.then ?_ hb3 (by first | omega | (simp; done) | (simp; omega)) | refine Below.then ?_ hb2 (by first | omega | (simp; done) | (simp; omega)) | refine Below.then ?_ hb1 (by first | omega | (simp; done) | (simp; omega))))⟩
  by_cases b3 : 4096 < sp
  · have e1 : planB t sp ss = false := by
      cases hp : planB t sp ss with
      | false => rfl
      | true => have := plan_ok hp; omega
    rw [e1]
    clear hr e1
    go_enter Tryd.func13, Tryd.ntmps13
    go_wp2
    go_ret
    exact ⟨rfl, by (repeat (first | exact Below.refl _ _ | (with_reducible assumption) | refine Below.drew ?_ | refine Below.drewN' ?_ _ | refine Below.alloc ?_ (by first | omega | (simp; done) | (simp; omega)) _ | refine Below.setCell ?_ (by first | omega | (simp; done) | (simp; omega)) _ | refine Below.then ?_ hb9 (by first | omega | (simp; done) | (simp; omega)) | refine Below.then ?_ hb8 (by first | omega | (simp; done) | (simp; omega)) | refine Below.then ?_ hb7 (by first | omega | (simp; done) | (simp; omega)) | refine Below.then ?_ hb6 (by first | omega | (simp; done) | (simp; omega)) | refine Below.then ?_ hb5 (by first | omega | (simp; done) | (simp; omega)) | refine Below.then ?_ hb4 (by first | omega | (simp; done) | (simp; omega)) | refine Below.then ?_ hb3 (by first | omega | (simp; done) | (simp; omega)) | refine Below.then ?_ hb2 (by first | omega | (simp; done) | (simp; omega)) | refine Below.then ?_ hb1 (by first | omega | (simp; done) | (simp; omega))))⟩
  have e1 : planB t sp ss = tableB ss := by
    unfold planB
    rw [decide_eq_true (show 1 ≤ t ∧ t ≤ 8 by omega), decide_eq_true (show 32 ≤ sp ∧ sp ≤ 4096 by omega)]
    rfl
  rw [e1]
  have HR := Lib.hid hr
  clear hr e1
  go_enter Tryd.func13, Tryd.ntmps13
  go_wp2_with fail
  refine (HR.out _ (HS.out.alloc _)).mono ?_; rintro e1 w1 ⟨rfl, hb1⟩; obtain ⟨hc1, hf1⟩ := bcell hb1; have hz1 := hb1.size; (try simp at hz1)
  go_wp2
  go_ret
  exact ⟨rfl, by (repeat (first | exact Below.refl _ _ | (with_reducible assumption) | refine Below.drew ?_ | refine Below.drewN' ?_ _ | refine Below.alloc ?_ (by first | omega | (simp; done) | (simp; omega)) _ | refine Below.setCell ?_ (by first | omega | (simp; done) | (simp; omega)) _ | refine Below.then ?_ hb9 (by first | omega | (simp; done) | (simp; omega)) | refine Below.then ?_ hb8 (by first | omega | (simp; done) | (simp; omega)) | refine Below.then ?_ hb7 (by first | omega | (simp; done) | (simp; omega)) | refine Below.then ?_ hb6 (by first | omega | (simp; done) | (simp; omega)) | refine Below.then ?_ hb5 (by first | omega | (simp; done) | (simp; omega)) | refine Below.then ?_ hb4 (by first | omega | (simp; done) | (simp; omega)) | refine Below.then ?_ hb3 (by first | omega | (simp; done) | (simp; omega)) | refine Below.then ?_ hb2 (by first | omega | (simp; done) | (simp; omega)) | refine Below.then ?_ hb1 (by first | omega | (simp; done) | (simp; omega))))⟩

def spaceV (t sp x : Int) : Int := if x < 3 + 2 * t ∨ szP t sp ≤ x then -1 else (x - (3 + 2 * t)) / sp
theorem space_out {t sp x : Int} (h : x < 3 + 2 * t ∨ szP t sp ≤ x) : spaceV t sp x = -1 := by unfold spaceV; rw [if_pos h]
theorem space_in {t sp x : Int} (h0 : 3 + 2 * t ≤ x) (h : x < szP t sp) : spaceV t sp x = (x - (3 + 2 * t)) / sp := by unfold spaceV; rw [if_neg (by omega)]

set_option maxHeartbeats 800000 in
theorem lySpace_calls (t sp : Int) (a : Option Addr) (c n : Nat) (x : Int) (b1 : 1 ≤ t) (b2 : t ≤ 8) (b3 : 32 ≤ sp) (b4 : sp ≤ 4096) (w : World) :
    Calls Tryd.prog 37 #[.agg #[.int .i64 t, .int .i64 sp, .slice a n c], .int .i64 x] w fun e w' => e = .returned (.int .i64 (spaceV t sp x)) ∧ Below w.heap.size w w' := by
  by_cases h0 : x < 3 + 2 * t
  · rw [space_out (.inl h0)]
    go_enter Tryd.func37, Tryd.ntmps37
    go_wp2_with (first | (go_at_call 17; go_in) | (go_at_call 28; go_in))
    go_ret
    exact ⟨rfl, by (repeat (first | exact Below.refl _ _ | (with_reducible assumption) | refine Below.drew ?_ | refine Below.drewN' ?_ _ | refine Below.alloc ?_ (by first | omega | (simp; done) | (simp; omega)) _ | refine Below.setCell ?_ (by first | omega | (simp; done) | (simp; omega)) _ | refine Below.then ?_ hb9 (by first | omega | (simp; done) | (simp; omega)) | refine Below.then ?_ hb8 (by first | omega | (simp; done) | (simp; omega)) | refine Below.then ?_ hb7 (by first | omega | (simp; done) | (simp; omega)) | refine Below.then ?_ hb6 (by first | omega | (simp; done) | (simp; omega)) | refine Below.then ?_ hb5 (by first | omega | (simp; done) | (simp; omega)) | refine Below.then ?_ hb4 (by first | omega | (simp; done) | (simp; omega)) | refine Below.then ?_ hb3 (by first | omega | (simp; done) | (simp; omega)) | refine Below.then ?_ hb2 (by first | omega | (simp; done) | (simp; omega)) | refine Below.then ?_ hb1 (by first | omega | (simp; done) | (simp; omega))))⟩
  · by_cases h1 : szP t sp ≤ x
    · rw [space_out (.inr h1)]
      unfold szP at h1
      go_enter Tryd.func37, Tryd.ntmps37
      go_wp2_with (first | (go_at_call 17; go_in) | (go_at_call 28; go_in))
      go_ret
      exact ⟨rfl, by (repeat (first | exact Below.refl _ _ | (with_reducible assumption) | refine Below.drew ?_ | refine Below.drewN' ?_ _ | refine Below.alloc ?_ (by first | omega | (simp; done) | (simp; omega)) _ | refine Below.setCell ?_ (by first | omega | (simp; done) | (simp; omega)) _ | refine Below.then ?_ hb9 (by first | omega | (simp; done) | (simp; omega)) | refine Below.then ?_ hb8 (by first | omega | (simp; done) | (simp; omega)) | refine Below.then ?_ hb7 (by first | omega | (simp; done) | (simp; omega)) | refine Below.then ?_ hb6 (by first | omega | (simp; done) | (simp; omega)) | refine Below.then ?_ hb5 (by first | omega | (simp; done) | (simp; omega)) | refine Below.then ?_ hb4 (by first | omega | (simp; done) | (simp; omega)) | refine Below.then ?_ hb3 (by first | omega | (simp; done) | (simp; omega)) | refine Below.then ?_ hb2 (by first | omega | (simp; done) | (simp; omega)) | refine Below.then ?_ hb1 (by first | omega | (simp; done) | (simp; omega))))⟩
    · rw [space_in (by omega) (by omega)]
      unfold szP at h1
      have d0 : 0 ≤ x - (3 + 2 * t) := by omega
      have d1 : (x - (3 + 2 * t)) / sp ≤ 1 := by
        have := Int.ediv_lt_of_lt_mul (a := x - (3 + 2 * t)) (b := 2) (c := sp) (by omega) (by omega)
        omega
      have d2 : 0 ≤ (x - (3 + 2 * t)) / sp := Int.ediv_nonneg d0 (by omega)
      go_enter Tryd.func37, Tryd.ntmps37
      go_wp2_with (first | (go_at_call 17; go_in) | (go_at_call 28; go_in))
      go_ret
      exact ⟨rfl, by (repeat (first | exact Below.refl _ _ | (with_reducible assumption) | refine Below.drew ?_ | refine Below.drewN' ?_ _ | refine Below.alloc ?_ (by first | omega | (simp; done) | (simp; omega)) _ | refine Below.setCell ?_ (by first | omega | (simp; done) | (simp; omega)) _ | refine Below.then ?_ hb9 (by first | omega | (simp; done) | (simp; omega)) | refine Below.then ?_ hb8 (by first | omega | (simp; done) | (simp; omega)) | refine Below.then ?_ hb7 (by first | omega | (simp; done) | (simp; omega)) | refine Below.then ?_ hb6 (by first | omega | (simp; done) | (simp; omega)) | refine Below.then ?_ hb5 (by first | omega | (simp; done) | (simp; omega)) | refine Below.then ?_ hb4 (by first | omega | (simp; done) | (simp; omega)) | refine Below.then ?_ hb3 (by first | omega | (simp; done) | (simp; omega)) | refine Below.then ?_ hb2 (by first | omega | (simp; done) | (simp; omega)) | refine Below.then ?_ hb1 (by first | omega | (simp; done) | (simp; omega))))⟩

set_option maxRecDepth 100000 in
set_option maxHeartbeats 3200000 in
theorem lyPart_calls (t sp : Int) (a : Option Addr) (c : Nat) (ss : List ByteArray) (x : Int) (hp : planB t sp ss = true) (w : World) :
    Calls Tryd.prog 21 #[.agg #[.int .i64 t, .int .i64 sp, .slice a ss.length c], .int .i64 x] w fun e w' =>
      e = .returned (.agg #[.int .i64 (partK t sp ss x), .int .i64 (partN t sp ss x), .int .i64 (partA t sp ss x)]) ∧ Below w.heap.size w w' := by
  obtain ⟨b1, b2, b3, b4, _⟩ := plan_ok hp
  have hs := fun w => lySpace_calls t sp a c ss.length x b1 b2 b3 b4 w
  rcases part_E (t := t) (sp := sp) (ss := ss) (x := x) with ⟨hp', _⟩ | ⟨_, h0, he⟩ | ⟨_, h0, h1, he⟩ | ⟨_, h0, h1, he⟩
  · rw [hp] at hp'; cases hp'
  · obtain ⟨k1, k2, k3⟩ := part_bad (show partE t sp ss x ≠ 0 by rw [he]; decide)
    rw [k1, k2, k3]
    rw [space_out (.inl (by omega))] at hs
    clear k1 k2 k3 he hp
    have HZ := Lib.hid hs
    clear hs
    go_enter Tryd.func21, Tryd.ntmps21
    go_wp2_with fail
    refine (HZ.out _).mono ?_; rintro e1 w1 ⟨rfl, hb1⟩; obtain ⟨hc1, hf1⟩ := bcell hb1; have hz1 := hb1.size; (try simp at hz1)
    have aq0 := hc1 w.heap.size 0 (by first | omega | (simp; done) | (simp; omega)); simp [go_sem] at aq0
    have aq1 := hc1 w.heap.size 1 (by first | omega | (simp; done) | (simp; omega)); simp [go_sem] at aq1
    have aq2 := hc1 w.heap.size 2 (by first | omega | (simp; done) | (simp; omega)); simp [go_sem] at aq2
    have af0 := hf1 w.heap.size 0 (by first | omega | (simp; done) | (simp; omega)); simp [go_sem] at af0
    have af1 := hf1 w.heap.size 1 (by first | omega | (simp; done) | (simp; omega)); simp [go_sem] at af1
    have af2 := hf1 w.heap.size 2 (by first | omega | (simp; done) | (simp; omega)); simp [go_sem] at af2
    have al : w.heap.size < w1.heap.size := by first | omega | (simp; done) | (simp; omega)
    have bq0 := hc1 (w.heap.size + 1) 0 (by first | omega | (simp; done) | (simp; omega)); simp [go_sem] at bq0
    have bq1 := hc1 (w.heap.size + 1) 1 (by first | omega | (simp; done) | (simp; omega)); simp [go_sem] at bq1
    have bq2 := hc1 (w.heap.size + 1) 2 (by first | omega | (simp; done) | (simp; omega)); simp [go_sem] at bq2
    have bf0 := hf1 (w.heap.size + 1) 0 (by first | omega | (simp; done) | (simp; omega)); simp [go_sem] at bf0
    have bf1 := hf1 (w.heap.size + 1) 1 (by first | omega | (simp; done) | (simp; omega)); simp [go_sem] at bf1
    have bf2 := hf1 (w.heap.size + 1) 2 (by first | omega | (simp; done) | (simp; omega)); simp [go_sem] at bf2
    have bl : (w.heap.size + 1) < w1.heap.size := by first | omega | (simp; done) | (simp; omega)
    have an0 : ¬ w.heap.size = w1.heap.size := by omega
    have an1 : ¬ w.heap.size = w1.heap.size + 1 := by omega
    have an2 : ¬ w.heap.size = w1.heap.size + 1 + 1 := by omega
    have an3 : ¬ w.heap.size = w1.heap.size + 1 + 1 + 1 := by omega
    have an4 : ¬ w.heap.size + 1 = w1.heap.size := by omega
    have ax0 : w.heap.size ≤ w1.heap.size := by omega
    have ax1 : w.heap.size ≤ w1.heap.size + 1 := by omega
    have ax2 : w.heap.size ≤ w1.heap.size + 1 + 1 := by omega
    have ax3 : w.heap.size ≤ w1.heap.size + 1 + 1 + 1 := by omega
    have ax4 : w.heap.size + 1 ≤ w1.heap.size := by omega
    have ay1 : w.heap.size < w1.heap.size + 1 := by omega
    have ay2 : w.heap.size < w1.heap.size + 1 + 1 := by omega
    have ay3 : w.heap.size < w1.heap.size + 1 + 1 + 1 := by omega
    have ay4 : w.heap.size + 1 < w1.heap.size + 1 + 1 := by omega
    have ay5 : w.heap.size + 1 < w1.heap.size + 1 + 1 + 1 := by omega
    go_wp2_with (first | (go_at_call 17; go_in))
    exact bodyPost_ret (v := .agg #[.int .i64 0, .int .i64 0, .int .i64 0]) (by simp [results, Tryd.results21, go_sem, bq0, bq1, bq2, bl, Nat.ne_of_lt bl, World.cell?_setCell_same', cell_off, *]) rfl ⟨rfl, by (repeat (first | exact Below.refl _ _ | (with_reducible assumption) | refine Below.drew ?_ | refine Below.drewN' ?_ _ | refine Below.alloc ?_ (by first | omega | (simp; done) | (simp; omega)) _ | refine Below.setCell ?_ (by first | omega | (simp; done) | (simp; omega)) _ | refine Below.then ?_ hb9 (by first | omega | (simp; done) | (simp; omega)) | refine Below.then ?_ hb8 (by first | omega | (simp; done) | (simp; omega)) | refine Below.then ?_ hb7 (by first | omega | (simp; done) | (simp; omega)) | refine Below.then ?_ hb6 (by first | omega | (simp; done) | (simp; omega)) | refine Below.then ?_ hb5 (by first | omega | (simp; done) | (simp; omega)) | refine Below.then ?_ hb4 (by first | omega | (simp; done) | (simp; omega)) | refine Below.then ?_ hb3 (by first | omega | (simp; done) | (simp; omega)) | refine Below.then ?_ hb2 (by first | omega | (simp; done) | (simp; omega)) | refine Below.then ?_ hb1 (by first | omega | (simp; done) | (simp; omega))))⟩
  · obtain ⟨k1, k2, k3⟩ := part_bad (show partE t sp ss x ≠ 0 by rw [he]; decide)
    rw [k1, k2, k3]
    rw [space_out (.inr h1)] at hs
    unfold szP at h1
    clear k1 k2 k3 he hp
    have HZ := Lib.hid hs
    clear hs
    go_enter Tryd.func21, Tryd.ntmps21
    go_wp2_with fail
    refine (HZ.out _).mono ?_; rintro e1 w1 ⟨rfl, hb1⟩; obtain ⟨hc1, hf1⟩ := bcell hb1; have hz1 := hb1.size; (try simp at hz1)
    have aq0 := hc1 w.heap.size 0 (by first | omega | (simp; done) | (simp; omega)); simp [go_sem] at aq0
    have aq1 := hc1 w.heap.size 1 (by first | omega | (simp; done) | (simp; omega)); simp [go_sem] at aq1
    have aq2 := hc1 w.heap.size 2 (by first | omega | (simp; done) | (simp; omega)); simp [go_sem] at aq2
    have af0 := hf1 w.heap.size 0 (by first | omega | (simp; done) | (simp; omega)); simp [go_sem] at af0
    have af1 := hf1 w.heap.size 1 (by first | omega | (simp; done) | (simp; omega)); simp [go_sem] at af1
    have af2 := hf1 w.heap.size 2 (by first | omega | (simp; done) | (simp; omega)); simp [go_sem] at af2
    have al : w.heap.size < w1.heap.size := by first | omega | (simp; done) | (simp; omega)
    have bq0 := hc1 (w.heap.size + 1) 0 (by first | omega | (simp; done) | (simp; omega)); simp [go_sem] at bq0
    have bq1 := hc1 (w.heap.size + 1) 1 (by first | omega | (simp; done) | (simp; omega)); simp [go_sem] at bq1
    have bq2 := hc1 (w.heap.size + 1) 2 (by first | omega | (simp; done) | (simp; omega)); simp [go_sem] at bq2
    have bf0 := hf1 (w.heap.size + 1) 0 (by first | omega | (simp; done) | (simp; omega)); simp [go_sem] at bf0
    have bf1 := hf1 (w.heap.size + 1) 1 (by first | omega | (simp; done) | (simp; omega)); simp [go_sem] at bf1
    have bf2 := hf1 (w.heap.size + 1) 2 (by first | omega | (simp; done) | (simp; omega)); simp [go_sem] at bf2
    have bl : (w.heap.size + 1) < w1.heap.size := by first | omega | (simp; done) | (simp; omega)
    have an0 : ¬ w.heap.size = w1.heap.size := by omega
    have an1 : ¬ w.heap.size = w1.heap.size + 1 := by omega
    have an2 : ¬ w.heap.size = w1.heap.size + 1 + 1 := by omega
    have an3 : ¬ w.heap.size = w1.heap.size + 1 + 1 + 1 := by omega
    have an4 : ¬ w.heap.size + 1 = w1.heap.size := by omega
    have ax0 : w.heap.size ≤ w1.heap.size := by omega
    have ax1 : w.heap.size ≤ w1.heap.size + 1 := by omega
    have ax2 : w.heap.size ≤ w1.heap.size + 1 + 1 := by omega
    have ax3 : w.heap.size ≤ w1.heap.size + 1 + 1 + 1 := by omega
    have ax4 : w.heap.size + 1 ≤ w1.heap.size := by omega
    have ay1 : w.heap.size < w1.heap.size + 1 := by omega
    have ay2 : w.heap.size < w1.heap.size + 1 + 1 := by omega
    have ay3 : w.heap.size < w1.heap.size + 1 + 1 + 1 := by omega
    have ay4 : w.heap.size + 1 < w1.heap.size + 1 + 1 := by omega
    have ay5 : w.heap.size + 1 < w1.heap.size + 1 + 1 + 1 := by omega
    go_wp2_with (first | (go_at_call 17; go_in))
    exact bodyPost_ret (v := .agg #[.int .i64 0, .int .i64 0, .int .i64 0]) (by simp [results, Tryd.results21, go_sem, bq0, bq1, bq2, bl, Nat.ne_of_lt bl, World.cell?_setCell_same', cell_off, *]) rfl ⟨rfl, by (repeat (first | exact Below.refl _ _ | (with_reducible assumption) | refine Below.drew ?_ | refine Below.drewN' ?_ _ | refine Below.alloc ?_ (by first | omega | (simp; done) | (simp; omega)) _ | refine Below.setCell ?_ (by first | omega | (simp; done) | (simp; omega)) _ | refine Below.then ?_ hb9 (by first | omega | (simp; done) | (simp; omega)) | refine Below.then ?_ hb8 (by first | omega | (simp; done) | (simp; omega)) | refine Below.then ?_ hb7 (by first | omega | (simp; done) | (simp; omega)) | refine Below.then ?_ hb6 (by first | omega | (simp; done) | (simp; omega)) | refine Below.then ?_ hb5 (by first | omega | (simp; done) | (simp; omega)) | refine Below.then ?_ hb4 (by first | omega | (simp; done) | (simp; omega)) | refine Below.then ?_ hb3 (by first | omega | (simp; done) | (simp; omega)) | refine Below.then ?_ hb2 (by first | omega | (simp; done) | (simp; omega)) | refine Below.then ?_ hb1 (by first | omega | (simp; done) | (simp; omega))))⟩
  rcases part_cases hp he with ⟨c1, k1, k2, k3⟩ | ⟨c0, c1, k1, k2, k3⟩ | ⟨c0, c1, k1, k2, k3⟩ | ⟨c0, k1, k2, k3⟩
  · rw [k1, k2, k3]
    rw [space_out (.inl (by omega))] at hs
    unfold szP at h1
    clear k1 k2 k3 he hp
    have HZ := Lib.hid hs
    clear hs
    go_enter Tryd.func21, Tryd.ntmps21
    go_wp2_with fail
    refine (HZ.out _).mono ?_; rintro e1 w1 ⟨rfl, hb1⟩; obtain ⟨hc1, hf1⟩ := bcell hb1; have hz1 := hb1.size; (try simp at hz1)
    have aq0 := hc1 w.heap.size 0 (by first | omega | (simp; done) | (simp; omega)); simp [go_sem] at aq0
    have aq1 := hc1 w.heap.size 1 (by first | omega | (simp; done) | (simp; omega)); simp [go_sem] at aq1
    have aq2 := hc1 w.heap.size 2 (by first | omega | (simp; done) | (simp; omega)); simp [go_sem] at aq2
    have af0 := hf1 w.heap.size 0 (by first | omega | (simp; done) | (simp; omega)); simp [go_sem] at af0
    have af1 := hf1 w.heap.size 1 (by first | omega | (simp; done) | (simp; omega)); simp [go_sem] at af1
    have af2 := hf1 w.heap.size 2 (by first | omega | (simp; done) | (simp; omega)); simp [go_sem] at af2
    have al : w.heap.size < w1.heap.size := by first | omega | (simp; done) | (simp; omega)
    have bq0 := hc1 (w.heap.size + 1) 0 (by first | omega | (simp; done) | (simp; omega)); simp [go_sem] at bq0
    have bq1 := hc1 (w.heap.size + 1) 1 (by first | omega | (simp; done) | (simp; omega)); simp [go_sem] at bq1
    have bq2 := hc1 (w.heap.size + 1) 2 (by first | omega | (simp; done) | (simp; omega)); simp [go_sem] at bq2
    have bf0 := hf1 (w.heap.size + 1) 0 (by first | omega | (simp; done) | (simp; omega)); simp [go_sem] at bf0
    have bf1 := hf1 (w.heap.size + 1) 1 (by first | omega | (simp; done) | (simp; omega)); simp [go_sem] at bf1
    have bf2 := hf1 (w.heap.size + 1) 2 (by first | omega | (simp; done) | (simp; omega)); simp [go_sem] at bf2
    have bl : (w.heap.size + 1) < w1.heap.size := by first | omega | (simp; done) | (simp; omega)
    have an0 : ¬ w.heap.size = w1.heap.size := by omega
    have an1 : ¬ w.heap.size = w1.heap.size + 1 := by omega
    have an2 : ¬ w.heap.size = w1.heap.size + 1 + 1 := by omega
    have an3 : ¬ w.heap.size = w1.heap.size + 1 + 1 + 1 := by omega
    have an4 : ¬ w.heap.size + 1 = w1.heap.size := by omega
    have ax0 : w.heap.size ≤ w1.heap.size := by omega
    have ax1 : w.heap.size ≤ w1.heap.size + 1 := by omega
    have ax2 : w.heap.size ≤ w1.heap.size + 1 + 1 := by omega
    have ax3 : w.heap.size ≤ w1.heap.size + 1 + 1 + 1 := by omega
    have ax4 : w.heap.size + 1 ≤ w1.heap.size := by omega
    have ay1 : w.heap.size < w1.heap.size + 1 := by omega
    have ay2 : w.heap.size < w1.heap.size + 1 + 1 := by omega
    have ay3 : w.heap.size < w1.heap.size + 1 + 1 + 1 := by omega
    have ay4 : w.heap.size + 1 < w1.heap.size + 1 + 1 := by omega
    have ay5 : w.heap.size + 1 < w1.heap.size + 1 + 1 + 1 := by omega
    go_wp2_with (first | (go_at_call 17; go_in))
    exact bodyPost_ret (v := .agg #[.int .i64 (1 + x), .int .i64 0, .int .i64 0]) (by simp [results, Tryd.results21, go_sem, bq0, bq1, bq2, bl, Nat.ne_of_lt bl, World.cell?_setCell_same', cell_off, *]) rfl ⟨rfl, by (repeat (first | exact Below.refl _ _ | (with_reducible assumption) | refine Below.drew ?_ | refine Below.drewN' ?_ _ | refine Below.alloc ?_ (by first | omega | (simp; done) | (simp; omega)) _ | refine Below.setCell ?_ (by first | omega | (simp; done) | (simp; omega)) _ | refine Below.then ?_ hb9 (by first | omega | (simp; done) | (simp; omega)) | refine Below.then ?_ hb8 (by first | omega | (simp; done) | (simp; omega)) | refine Below.then ?_ hb7 (by first | omega | (simp; done) | (simp; omega)) | refine Below.then ?_ hb6 (by first | omega | (simp; done) | (simp; omega)) | refine Below.then ?_ hb5 (by first | omega | (simp; done) | (simp; omega)) | refine Below.then ?_ hb4 (by first | omega | (simp; done) | (simp; omega)) | refine Below.then ?_ hb3 (by first | omega | (simp; done) | (simp; omega)) | refine Below.then ?_ hb2 (by first | omega | (simp; done) | (simp; omega)) | refine Below.then ?_ hb1 (by first | omega | (simp; done) | (simp; omega))))⟩
  · rw [k1, k2, k3]
    rw [space_out (.inl (by omega))] at hs
    unfold szP at h1
    clear k1 k2 k3 he hp
    have HZ := Lib.hid hs
    clear hs
    go_enter Tryd.func21, Tryd.ntmps21
    go_wp2_with fail
    refine (HZ.out _).mono ?_; rintro e1 w1 ⟨rfl, hb1⟩; obtain ⟨hc1, hf1⟩ := bcell hb1; have hz1 := hb1.size; (try simp at hz1)
    have aq0 := hc1 w.heap.size 0 (by first | omega | (simp; done) | (simp; omega)); simp [go_sem] at aq0
    have aq1 := hc1 w.heap.size 1 (by first | omega | (simp; done) | (simp; omega)); simp [go_sem] at aq1
    have aq2 := hc1 w.heap.size 2 (by first | omega | (simp; done) | (simp; omega)); simp [go_sem] at aq2
    have af0 := hf1 w.heap.size 0 (by first | omega | (simp; done) | (simp; omega)); simp [go_sem] at af0
    have af1 := hf1 w.heap.size 1 (by first | omega | (simp; done) | (simp; omega)); simp [go_sem] at af1
    have af2 := hf1 w.heap.size 2 (by first | omega | (simp; done) | (simp; omega)); simp [go_sem] at af2
    have al : w.heap.size < w1.heap.size := by first | omega | (simp; done) | (simp; omega)
    have bq0 := hc1 (w.heap.size + 1) 0 (by first | omega | (simp; done) | (simp; omega)); simp [go_sem] at bq0
    have bq1 := hc1 (w.heap.size + 1) 1 (by first | omega | (simp; done) | (simp; omega)); simp [go_sem] at bq1
    have bq2 := hc1 (w.heap.size + 1) 2 (by first | omega | (simp; done) | (simp; omega)); simp [go_sem] at bq2
    have bf0 := hf1 (w.heap.size + 1) 0 (by first | omega | (simp; done) | (simp; omega)); simp [go_sem] at bf0
    have bf1 := hf1 (w.heap.size + 1) 1 (by first | omega | (simp; done) | (simp; omega)); simp [go_sem] at bf1
    have bf2 := hf1 (w.heap.size + 1) 2 (by first | omega | (simp; done) | (simp; omega)); simp [go_sem] at bf2
    have bl : (w.heap.size + 1) < w1.heap.size := by first | omega | (simp; done) | (simp; omega)
    have an0 : ¬ w.heap.size = w1.heap.size := by omega
    have an1 : ¬ w.heap.size = w1.heap.size + 1 := by omega
    have an2 : ¬ w.heap.size = w1.heap.size + 1 + 1 := by omega
    have an3 : ¬ w.heap.size = w1.heap.size + 1 + 1 + 1 := by omega
    have an4 : ¬ w.heap.size + 1 = w1.heap.size := by omega
    have ax0 : w.heap.size ≤ w1.heap.size := by omega
    have ax1 : w.heap.size ≤ w1.heap.size + 1 := by omega
    have ax2 : w.heap.size ≤ w1.heap.size + 1 + 1 := by omega
    have ax3 : w.heap.size ≤ w1.heap.size + 1 + 1 + 1 := by omega
    have ax4 : w.heap.size + 1 ≤ w1.heap.size := by omega
    have ay1 : w.heap.size < w1.heap.size + 1 := by omega
    have ay2 : w.heap.size < w1.heap.size + 1 + 1 := by omega
    have ay3 : w.heap.size < w1.heap.size + 1 + 1 + 1 := by omega
    have ay4 : w.heap.size + 1 < w1.heap.size + 1 + 1 := by omega
    have ay5 : w.heap.size + 1 < w1.heap.size + 1 + 1 + 1 := by omega
    go_wp2_with (first | (go_at_call 17; go_in))
    exact bodyPost_ret (v := .agg #[.int .i64 4, .int .i64 (x - 3), .int .i64 0]) (by simp [results, Tryd.results21, go_sem, bq0, bq1, bq2, bl, Nat.ne_of_lt bl, World.cell?_setCell_same', cell_off, *]) rfl ⟨rfl, by (repeat (first | exact Below.refl _ _ | (with_reducible assumption) | refine Below.drew ?_ | refine Below.drewN' ?_ _ | refine Below.alloc ?_ (by first | omega | (simp; done) | (simp; omega)) _ | refine Below.setCell ?_ (by first | omega | (simp; done) | (simp; omega)) _ | refine Below.then ?_ hb9 (by first | omega | (simp; done) | (simp; omega)) | refine Below.then ?_ hb8 (by first | omega | (simp; done) | (simp; omega)) | refine Below.then ?_ hb7 (by first | omega | (simp; done) | (simp; omega)) | refine Below.then ?_ hb6 (by first | omega | (simp; done) | (simp; omega)) | refine Below.then ?_ hb5 (by first | omega | (simp; done) | (simp; omega)) | refine Below.then ?_ hb4 (by first | omega | (simp; done) | (simp; omega)) | refine Below.then ?_ hb3 (by first | omega | (simp; done) | (simp; omega)) | refine Below.then ?_ hb2 (by first | omega | (simp; done) | (simp; omega)) | refine Below.then ?_ hb1 (by first | omega | (simp; done) | (simp; omega))))⟩
  · rw [k1, k2, k3]
    rw [space_out (.inl (by omega))] at hs
    unfold szP at h1
    clear k1 k2 k3 he hp
    rw [show x - (3 + t) = x - 3 - t by omega]
    have HZ := Lib.hid hs
    clear hs
    go_enter Tryd.func21, Tryd.ntmps21
    go_wp2_with fail
    refine (HZ.out _).mono ?_; rintro e1 w1 ⟨rfl, hb1⟩; obtain ⟨hc1, hf1⟩ := bcell hb1; have hz1 := hb1.size; (try simp at hz1)
    have aq0 := hc1 w.heap.size 0 (by first | omega | (simp; done) | (simp; omega)); simp [go_sem] at aq0
    have aq1 := hc1 w.heap.size 1 (by first | omega | (simp; done) | (simp; omega)); simp [go_sem] at aq1
    have aq2 := hc1 w.heap.size 2 (by first | omega | (simp; done) | (simp; omega)); simp [go_sem] at aq2
    have af0 := hf1 w.heap.size 0 (by first | omega | (simp; done) | (simp; omega)); simp [go_sem] at af0
    have af1 := hf1 w.heap.size 1 (by first | omega | (simp; done) | (simp; omega)); simp [go_sem] at af1
    have af2 := hf1 w.heap.size 2 (by first | omega | (simp; done) | (simp; omega)); simp [go_sem] at af2
    have al : w.heap.size < w1.heap.size := by first | omega | (simp; done) | (simp; omega)
    have bq0 := hc1 (w.heap.size + 1) 0 (by first | omega | (simp; done) | (simp; omega)); simp [go_sem] at bq0
    have bq1 := hc1 (w.heap.size + 1) 1 (by first | omega | (simp; done) | (simp; omega)); simp [go_sem] at bq1
    have bq2 := hc1 (w.heap.size + 1) 2 (by first | omega | (simp; done) | (simp; omega)); simp [go_sem] at bq2
    have bf0 := hf1 (w.heap.size + 1) 0 (by first | omega | (simp; done) | (simp; omega)); simp [go_sem] at bf0
    have bf1 := hf1 (w.heap.size + 1) 1 (by first | omega | (simp; done) | (simp; omega)); simp [go_sem] at bf1
    have bf2 := hf1 (w.heap.size + 1) 2 (by first | omega | (simp; done) | (simp; omega)); simp [go_sem] at bf2
    have bl : (w.heap.size + 1) < w1.heap.size := by first | omega | (simp; done) | (simp; omega)
    have an0 : ¬ w.heap.size = w1.heap.size := by omega
    have an1 : ¬ w.heap.size = w1.heap.size + 1 := by omega
    have an2 : ¬ w.heap.size = w1.heap.size + 1 + 1 := by omega
    have an3 : ¬ w.heap.size = w1.heap.size + 1 + 1 + 1 := by omega
    have an4 : ¬ w.heap.size + 1 = w1.heap.size := by omega
    have ax0 : w.heap.size ≤ w1.heap.size := by omega
    have ax1 : w.heap.size ≤ w1.heap.size + 1 := by omega
    have ax2 : w.heap.size ≤ w1.heap.size + 1 + 1 := by omega
    have ax3 : w.heap.size ≤ w1.heap.size + 1 + 1 + 1 := by omega
    have ax4 : w.heap.size + 1 ≤ w1.heap.size := by omega
    have ay1 : w.heap.size < w1.heap.size + 1 := by omega
    have ay2 : w.heap.size < w1.heap.size + 1 + 1 := by omega
    have ay3 : w.heap.size < w1.heap.size + 1 + 1 + 1 := by omega
    have ay4 : w.heap.size + 1 < w1.heap.size + 1 + 1 := by omega
    have ay5 : w.heap.size + 1 < w1.heap.size + 1 + 1 + 1 := by omega
    go_wp2_with (first | (go_at_call 17; go_in))
    exact bodyPost_ret (v := .agg #[.int .i64 5, .int .i64 (x - 3 - t), .int .i64 0]) (by simp [results, Tryd.results21, go_sem, bq0, bq1, bq2, bl, Nat.ne_of_lt bl, World.cell?_setCell_same', cell_off, *]) rfl ⟨rfl, by (repeat (first | exact Below.refl _ _ | (with_reducible assumption) | refine Below.drew ?_ | refine Below.drewN' ?_ _ | refine Below.alloc ?_ (by first | omega | (simp; done) | (simp; omega)) _ | refine Below.setCell ?_ (by first | omega | (simp; done) | (simp; omega)) _ | refine Below.then ?_ hb9 (by first | omega | (simp; done) | (simp; omega)) | refine Below.then ?_ hb8 (by first | omega | (simp; done) | (simp; omega)) | refine Below.then ?_ hb7 (by first | omega | (simp; done) | (simp; omega)) | refine Below.then ?_ hb6 (by first | omega | (simp; done) | (simp; omega)) | refine Below.then ?_ hb5 (by first | omega | (simp; done) | (simp; omega)) | refine Below.then ?_ hb4 (by first | omega | (simp; done) | (simp; omega)) | refine Below.then ?_ hb3 (by first | omega | (simp; done) | (simp; omega)) | refine Below.then ?_ hb2 (by first | omega | (simp; done) | (simp; omega)) | refine Below.then ?_ hb1 (by first | omega | (simp; done) | (simp; omega))))⟩
  · rw [k1, k2, k3]
    rw [space_in c0 h1] at hs
    unfold szP at h1
    clear k1 k2 k3 he hp
    have d0 : 0 ≤ x - (3 + 2 * t) := by omega
    have d1 : (x - (3 + 2 * t)) / sp ≤ 1 := by
      have := Int.ediv_lt_of_lt_mul (a := x - (3 + 2 * t)) (b := 2) (c := sp) (by omega) (by omega)
      omega
    have d2 : 0 ≤ (x - (3 + 2 * t)) / sp := Int.ediv_nonneg d0 (by omega)
    have d3 := Int.emod_nonneg (x - (3 + 2 * t)) (show sp ≠ 0 by omega)
    have d4 := Int.emod_lt_of_pos (x - (3 + 2 * t)) (show 0 < sp by omega)
    obtain ⟨q, hq⟩ : ∃ q, (x - (3 + 2 * t)) / sp = q := ⟨_, rfl⟩
    rw [hq] at d1 d2 hs ⊢
    clear hq
    have HZ := Lib.hid hs
    clear hs
    go_enter Tryd.func21, Tryd.ntmps21
    go_wp2_with fail
    refine (HZ.out _).mono ?_; rintro e1 w1 ⟨rfl, hb1⟩; obtain ⟨hc1, hf1⟩ := bcell hb1; have hz1 := hb1.size; (try simp at hz1)
    have aq0 := hc1 w.heap.size 0 (by first | omega | (simp; done) | (simp; omega)); simp [go_sem] at aq0
    have aq1 := hc1 w.heap.size 1 (by first | omega | (simp; done) | (simp; omega)); simp [go_sem] at aq1
    have aq2 := hc1 w.heap.size 2 (by first | omega | (simp; done) | (simp; omega)); simp [go_sem] at aq2
    have af0 := hf1 w.heap.size 0 (by first | omega | (simp; done) | (simp; omega)); simp [go_sem] at af0
    have af1 := hf1 w.heap.size 1 (by first | omega | (simp; done) | (simp; omega)); simp [go_sem] at af1
    have af2 := hf1 w.heap.size 2 (by first | omega | (simp; done) | (simp; omega)); simp [go_sem] at af2
    have al : w.heap.size < w1.heap.size := by first | omega | (simp; done) | (simp; omega)
    have bq0 := hc1 (w.heap.size + 1) 0 (by first | omega | (simp; done) | (simp; omega)); simp [go_sem] at bq0
    have bq1 := hc1 (w.heap.size + 1) 1 (by first | omega | (simp; done) | (simp; omega)); simp [go_sem] at bq1
    have bq2 := hc1 (w.heap.size + 1) 2 (by first | omega | (simp; done) | (simp; omega)); simp [go_sem] at bq2
    have bf0 := hf1 (w.heap.size + 1) 0 (by first | omega | (simp; done) | (simp; omega)); simp [go_sem] at bf0
    have bf1 := hf1 (w.heap.size + 1) 1 (by first | omega | (simp; done) | (simp; omega)); simp [go_sem] at bf1
    have bf2 := hf1 (w.heap.size + 1) 2 (by first | omega | (simp; done) | (simp; omega)); simp [go_sem] at bf2
    have bl : (w.heap.size + 1) < w1.heap.size := by first | omega | (simp; done) | (simp; omega)
    have an0 : ¬ w.heap.size = w1.heap.size := by omega
    have an1 : ¬ w.heap.size = w1.heap.size + 1 := by omega
    have an2 : ¬ w.heap.size = w1.heap.size + 1 + 1 := by omega
    have an3 : ¬ w.heap.size = w1.heap.size + 1 + 1 + 1 := by omega
    have an4 : ¬ w.heap.size + 1 = w1.heap.size := by omega
    have ax0 : w.heap.size ≤ w1.heap.size := by omega
    have ax1 : w.heap.size ≤ w1.heap.size + 1 := by omega
    have ax2 : w.heap.size ≤ w1.heap.size + 1 + 1 := by omega
    have ax3 : w.heap.size ≤ w1.heap.size + 1 + 1 + 1 := by omega
    have ax4 : w.heap.size + 1 ≤ w1.heap.size := by omega
    have ay1 : w.heap.size < w1.heap.size + 1 := by omega
    have ay2 : w.heap.size < w1.heap.size + 1 + 1 := by omega
    have ay3 : w.heap.size < w1.heap.size + 1 + 1 + 1 := by omega
    have ay4 : w.heap.size + 1 < w1.heap.size + 1 + 1 := by omega
    have ay5 : w.heap.size + 1 < w1.heap.size + 1 + 1 + 1 := by omega
    go_wp2_with (first | (go_at_call 17; go_in))
    go_region_with (first | (go_at_call 17; go_in))
    all_goals
      go_wp2
      exact bodyPost_ret (v := .agg #[.int .i64 6, .int .i64 q, .int .i64 ((x - (3 + 2 * t)) % sp)]) (by simp [results, Tryd.results21, go_sem, bq0, bq1, bq2, bl, Nat.ne_of_lt bl, World.cell?_setCell_same', cell_off, *]) rfl ⟨rfl, by (repeat (first | exact Below.refl _ _ | (with_reducible assumption) | refine Below.drew ?_ | refine Below.drewN' ?_ _ | refine Below.alloc ?_ (by first | omega | (simp; done) | (simp; omega)) _ | refine Below.setCell ?_ (by first | omega | (simp; done) | (simp; omega)) _ | refine Below.then ?_ hb9 (by first | omega | (simp; done) | (simp; omega)) | refine Below.then ?_ hb8 (by first | omega | (simp; done) | (simp; omega)) | refine Below.then ?_ hb7 (by first | omega | (simp; done) | (simp; omega)) | refine Below.then ?_ hb6 (by first | omega | (simp; done) | (simp; omega)) | refine Below.then ?_ hb5 (by first | omega | (simp; done) | (simp; omega)) | refine Below.then ?_ hb4 (by first | omega | (simp; done) | (simp; omega)) | refine Below.then ?_ hb3 (by first | omega | (simp; done) | (simp; omega)) | refine Below.then ?_ hb2 (by first | omega | (simp; done) | (simp; omega)) | refine Below.then ?_ hb1 (by first | omega | (simp; done) | (simp; omega))))⟩

end Go.Proofs.YtiodkcecpnomcaaDoor
