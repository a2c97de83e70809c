/- The layer 'layout': where a part's word stands. -/
import Derived.Test.YtiodkcecpnomcaaDoorLayPart
import Derived.Deep.RegionWith
namespace Go.Proofs.YtiodkcecpnomcaaDoor
open Go.RowKit
set_option linter.unusedVariables false
set_option linter.unusedSimpArgs false

def atE (t sp : Int) (ss : List ByteArray) (k n x : Int) : Int :=
  if planB t sp ss = true ∧ 1 ≤ k ∧ k ≤ 6 ∧ (k < 4 → n = 0) ∧ (k < 6 → x = 0) then (if (3 < k ∧ (n < 0 ∨ (if k = 6 then 2 else t) ≤ n)) ∨ (k = 6 ∧ (x < 0 ∨ sp ≤ x)) then 4 else 0) else 2
def atV (t sp : Int) (ss : List ByteArray) (k n x : Int) : Int :=
  if atE t sp ss k n x = 0 then (if k < 4 then k - 1 else if k = 4 then 3 + n else if k = 5 then 3 + t + n else 3 + 2 * t + n * sp + x) else 0
theorem at_no {t sp : Int} {ss : List ByteArray} {k n x : Int} (h : atE t sp ss k n x ≠ 0) : atV t sp ss k n x = 0 := by unfold atV; rw [if_neg h]
theorem at_refused {t sp : Int} {ss : List ByteArray} {k n x : Int} (h : ¬ (planB t sp ss = true ∧ 1 ≤ k ∧ k ≤ 6 ∧ (k < 4 → n = 0) ∧ (k < 6 → x = 0))) : atE t sp ss k n x = 2 ∧ atV t sp ss k n x = 0 := by
  have e : atE t sp ss k n x = 2 := by unfold atE; rw [if_neg h]
  exact ⟨e, at_no (by rw [e]; decide)⟩
theorem at_out {t sp : Int} {ss : List ByteArray} {k n x : Int} (h : planB t sp ss = true ∧ 1 ≤ k ∧ k ≤ 6 ∧ (k < 4 → n = 0) ∧ (k < 6 → x = 0)) (h' : (3 < k ∧ (n < 0 ∨ (if k = 6 then 2 else t) ≤ n)) ∨ (k = 6 ∧ (x < 0 ∨ sp ≤ x))) : atE t sp ss k n x = 4 ∧ atV t sp ss k n x = 0 := by
  have e : atE t sp ss k n x = 4 := by unfold atE; rw [if_pos h, if_pos h']
  exact ⟨e, at_no (by rw [e]; decide)⟩
theorem at_in {t sp : Int} {ss : List ByteArray} {k n x : Int} (h : planB t sp ss = true ∧ 1 ≤ k ∧ k ≤ 6 ∧ (k < 4 → n = 0) ∧ (k < 6 → x = 0)) (h' : ¬ ((3 < k ∧ (n < 0 ∨ (if k = 6 then 2 else t) ≤ n)) ∨ (k = 6 ∧ (x < 0 ∨ sp ≤ x)))) :
    atE t sp ss k n x = 0 ∧ atV t sp ss k n x = (if k < 4 then k - 1 else if k = 4 then 3 + n else if k = 5 then 3 + t + n else 3 + 2 * t + n * sp + x) := by
  have e : atE t sp ss k n x = 0 := by unfold atE; rw [if_pos h, if_neg h']
  exact ⟨e, by unfold atV; rw [if_pos e]⟩

set_option maxRecDepth 100000 in
set_option maxHeartbeats 6400000 in
theorem layAt_calls (t sp : Int) (a : Option Addr) (c : Nat) (ss : List ByteArray) (k n x : Int) (hn : ss.length ≤ maxLen) (w : World) (h : SlOf w a (strV ss)) :
    Calls Tryd.prog 20 #[.agg #[.int .i64 t, .int .i64 sp, .slice a ss.length c], .agg #[.int .i64 k, .int .i64 n, .int .i64 x]] w fun e w' =>
      e = .returned (.tuple #[.int .i64 (atV t sp ss k n x), .int .i64 (atE t sp ss k n x)]) ∧ Below w.heap.size w w' := by
  have HS := Lib.hid h
  have hck := fun w h => layCheck_calls t sp a c ss hn w h
  clear h
  cases hp : planB t sp ss with
  | false =>
    obtain ⟨e2, e3⟩ := at_refused (t := t) (sp := sp) (ss := ss) (k := k) (n := n) (x := x) (by rw [hp]; simp)
    have e1 : planE t sp ss = 2 := by simp [planE, hp]
    rw [e1] at hck
    rw [e2, e3]
    have HC := Lib.hid hck
    clear hck e1 e2 e3 hp
    go_enter Tryd.func20, Tryd.ntmps20
    go_wp2_with fail
    refine wp_scope_once 0 rfl ?_
    go_wp2_with fail
    refine (HC.out _ (((HS.out.alloc _).alloc _).alloc _)).mono ?_; rintro e1 w1 ⟨rfl, hb1⟩; obtain ⟨hc1, hf1⟩ := bcell hb1; have hz1 := hb1.size; (try simp at hz1)
    have aq0 := hc1 w.heap.size 0 (by first | omega | (simp; done) | (simp; omega)); simp [go_sem] at aq0
    have aq1 := hc1 w.heap.size 1 (by first | omega | (simp; done) | (simp; omega)); simp [go_sem] at aq1
    have aq2 := hc1 w.heap.size 2 (by first | omega | (simp; done) | (simp; omega)); simp [go_sem] at aq2
    have af0 := hf1 w.heap.size 0 (by first | omega | (simp; done) | (simp; omega)); simp [go_sem] at af0
    have af1 := hf1 w.heap.size 1 (by first | omega | (simp; done) | (simp; omega)); simp [go_sem] at af1
    have af2 := hf1 w.heap.size 2 (by first | omega | (simp; done) | (simp; omega)); simp [go_sem] at af2
    have al : w.heap.size < w1.heap.size := by first | omega | (simp; done) | (simp; omega)
    have bq0 := hc1 (w.heap.size + 1) 0 (by first | omega | (simp; done) | (simp; omega)); simp [go_sem] at bq0
    have bq1 := hc1 (w.heap.size + 1) 1 (by first | omega | (simp; done) | (simp; omega)); simp [go_sem] at bq1
    have bq2 := hc1 (w.heap.size + 1) 2 (by first | omega | (simp; done) | (simp; omega)); simp [go_sem] at bq2
    have bf0 := hf1 (w.heap.size + 1) 0 (by first | omega | (simp; done) | (simp; omega)); simp [go_sem] at bf0
    have bf1 := hf1 (w.heap.size + 1) 1 (by first | omega | (simp; done) | (simp; omega)); simp [go_sem] at bf1
    have bf2 := hf1 (w.heap.size + 1) 2 (by first | omega | (simp; done) | (simp; omega)); simp [go_sem] at bf2
    have bl : (w.heap.size + 1) < w1.heap.size := by first | omega | (simp; done) | (simp; omega)
    have dq0 := hc1 (w.heap.size + 2) 0 (by first | omega | (simp; done) | (simp; omega)); simp [go_sem] at dq0
    have dq1 := hc1 (w.heap.size + 2) 1 (by first | omega | (simp; done) | (simp; omega)); simp [go_sem] at dq1
    have dq2 := hc1 (w.heap.size + 2) 2 (by first | omega | (simp; done) | (simp; omega)); simp [go_sem] at dq2
    have df0 := hf1 (w.heap.size + 2) 0 (by first | omega | (simp; done) | (simp; omega)); simp [go_sem] at df0
    have df1 := hf1 (w.heap.size + 2) 1 (by first | omega | (simp; done) | (simp; omega)); simp [go_sem] at df1
    have df2 := hf1 (w.heap.size + 2) 2 (by first | omega | (simp; done) | (simp; omega)); simp [go_sem] at df2
    have dl : (w.heap.size + 2) < w1.heap.size := by first | omega | (simp; done) | (simp; omega)
    go_wp2
    go_step3
    refine ⟨rfl, ?_⟩
    go_wp2
    rw [Exit.noGoto_ret]
    go_ret2
    exact ⟨rfl, by (repeat (first | exact Below.refl _ _ | (with_reducible assumption) | refine Below.drew ?_ | refine Below.drewN' ?_ _ | refine Below.alloc ?_ (by first | omega | (simp; done) | (simp; omega)) _ | refine Below.setCell ?_ (by first | omega | (simp; done) | (simp; omega)) _ | refine Below.then ?_ hb9 (by first | omega | (simp; done) | (simp; omega)) | refine Below.then ?_ hb8 (by first | omega | (simp; done) | (simp; omega)) | refine Below.then ?_ hb7 (by first | omega | (simp; done) | (simp; omega)) | refine Below.then ?_ hb6 (by first | omega | (simp; done) | (simp; omega)) | refine Below.then ?_ hb5 (by first | omega | (simp; done) | (simp; omega)) | refine Below.then ?_ hb4 (by first | omega | (simp; done) | (simp; omega)) | refine Below.then ?_ hb3 (by first | omega | (simp; done) | (simp; omega)) | refine Below.then ?_ hb2 (by first | omega | (simp; done) | (simp; omega)) | refine Below.then ?_ hb1 (by first | omega | (simp; done) | (simp; omega))))⟩
  | true =>
    obtain ⟨b1, b2, b3, b4, _⟩ := plan_ok hp
    have e1 : planE t sp ss = 0 := by simp [planE, hp]
    rw [e1] at hck
    have HC := Lib.hid hck
    clear hck e1
    by_cases k0 : k ≤ 0
    · obtain ⟨e2, e3⟩ := at_refused (t := t) (sp := sp) (ss := ss) (k := k) (n := n) (x := x) (by omega)
      rw [e2, e3]
      clear e2 e3 hp
      go_enter Tryd.func20, Tryd.ntmps20
      go_wp2_with fail
      refine wp_scope_once 0 rfl ?_
      go_wp2_with fail
      refine (HC.out _ (((HS.out.alloc _).alloc _).alloc _)).mono ?_; rintro e1 w1 ⟨rfl, hb1⟩; obtain ⟨hc1, hf1⟩ := bcell hb1; have hz1 := hb1.size; (try simp at hz1)
      have aq0 := hc1 w.heap.size 0 (by first | omega | (simp; done) | (simp; omega)); simp [go_sem] at aq0
      have aq1 := hc1 w.heap.size 1 (by first | omega | (simp; done) | (simp; omega)); simp [go_sem] at aq1
      have aq2 := hc1 w.heap.size 2 (by first | omega | (simp; done) | (simp; omega)); simp [go_sem] at aq2
      have af0 := hf1 w.heap.size 0 (by first | omega | (simp; done) | (simp; omega)); simp [go_sem] at af0
      have af1 := hf1 w.heap.size 1 (by first | omega | (simp; done) | (simp; omega)); simp [go_sem] at af1
      have af2 := hf1 w.heap.size 2 (by first | omega | (simp; done) | (simp; omega)); simp [go_sem] at af2
      have al : w.heap.size < w1.heap.size := by first | omega | (simp; done) | (simp; omega)
      have bq0 := hc1 (w.heap.size + 1) 0 (by first | omega | (simp; done) | (simp; omega)); simp [go_sem] at bq0
      have bq1 := hc1 (w.heap.size + 1) 1 (by first | omega | (simp; done) | (simp; omega)); simp [go_sem] at bq1
      have bq2 := hc1 (w.heap.size + 1) 2 (by first | omega | (simp; done) | (simp; omega)); simp [go_sem] at bq2
      have bf0 := hf1 (w.heap.size + 1) 0 (by first | omega | (simp; done) | (simp; omega)); simp [go_sem] at bf0
      have bf1 := hf1 (w.heap.size + 1) 1 (by first | omega | (simp; done) | (simp; omega)); simp [go_sem] at bf1
      have bf2 := hf1 (w.heap.size + 1) 2 (by first | omega | (simp; done) | (simp; omega)); simp [go_sem] at bf2
      have bl : (w.heap.size + 1) < w1.heap.size := by first | omega | (simp; done) | (simp; omega)
      have dq0 := hc1 (w.heap.size + 2) 0 (by first | omega | (simp; done) | (simp; omega)); simp [go_sem] at dq0
      have dq1 := hc1 (w.heap.size + 2) 1 (by first | omega | (simp; done) | (simp; omega)); simp [go_sem] at dq1
      have dq2 := hc1 (w.heap.size + 2) 2 (by first | omega | (simp; done) | (simp; omega)); simp [go_sem] at dq2
      have df0 := hf1 (w.heap.size + 2) 0 (by first | omega | (simp; done) | (simp; omega)); simp [go_sem] at df0
      have df1 := hf1 (w.heap.size + 2) 1 (by first | omega | (simp; done) | (simp; omega)); simp [go_sem] at df1
      have df2 := hf1 (w.heap.size + 2) 2 (by first | omega | (simp; done) | (simp; omega)); simp [go_sem] at df2
      have dl : (w.heap.size + 2) < w1.heap.size := by first | omega | (simp; done) | (simp; omega)
      go_wp2
      go_step3
      refine ⟨rfl, ?_⟩
      go_wp2
      rw [Exit.noGoto_ret]
      go_ret2
      exact ⟨rfl, by (repeat (first | exact Below.refl _ _ | (with_reducible assumption) | refine Below.drew ?_ | refine Below.drewN' ?_ _ | refine Below.alloc ?_ (by first | omega | (simp; done) | (simp; omega)) _ | refine Below.setCell ?_ (by first | omega | (simp; done) | (simp; omega)) _ | refine Below.then ?_ hb9 (by first | omega | (simp; done) | (simp; omega)) | refine Below.then ?_ hb8 (by first | omega | (simp; done) | (simp; omega)) | refine Below.then ?_ hb7 (by first | omega | (simp; done) | (simp; omega)) | refine Below.then ?_ hb6 (by first | omega | (simp; done) | (simp; omega)) | refine Below.then ?_ hb5 (by first | omega | (simp; done) | (simp; omega)) | refine Below.then ?_ hb4 (by first | omega | (simp; done) | (simp; omega)) | refine Below.then ?_ hb3 (by first | omega | (simp; done) | (simp; omega)) | refine Below.then ?_ hb2 (by first | omega | (simp; done) | (simp; omega)) | refine Below.then ?_ hb1 (by first | omega | (simp; done) | (simp; omega))))⟩
    by_cases k7 : 6 < k
    · obtain ⟨e2, e3⟩ := at_refused (t := t) (sp := sp) (ss := ss) (k := k) (n := n) (x := x) (by omega)
      rw [e2, e3]
      clear e2 e3 hp
      go_enter Tryd.func20, Tryd.ntmps20
      go_wp2_with fail
      refine wp_scope_once 0 rfl ?_
      go_wp2_with fail
      refine (HC.out _ (((HS.out.alloc _).alloc _).alloc _)).mono ?_; rintro e1 w1 ⟨rfl, hb1⟩; obtain ⟨hc1, hf1⟩ := bcell hb1; have hz1 := hb1.size; (try simp at hz1)
      have aq0 := hc1 w.heap.size 0 (by first | omega | (simp; done) | (simp; omega)); simp [go_sem] at aq0
      have aq1 := hc1 w.heap.size 1 (by first | omega | (simp; done) | (simp; omega)); simp [go_sem] at aq1
      have aq2 := hc1 w.heap.size 2 (by first | omega | (simp; done) | (simp; omega)); simp [go_sem] at aq2
      have af0 := hf1 w.heap.size 0 (by first | omega | (simp; done) | (simp; omega)); simp [go_sem] at af0
      have af1 := hf1 w.heap.size 1 (by first | omega | (simp; done) | (simp; omega)); simp [go_sem] at af1
      have af2 := hf1 w.heap.size 2 (by first | omega | (simp; done) | (simp; omega)); simp [go_sem] at af2
      have al : w.heap.size < w1.heap.size := by first | omega | (simp; done) | (simp; omega)
      have bq0 := hc1 (w.heap.size + 1) 0 (by first | omega | (simp; done) | (simp; omega)); simp [go_sem] at bq0
      have bq1 := hc1 (w.heap.size + 1) 1 (by first | omega | (simp; done) | (simp; omega)); simp [go_sem] at bq1
      have bq2 := hc1 (w.heap.size + 1) 2 (by first | omega | (simp; done) | (simp; omega)); simp [go_sem] at bq2
      have bf0 := hf1 (w.heap.size + 1) 0 (by first | omega | (simp; done) | (simp; omega)); simp [go_sem] at bf0
      have bf1 := hf1 (w.heap.size + 1) 1 (by first | omega | (simp; done) | (simp; omega)); simp [go_sem] at bf1
      have bf2 := hf1 (w.heap.size + 1) 2 (by first | omega | (simp; done) | (simp; omega)); simp [go_sem] at bf2
      have bl : (w.heap.size + 1) < w1.heap.size := by first | omega | (simp; done) | (simp; omega)
      have dq0 := hc1 (w.heap.size + 2) 0 (by first | omega | (simp; done) | (simp; omega)); simp [go_sem] at dq0
      have dq1 := hc1 (w.heap.size + 2) 1 (by first | omega | (simp; done) | (simp; omega)); simp [go_sem] at dq1
      have dq2 := hc1 (w.heap.size + 2) 2 (by first | omega | (simp; done) | (simp; omega)); simp [go_sem] at dq2
      have df0 := hf1 (w.heap.size + 2) 0 (by first | omega | (simp; done) | (simp; omega)); simp [go_sem] at df0
      have df1 := hf1 (w.heap.size + 2) 1 (by first | omega | (simp; done) | (simp; omega)); simp [go_sem] at df1
      have df2 := hf1 (w.heap.size + 2) 2 (by first | omega | (simp; done) | (simp; omega)); simp [go_sem] at df2
      have dl : (w.heap.size + 2) < w1.heap.size := by first | omega | (simp; done) | (simp; omega)
      go_wp2
      go_step3
      refine ⟨rfl, ?_⟩
      go_wp2
      rw [Exit.noGoto_ret]
      go_ret2
      exact ⟨rfl, by (repeat (first | exact Below.refl _ _ | (with_reducible assumption) | refine Below.drew ?_ | refine Below.drewN' ?_ _ | refine Below.alloc ?_ (by first | omega | (simp; done) | (simp; omega)) _ | refine Below.setCell ?_ (by first | omega | (simp; done) | (simp; omega)) _ | refine Below.then ?_ hb9 (by first | omega | (simp; done) | (simp; omega)) | refine Below.then ?_ hb8 (by first | omega | (simp; done) | (simp; omega)) | refine Below.then ?_ hb7 (by first | omega | (simp; done) | (simp; omega)) | refine Below.then ?_ hb6 (by first | omega | (simp; done) | (simp; omega)) | refine Below.then ?_ hb5 (by first | omega | (simp; done) | (simp; omega)) | refine Below.then ?_ hb4 (by first | omega | (simp; done) | (simp; omega)) | refine Below.then ?_ hb3 (by first | omega | (simp; done) | (simp; omega)) | refine Below.then ?_ hb2 (by first | omega | (simp; done) | (simp; omega)) | refine Below.then ?_ hb1 (by first | omega | (simp; done) | (simp; omega))))⟩
    by_cases k6 : k = 6
    · subst k6
      have hbs := fun w h => layBase_calls t sp a c ss n hn w h
      clear k0 k7
      have hg : planB t sp ss = true ∧ 1 ≤ (6 : Int) ∧ (6 : Int) ≤ 6 ∧ ((6 : Int) < 4 → n = 0) ∧ ((6 : Int) < 6 → x = 0) := ⟨hp, by decide, by decide, fun h => by omega, fun h => by omega⟩
      by_cases n0 : n < 0 ∨ 2 ≤ n
      · obtain ⟨e2, e3⟩ := at_out hg (.inl ⟨by decide, by rw [if_pos rfl]; exact n0⟩)
        have e4 : placeE t sp ss n 2 = 4 := by unfold placeE; rw [if_pos hp, if_pos n0]
        have e5 : placeV t sp ss n 2 (3 + 2 * t + n * sp) = 0 := by unfold placeV; rw [if_neg (by rw [e4]; decide)]
        rw [e2, e3]
        rw [e4, e5] at hbs
        have HB := Lib.hid hbs
        clear e2 e3 e4 e5 hp hbs hg n0
        go_enter Tryd.func20, Tryd.ntmps20
        go_wp2_with fail
        refine wp_scope_once 0 rfl ?_
        go_wp2_with fail
        refine (HC.out _ (((HS.out.alloc _).alloc _).alloc _)).mono ?_; rintro e1 w1 ⟨rfl, hb1⟩; obtain ⟨hc1, hf1⟩ := bcell hb1; have hz1 := hb1.size; (try simp at hz1)
        have aq0 := hc1 w.heap.size 0 (by first | omega | (simp; done) | (simp; omega)); simp [go_sem] at aq0
        have aq1 := hc1 w.heap.size 1 (by first | omega | (simp; done) | (simp; omega)); simp [go_sem] at aq1
        have aq2 := hc1 w.heap.size 2 (by first | omega | (simp; done) | (simp; omega)); simp [go_sem] at aq2
        have af0 := hf1 w.heap.size 0 (by first | omega | (simp; done) | (simp; omega)); simp [go_sem] at af0
        have af1 := hf1 w.heap.size 1 (by first | omega | (simp; done) | (simp; omega)); simp [go_sem] at af1
        have af2 := hf1 w.heap.size 2 (by first | omega | (simp; done) | (simp; omega)); simp [go_sem] at af2
        have al : w.heap.size < w1.heap.size := by first | omega | (simp; done) | (simp; omega)
        have bq0 := hc1 (w.heap.size + 1) 0 (by first | omega | (simp; done) | (simp; omega)); simp [go_sem] at bq0
        have bq1 := hc1 (w.heap.size + 1) 1 (by first | omega | (simp; done) | (simp; omega)); simp [go_sem] at bq1
        have bq2 := hc1 (w.heap.size + 1) 2 (by first | omega | (simp; done) | (simp; omega)); simp [go_sem] at bq2
        have bf0 := hf1 (w.heap.size + 1) 0 (by first | omega | (simp; done) | (simp; omega)); simp [go_sem] at bf0
        have bf1 := hf1 (w.heap.size + 1) 1 (by first | omega | (simp; done) | (simp; omega)); simp [go_sem] at bf1
        have bf2 := hf1 (w.heap.size + 1) 2 (by first | omega | (simp; done) | (simp; omega)); simp [go_sem] at bf2
        have bl : (w.heap.size + 1) < w1.heap.size := by first | omega | (simp; done) | (simp; omega)
        have dq0 := hc1 (w.heap.size + 2) 0 (by first | omega | (simp; done) | (simp; omega)); simp [go_sem] at dq0
        have dq1 := hc1 (w.heap.size + 2) 1 (by first | omega | (simp; done) | (simp; omega)); simp [go_sem] at dq1
        have dq2 := hc1 (w.heap.size + 2) 2 (by first | omega | (simp; done) | (simp; omega)); simp [go_sem] at dq2
        have df0 := hf1 (w.heap.size + 2) 0 (by first | omega | (simp; done) | (simp; omega)); simp [go_sem] at df0
        have df1 := hf1 (w.heap.size + 2) 1 (by first | omega | (simp; done) | (simp; omega)); simp [go_sem] at df1
        have df2 := hf1 (w.heap.size + 2) 2 (by first | omega | (simp; done) | (simp; omega)); simp [go_sem] at df2
        have dl : (w.heap.size + 2) < w1.heap.size := by first | omega | (simp; done) | (simp; omega)
        go_wp2_with fail
        refine (HB.out _ ((((HS.out.alloc _).alloc _).alloc _).below hb1)).mono ?_; rintro e2 w2 ⟨rfl, hb2⟩; obtain ⟨hc2, hf2⟩ := bcell hb2; have hz2 := hb2.size; (try simp at hz2)
        replace aq0 := hold_cell (w2 := w2) aq0 (by (repeat (first | exact Below.refl _ _ | (with_reducible assumption) | refine Below.drew ?_ | refine Below.drewN' ?_ _ | refine Below.alloc ?_ (by first | omega | (simp; done) | (simp; omega)) _ | refine Below.setCell ?_ (by first | omega | (simp; done) | (simp; omega)) _ | refine Below.then ?_ hb9 (by first | omega | (simp; done) | (simp; omega)) | refine Below.then ?_ hb8 (by first | omega | (simp; done) | (simp; omega)) | refine Below.then ?_ hb7 (by first | omega | (simp; done) | (simp; omega)) | refine Below.then ?_ hb6 (by first | omega | (simp; done) | (simp; omega)) | refine Below.then ?_ hb5 (by first | omega | (simp; done) | (simp; omega)) | refine Below.then ?_ hb4 (by first | omega | (simp; done) | (simp; omega)) | refine Below.then ?_ hb3 (by first | omega | (simp; done) | (simp; omega)) | refine Below.then ?_ hb2 (by first | omega | (simp; done) | (simp; omega)) | refine Below.then ?_ hb1 (by first | omega | (simp; done) | (simp; omega))))) (by first | omega | (simp; done) | (simp; omega))
        replace aq1 := hold_cell (w2 := w2) aq1 (by (repeat (first | exact Below.refl _ _ | (with_reducible assumption) | refine Below.drew ?_ | refine Below.drewN' ?_ _ | refine Below.alloc ?_ (by first | omega | (simp; done) | (simp; omega)) _ | refine Below.setCell ?_ (by first | omega | (simp; done) | (simp; omega)) _ | refine Below.then ?_ hb9 (by first | omega | (simp; done) | (simp; omega)) | refine Below.then ?_ hb8 (by first | omega | (simp; done) | (simp; omega)) | refine Below.then ?_ hb7 (by first | omega | (simp; done) | (simp; omega)) | refine Below.then ?_ hb6 (by first | omega | (simp; done) | (simp; omega)) | refine Below.then ?_ hb5 (by first | omega | (simp; done) | (simp; omega)) | refine Below.then ?_ hb4 (by first | omega | (simp; done) | (simp; omega)) | refine Below.then ?_ hb3 (by first | omega | (simp; done) | (simp; omega)) | refine Below.then ?_ hb2 (by first | omega | (simp; done) | (simp; omega)) | refine Below.then ?_ hb1 (by first | omega | (simp; done) | (simp; omega))))) (by first | omega | (simp; done) | (simp; omega))
        replace aq2 := hold_cell (w2 := w2) aq2 (by (repeat (first | exact Below.refl _ _ | (with_reducible assumption) | refine Below.drew ?_ | refine Below.drewN' ?_ _ | refine Below.alloc ?_ (by first | omega | (simp; done) | (simp; omega)) _ | refine Below.setCell ?_ (by first | omega | (simp; done) | (simp; omega)) _ | refine Below.then ?_ hb9 (by first | omega | (simp; done) | (simp; omega)) | refine Below.then ?_ hb8 (by first | omega | (simp; done) | (simp; omega)) | refine Below.then ?_ hb7 (by first | omega | (simp; done) | (simp; omega)) | refine Below.then ?_ hb6 (by first | omega | (simp; done) | (simp; omega)) | refine Below.then ?_ hb5 (by first | omega | (simp; done) | (simp; omega)) | refine Below.then ?_ hb4 (by first | omega | (simp; done) | (simp; omega)) | refine Below.then ?_ hb3 (by first | omega | (simp; done) | (simp; omega)) | refine Below.then ?_ hb2 (by first | omega | (simp; done) | (simp; omega)) | refine Below.then ?_ hb1 (by first | omega | (simp; done) | (simp; omega))))) (by first | omega | (simp; done) | (simp; omega))
        replace bq0 := hold_cell (w2 := w2) bq0 (by (repeat (first | exact Below.refl _ _ | (with_reducible assumption) | refine Below.drew ?_ | refine Below.drewN' ?_ _ | refine Below.alloc ?_ (by first | omega | (simp; done) | (simp; omega)) _ | refine Below.setCell ?_ (by first | omega | (simp; done) | (simp; omega)) _ | refine Below.then ?_ hb9 (by first | omega | (simp; done) | (simp; omega)) | refine Below.then ?_ hb8 (by first | omega | (simp; done) | (simp; omega)) | refine Below.then ?_ hb7 (by first | omega | (simp; done) | (simp; omega)) | refine Below.then ?_ hb6 (by first | omega | (simp; done) | (simp; omega)) | refine Below.then ?_ hb5 (by first | omega | (simp; done) | (simp; omega)) | refine Below.then ?_ hb4 (by first | omega | (simp; done) | (simp; omega)) | refine Below.then ?_ hb3 (by first | omega | (simp; done) | (simp; omega)) | refine Below.then ?_ hb2 (by first | omega | (simp; done) | (simp; omega)) | refine Below.then ?_ hb1 (by first | omega | (simp; done) | (simp; omega))))) (by first | omega | (simp; done) | (simp; omega))
        replace bq1 := hold_cell (w2 := w2) bq1 (by (repeat (first | exact Below.refl _ _ | (with_reducible assumption) | refine Below.drew ?_ | refine Below.drewN' ?_ _ | refine Below.alloc ?_ (by first | omega | (simp; done) | (simp; omega)) _ | refine Below.setCell ?_ (by first | omega | (simp; done) | (simp; omega)) _ | refine Below.then ?_ hb9 (by first | omega | (simp; done) | (simp; omega)) | refine Below.then ?_ hb8 (by first | omega | (simp; done) | (simp; omega)) | refine Below.then ?_ hb7 (by first | omega | (simp; done) | (simp; omega)) | refine Below.then ?_ hb6 (by first | omega | (simp; done) | (simp; omega)) | refine Below.then ?_ hb5 (by first | omega | (simp; done) | (simp; omega)) | refine Below.then ?_ hb4 (by first | omega | (simp; done) | (simp; omega)) | refine Below.then ?_ hb3 (by first | omega | (simp; done) | (simp; omega)) | refine Below.then ?_ hb2 (by first | omega | (simp; done) | (simp; omega)) | refine Below.then ?_ hb1 (by first | omega | (simp; done) | (simp; omega))))) (by first | omega | (simp; done) | (simp; omega))
        replace bq2 := hold_cell (w2 := w2) bq2 (by (repeat (first | exact Below.refl _ _ | (with_reducible assumption) | refine Below.drew ?_ | refine Below.drewN' ?_ _ | refine Below.alloc ?_ (by first | omega | (simp; done) | (simp; omega)) _ | refine Below.setCell ?_ (by first | omega | (simp; done) | (simp; omega)) _ | refine Below.then ?_ hb9 (by first | omega | (simp; done) | (simp; omega)) | refine Below.then ?_ hb8 (by first | omega | (simp; done) | (simp; omega)) | refine Below.then ?_ hb7 (by first | omega | (simp; done) | (simp; omega)) | refine Below.then ?_ hb6 (by first | omega | (simp; done) | (simp; omega)) | refine Below.then ?_ hb5 (by first | omega | (simp; done) | (simp; omega)) | refine Below.then ?_ hb4 (by first | omega | (simp; done) | (simp; omega)) | refine Below.then ?_ hb3 (by first | omega | (simp; done) | (simp; omega)) | refine Below.then ?_ hb2 (by first | omega | (simp; done) | (simp; omega)) | refine Below.then ?_ hb1 (by first | omega | (simp; done) | (simp; omega))))) (by first | omega | (simp; done) | (simp; omega))
        go_wp2
        simp only [Exit.jump]
        go_ret2
        exact ⟨rfl, by (repeat (first | exact Below.refl _ _ | (with_reducible assumption) | refine Below.drew ?_ | refine Below.drewN' ?_ _ | refine Below.alloc ?_ (by first | omega | (simp; done) | (simp; omega)) _ | refine Below.setCell ?_ (by first | omega | (simp; done) | (simp; omega)) _ | refine Below.then ?_ hb9 (by first | omega | (simp; done) | (simp; omega)) | refine Below.then ?_ hb8 (by first | omega | (simp; done) | (simp; omega)) | refine Below.then ?_ hb7 (by first | omega | (simp; done) | (simp; omega)) | refine Below.then ?_ hb6 (by first | omega | (simp; done) | (simp; omega)) | refine Below.then ?_ hb5 (by first | omega | (simp; done) | (simp; omega)) | refine Below.then ?_ hb4 (by first | omega | (simp; done) | (simp; omega)) | refine Below.then ?_ hb3 (by first | omega | (simp; done) | (simp; omega)) | refine Below.then ?_ hb2 (by first | omega | (simp; done) | (simp; omega)) | refine Below.then ?_ hb1 (by first | omega | (simp; done) | (simp; omega))))⟩
      · have e4 : placeE t sp ss n 2 = 0 := by unfold placeE; rw [if_pos hp, if_neg n0]
        have e5 : placeV t sp ss n 2 (3 + 2 * t + n * sp) = 3 + 2 * t + n * sp := by unfold placeV; rw [if_pos e4]
        rw [e4, e5] at hbs
        have HB := Lib.hid hbs
        clear e4 e5 hbs
        by_cases x0 : x < 0
        · obtain ⟨e2, e3⟩ := at_out hg (.inr ⟨rfl, .inl x0⟩)
          rw [e2, e3]
          clear e2 e3 hp hg n0
          go_enter Tryd.func20, Tryd.ntmps20
          go_wp2_with fail
          refine wp_scope_once 0 rfl ?_
          go_wp2_with fail
          refine (HC.out _ (((HS.out.alloc _).alloc _).alloc _)).mono ?_; rintro e1 w1 ⟨rfl, hb1⟩; obtain ⟨hc1, hf1⟩ := bcell hb1; have hz1 := hb1.size; (try simp at hz1)
          have aq0 := hc1 w.heap.size 0 (by first | omega | (simp; done) | (simp; omega)); simp [go_sem] at aq0
          have aq1 := hc1 w.heap.size 1 (by first | omega | (simp; done) | (simp; omega)); simp [go_sem] at aq1
          have aq2 := hc1 w.heap.size 2 (by first | omega | (simp; done) | (simp; omega)); simp [go_sem] at aq2
          have af0 := hf1 w.heap.size 0 (by first | omega | (simp; done) | (simp; omega)); simp [go_sem] at af0
          have af1 := hf1 w.heap.size 1 (by first | omega | (simp; done) | (simp; omega)); simp [go_sem] at af1
          have af2 := hf1 w.heap.size 2 (by first | omega | (simp; done) | (simp; omega)); simp [go_sem] at af2
          have al : w.heap.size < w1.heap.size := by first | omega | (simp; done) | (simp; omega)
          have bq0 := hc1 (w.heap.size + 1) 0 (by first | omega | (simp; done) | (simp; omega)); simp [go_sem] at bq0
          have bq1 := hc1 (w.heap.size + 1) 1 (by first | omega | (simp; done) | (simp; omega)); simp [go_sem] at bq1
          have bq2 := hc1 (w.heap.size + 1) 2 (by first | omega | (simp; done) | (simp; omega)); simp [go_sem] at bq2
          have bf0 := hf1 (w.heap.size + 1) 0 (by first | omega | (simp; done) | (simp; omega)); simp [go_sem] at bf0
          have bf1 := hf1 (w.heap.size + 1) 1 (by first | omega | (simp; done) | (simp; omega)); simp [go_sem] at bf1
          have bf2 := hf1 (w.heap.size + 1) 2 (by first | omega | (simp; done) | (simp; omega)); simp [go_sem] at bf2
          have bl : (w.heap.size + 1) < w1.heap.size := by first | omega | (simp; done) | (simp; omega)
          have dq0 := hc1 (w.heap.size + 2) 0 (by first | omega | (simp; done) | (simp; omega)); simp [go_sem] at dq0
          have dq1 := hc1 (w.heap.size + 2) 1 (by first | omega | (simp; done) | (simp; omega)); simp [go_sem] at dq1
          have dq2 := hc1 (w.heap.size + 2) 2 (by first | omega | (simp; done) | (simp; omega)); simp [go_sem] at dq2
          have df0 := hf1 (w.heap.size + 2) 0 (by first | omega | (simp; done) | (simp; omega)); simp [go_sem] at df0
          have df1 := hf1 (w.heap.size + 2) 1 (by first | omega | (simp; done) | (simp; omega)); simp [go_sem] at df1
          have df2 := hf1 (w.heap.size + 2) 2 (by first | omega | (simp; done) | (simp; omega)); simp [go_sem] at df2
          have dl : (w.heap.size + 2) < w1.heap.size := by first | omega | (simp; done) | (simp; omega)
          go_wp2_with fail
          refine (HB.out _ ((((HS.out.alloc _).alloc _).alloc _).below hb1)).mono ?_; rintro e2 w2 ⟨rfl, hb2⟩; obtain ⟨hc2, hf2⟩ := bcell hb2; have hz2 := hb2.size; (try simp at hz2)
          replace aq0 := hold_cell (w2 := w2) aq0 (by (repeat (first | exact Below.refl _ _ | (with_reducible assumption) | refine Below.drew ?_ | refine Below.drewN' ?_ _ | refine Below.alloc ?_ (by first | omega | (simp; done) | (simp; omega)) _ | refine Below.setCell ?_ (by first | omega | (simp; done) | (simp; omega)) _ | refine Below.then ?_ hb9 (by first | omega | (simp; done) | (simp; omega)) | refine Below.then ?_ hb8 (by first | omega | (simp; done) | (simp; omega)) | refine Below.then ?_ hb7 (by first | omega | (simp; done) | (simp; omega)) | refine Below.then ?_ hb6 (by first | omega | (simp; done) | (simp; omega)) | refine Below.then ?_ hb5 (by first | omega | (simp; done) | (simp; omega)) | refine Below.then ?_ hb4 (by first | omega | (simp; done) | (simp; omega)) | refine Below.then ?_ hb3 (by first | omega | (simp; done) | (simp; omega)) | refine Below.then ?_ hb2 (by first | omega | (simp; done) | (simp; omega)) | refine Below.then ?_ hb1 (by first | omega | (simp; done) | (simp; omega))))) (by first | omega | (simp; done) | (simp; omega))
          replace aq1 := hold_cell (w2 := w2) aq1 (by (repeat (first | exact Below.refl _ _ | (with_reducible assumption) | refine Below.drew ?_ | refine Below.drewN' ?_ _ | refine Below.alloc ?_ (by first | omega | (simp; done) | (simp; omega)) _ | refine Below.setCell ?_ (by first | omega | (simp; done) | (simp; omega)) _ | refine Below.then ?_ hb9 (by first | omega | (simp; done) | (simp; omega)) | refine Below.then ?_ hb8 (by first | omega | (simp; done) | (simp; omega)) | refine Below.then ?_ hb7 (by first | omega | (simp; done) | (simp; omega)) | refine Below.then ?_ hb6 (by first | omega | (simp; done) | (simp; omega)) | refine Below.then ?_ hb5 (by first | omega | (simp; done) | (simp; omega)) | refine Below.then ?_ hb4 (by first | omega | (simp; done) | (simp; omega)) | refine Below.then ?_ hb3 (by first | omega | (simp; done) | (simp; omega)) | refine Below.then ?_ hb2 (by first | omega | (simp; done) | (simp; omega)) | refine Below.then ?_ hb1 (by first | omega | (simp; done) | (simp; omega))))) (by first | omega | (simp; done) | (simp; omega))
          replace aq2 := hold_cell (w2 := w2) aq2 (by (repeat (first | exact Below.refl _ _ | (with_reducible assumption) | refine Below.drew ?_ | refine Below.drewN' ?_ _ | refine Below.alloc ?_ (by first | omega | (simp; done) | (simp; omega)) _ | refine Below.setCell ?_ (by first | omega | (simp; done) | (simp; omega)) _ | refine Below.then ?_ hb9 (by first | omega | (simp; done) | (simp; omega)) | refine Below.then ?_ hb8 (by first | omega | (simp; done) | (simp; omega)) | refine Below.then ?_ hb7 (by first | omega | (simp; done) | (simp; omega)) | refine Below.then ?_ hb6 (by first | omega | (simp; done) | (simp; omega)) | refine Below.then ?_ hb5 (by first | omega | (simp; done) | (simp; omega)) | refine Below.then ?_ hb4 (by first | omega | (simp; done) | (simp; omega)) | refine Below.then ?_ hb3 (by first | omega | (simp; done) | (simp; omega)) | refine Below.then ?_ hb2 (by first | omega | (simp; done) | (simp; omega)) | refine Below.then ?_ hb1 (by first | omega | (simp; done) | (simp; omega))))) (by first | omega | (simp; done) | (simp; omega))
          replace bq0 := hold_cell (w2 := w2) bq0 (by (repeat (first | exact Below.refl _ _ | (with_reducible assumption) | refine Below.drew ?_ | refine Below.drewN' ?_ _ | refine Below.alloc ?_ (by first | omega | (simp; done) | (simp; omega)) _ | refine Below.setCell ?_ (by first | omega | (simp; done) | (simp; omega)) _ | refine Below.then ?_ hb9 (by first | omega | (simp; done) | (simp; omega)) | refine Below.then ?_ hb8 (by first | omega | (simp; done) | (simp; omega)) | refine Below.then ?_ hb7 (by first | omega | (simp; done) | (simp; omega)) | refine Below.then ?_ hb6 (by first | omega | (simp; done) | (simp; omega)) | refine Below.then ?_ hb5 (by first | omega | (simp; done) | (simp; omega)) | refine Below.then ?_ hb4 (by first | omega | (simp; done) | (simp; omega)) | refine Below.then ?_ hb3 (by first | omega | (simp; done) | (simp; omega)) | refine Below.then ?_ hb2 (by first | omega | (simp; done) | (simp; omega)) | refine Below.then ?_ hb1 (by first | omega | (simp; done) | (simp; omega))))) (by first | omega | (simp; done) | (simp; omega))
          replace bq1 := hold_cell (w2 := w2) bq1 (by (repeat (first | exact Below.refl _ _ | (with_reducible assumption) | refine Below.drew ?_ | refine Below.drewN' ?_ _ | refine Below.alloc ?_ (by first | omega | (simp; done) | (simp; omega)) _ | refine Below.setCell ?_ (by first | omega | (simp; done) | (simp; omega)) _ | refine Below.then ?_ hb9 (by first | omega | (simp; done) | (simp; omega)) | refine Below.then ?_ hb8 (by first | omega | (simp; done) | (simp; omega)) | refine Below.then ?_ hb7 (by first | omega | (simp; done) | (simp; omega)) | refine Below.then ?_ hb6 (by first | omega | (simp; done) | (simp; omega)) | refine Below.then ?_ hb5 (by first | omega | (simp; done) | (simp; omega)) | refine Below.then ?_ hb4 (by first | omega | (simp; done) | (simp; omega)) | refine Below.then ?_ hb3 (by first | omega | (simp; done) | (simp; omega)) | refine Below.then ?_ hb2 (by first | omega | (simp; done) | (simp; omega)) | refine Below.then ?_ hb1 (by first | omega | (simp; done) | (simp; omega))))) (by first | omega | (simp; done) | (simp; omega))
          replace bq2 := hold_cell (w2 := w2) bq2 (by (repeat (first | exact Below.refl _ _ | (with_reducible assumption) | refine Below.drew ?_ | refine Below.drewN' ?_ _ | refine Below.alloc ?_ (by first | omega | (simp; done) | (simp; omega)) _ | refine Below.setCell ?_ (by first | omega | (simp; done) | (simp; omega)) _ | refine Below.then ?_ hb9 (by first | omega | (simp; done) | (simp; omega)) | refine Below.then ?_ hb8 (by first | omega | (simp; done) | (simp; omega)) | refine Below.then ?_ hb7 (by first | omega | (simp; done) | (simp; omega)) | refine Below.then ?_ hb6 (by first | omega | (simp; done) | (simp; omega)) | refine Below.then ?_ hb5 (by first | omega | (simp; done) | (simp; omega)) | refine Below.then ?_ hb4 (by first | omega | (simp; done) | (simp; omega)) | refine Below.then ?_ hb3 (by first | omega | (simp; done) | (simp; omega)) | refine Below.then ?_ hb2 (by first | omega | (simp; done) | (simp; omega)) | refine Below.then ?_ hb1 (by first | omega | (simp; done) | (simp; omega))))) (by first | omega | (simp; done) | (simp; omega))
          go_wp2
          simp only [Exit.jump]
          go_ret2
          exact ⟨rfl, by (repeat (first | exact Below.refl _ _ | (with_reducible assumption) | refine Below.drew ?_ | refine Below.drewN' ?_ _ | refine Below.alloc ?_ (by first | omega | (simp; done) | (simp; omega)) _ | refine Below.setCell ?_ (by first | omega | (simp; done) | (simp; omega)) _ | refine Below.then ?_ hb9 (by first | omega | (simp; done) | (simp; omega)) | refine Below.then ?_ hb8 (by first | omega | (simp; done) | (simp; omega)) | refine Below.then ?_ hb7 (by first | omega | (simp; done) | (simp; omega)) | refine Below.then ?_ hb6 (by first | omega | (simp; done) | (simp; omega)) | refine Below.then ?_ hb5 (by first | omega | (simp; done) | (simp; omega)) | refine Below.then ?_ hb4 (by first | omega | (simp; done) | (simp; omega)) | refine Below.then ?_ hb3 (by first | omega | (simp; done) | (simp; omega)) | refine Below.then ?_ hb2 (by first | omega | (simp; done) | (simp; omega)) | refine Below.then ?_ hb1 (by first | omega | (simp; done) | (simp; omega))))⟩
        by_cases x1 : sp ≤ x
        · obtain ⟨e2, e3⟩ := at_out hg (.inr ⟨rfl, .inr x1⟩)
          rw [e2, e3]
          clear e2 e3 hp hg n0
          go_enter Tryd.func20, Tryd.ntmps20
          go_wp2_with fail
          refine wp_scope_once 0 rfl ?_
          go_wp2_with fail
          refine (HC.out _ (((HS.out.alloc _).alloc _).alloc _)).mono ?_; rintro e1 w1 ⟨rfl, hb1⟩; obtain ⟨hc1, hf1⟩ := bcell hb1; have hz1 := hb1.size; (try simp at hz1)
          have aq0 := hc1 w.heap.size 0 (by first | omega | (simp; done) | (simp; omega)); simp [go_sem] at aq0
          have aq1 := hc1 w.heap.size 1 (by first | omega | (simp; done) | (simp; omega)); simp [go_sem] at aq1
          have aq2 := hc1 w.heap.size 2 (by first | omega | (simp; done) | (simp; omega)); simp [go_sem] at aq2
          have af0 := hf1 w.heap.size 0 (by first | omega | (simp; done) | (simp; omega)); simp [go_sem] at af0
          have af1 := hf1 w.heap.size 1 (by first | omega | (simp; done) | (simp; omega)); simp [go_sem] at af1
          have af2 := hf1 w.heap.size 2 (by first | omega | (simp; done) | (simp; omega)); simp [go_sem] at af2
          have al : w.heap.size < w1.heap.size := by first | omega | (simp; done) | (simp; omega)
          have bq0 := hc1 (w.heap.size + 1) 0 (by first | omega | (simp; done) | (simp; omega)); simp [go_sem] at bq0
          have bq1 := hc1 (w.heap.size + 1) 1 (by first | omega | (simp; done) | (simp; omega)); simp [go_sem] at bq1
          have bq2 := hc1 (w.heap.size + 1) 2 (by first | omega | (simp; done) | (simp; omega)); simp [go_sem] at bq2
          have bf0 := hf1 (w.heap.size + 1) 0 (by first | omega | (simp; done) | (simp; omega)); simp [go_sem] at bf0
          have bf1 := hf1 (w.heap.size + 1) 1 (by first | omega | (simp; done) | (simp; omega)); simp [go_sem] at bf1
          have bf2 := hf1 (w.heap.size + 1) 2 (by first | omega | (simp; done) | (simp; omega)); simp [go_sem] at bf2
          have bl : (w.heap.size + 1) < w1.heap.size := by first | omega | (simp; done) | (simp; omega)
          have dq0 := hc1 (w.heap.size + 2) 0 (by first | omega | (simp; done) | (simp; omega)); simp [go_sem] at dq0
          have dq1 := hc1 (w.heap.size + 2) 1 (by first | omega | (simp; done) | (simp; omega)); simp [go_sem] at dq1
          have dq2 := hc1 (w.heap.size + 2) 2 (by first | omega | (simp; done) | (simp; omega)); simp [go_sem] at dq2
          have df0 := hf1 (w.heap.size + 2) 0 (by first | omega | (simp; done) | (simp; omega)); simp [go_sem] at df0
          have df1 := hf1 (w.heap.size + 2) 1 (by first | omega | (simp; done) | (simp; omega)); simp [go_sem] at df1
          have df2 := hf1 (w.heap.size + 2) 2 (by first | omega | (simp; done) | (simp; omega)); simp [go_sem] at df2
          have dl : (w.heap.size + 2) < w1.heap.size := by first | omega | (simp; done) | (simp; omega)
          go_wp2_with fail
          refine (HB.out _ ((((HS.out.alloc _).alloc _).alloc _).below hb1)).mono ?_; rintro e2 w2 ⟨rfl, hb2⟩; obtain ⟨hc2, hf2⟩ := bcell hb2; have hz2 := hb2.size; (try simp at hz2)
          replace aq0 := hold_cell (w2 := w2) aq0 (by (repeat (first | exact Below.refl _ _ | (with_reducible assumption) | refine Below.drew ?_ | refine Below.drewN' ?_ _ | refine Below.alloc ?_ (by first | omega | (simp; done) | (simp; omega)) _ | refine Below.setCell ?_ (by first | omega | (simp; done) | (simp; omega)) _ | refine Below.then ?_ hb9 (by first | omega | (simp; done) | (simp; omega)) | refine Below.then ?_ hb8 (by first | omega | (simp; done) | (simp; omega)) | refine Below.then ?_ hb7 (by first | omega | (simp; done) | (simp; omega)) | refine Below.then ?_ hb6 (by first | omega | (simp; done) | (simp; omega)) | refine Below.then ?_ hb5 (by first | omega | (simp; done) | (simp; omega)) | refine Below.then ?_ hb4 (by first | omega | (simp; done) | (simp; omega)) | refine Below.then ?_ hb3 (by first | omega | (simp; done) | (simp; omega)) | refine Below.then ?_ hb2 (by first | omega | (simp; done) | (simp; omega)) | refine Below.then ?_ hb1 (by first | omega | (simp; done) | (simp; omega))))) (by first | omega | (simp; done) | (simp; omega))
          replace aq1 := hold_cell (w2 := w2) aq1 (by (repeat (first | exact Below.refl _ _ | (with_reducible assumption) | refine Below.drew ?_ | refine Below.drewN' ?_ _ | refine Below.alloc ?_ (by first | omega | (simp; done) | (simp; omega)) _ | refine Below.setCell ?_ (by first | omega | (simp; done) | (simp; omega)) _ | refine Below.then ?_ hb9 (by first | omega | (simp; done) | (simp; omega)) | refine Below.then ?_ hb8 (by first | omega | (simp; done) | (simp; omega)) | refine Below.then ?_ hb7 (by first | omega | (simp; done) | (simp; omega)) | refine Below.then ?_ hb6 (by first | omega | (simp; done) | (simp; omega)) | refine Below.then ?_ hb5 (by first | omega | (simp; done) | (simp; omega)) | refine Below.then ?_ hb4 (by first | omega | (simp; done) | (simp; omega)) | refine Below.then ?_ hb3 (by first | omega | (simp; done) | (simp; omega)) | refine Below.then ?_ hb2 (by first | omega | (simp; done) | (simp; omega)) | refine Below.then ?_ hb1 (by first | omega | (simp; done) | (simp; omega))))) (by first | omega | (simp; done) | (simp; omega))
          replace aq2 := hold_cell (w2 := w2) aq2 (by (repeat (first | exact Below.refl _ _ | (with_reducible assumption) | refine Below.drew ?_ | refine Below.drewN' ?_ _ | refine Below.alloc ?_ (by first | omega | (simp; done) | (simp; omega)) _ | refine Below.setCell ?_ (by first | omega | (simp; done) | (simp; omega)) _ | refine Below.then ?_ hb9 (by first | omega | (simp; done) | (simp; omega)) | refine Below.then ?_ hb8 (by first | omega | (simp; done) | (simp; omega)) | refine Below.then ?_ hb7 (by first | omega | (simp; done) | (simp; omega)) | refine Below.then ?_ hb6 (by first | omega | (simp; done) | (simp; omega)) | refine Below.then ?_ hb5 (by first | omega | (simp; done) | (simp; omega)) | refine Below.then ?_ hb4 (by first | omega | (simp; done) | (simp; omega)) | refine Below.then ?_ hb3 (by first | omega | (simp; done) | (simp; omega)) | refine Below.then ?_ hb2 (by first | omega | (simp; done) | (simp; omega)) | refine Below.then ?_ hb1 (by first | omega | (simp; done) | (simp; omega))))) (by first | omega | (simp; done) | (simp; omega))
          replace bq0 := hold_cell (w2 := w2) bq0 (by (repeat (first | exact Below.refl _ _ | (with_reducible assumption) | refine Below.drew ?_ | refine Below.drewN' ?_ _ | refine Below.alloc ?_ (by first | omega | (simp; done) | (simp; omega)) _ | refine Below.setCell ?_ (by first | omega | (simp; done) | (simp; omega)) _ | refine Below.then ?_ hb9 (by first | omega | (simp; done) | (simp; omega)) | refine Below.then ?_ hb8 (by first | omega | (simp; done) | (simp; omega)) | refine Below.then ?_ hb7 (by first | omega | (simp; done) | (simp; omega)) | refine Below.then ?_ hb6 (by first | omega | (simp; done) | (simp; omega)) | refine Below.then ?_ hb5 (by first | omega | (simp; done) | (simp; omega)) | refine Below.then ?_ hb4 (by first | omega | (simp; done) | (simp; omega)) | refine Below.then ?_ hb3 (by first | omega | (simp; done) | (simp; omega)) | refine Below.then ?_ hb2 (by first | omega | (simp; done) | (simp; omega)) | refine Below.then ?_ hb1 (by first | omega | (simp; done) | (simp; omega))))) (by first | omega | (simp; done) | (simp; omega))
          replace bq1 := hold_cell (w2 := w2) bq1 (by (repeat (first | exact Below.refl _ _ | (with_reducible assumption) | refine Below.drew ?_ | refine Below.drewN' ?_ _ | refine Below.alloc ?_ (by first | omega | (simp; done) | (simp; omega)) _ | refine Below.setCell ?_ (by first | omega | (simp; done) | (simp; omega)) _ | refine Below.then ?_ hb9 (by first | omega | (simp; done) | (simp; omega)) | refine Below.then ?_ hb8 (by first | omega | (simp; done) | (simp; omega)) | refine Below.then ?_ hb7 (by first | omega | (simp; done) | (simp; omega)) | refine Below.then ?_ hb6 (by first | omega | (simp; done) | (simp; omega)) | refine Below.then ?_ hb5 (by first | omega | (simp; done) | (simp; omega)) | refine Below.then ?_ hb4 (by first | omega | (simp; done) | (simp; omega)) | refine Below.then ?_ hb3 (by first | omega | (simp; done) | (simp; omega)) | refine Below.then ?_ hb2 (by first | omega | (simp; done) | (simp; omega)) | refine Below.then ?_ hb1 (by first | omega | (simp; done) | (simp; omega))))) (by first | omega | (simp; done) | (simp; omega))
          replace bq2 := hold_cell (w2 := w2) bq2 (by (repeat (first | exact Below.refl _ _ | (with_reducible assumption) | refine Below.drew ?_ | refine Below.drewN' ?_ _ | refine Below.alloc ?_ (by first | omega | (simp; done) | (simp; omega)) _ | refine Below.setCell ?_ (by first | omega | (simp; done) | (simp; omega)) _ | refine Below.then ?_ hb9 (by first | omega | (simp; done) | (simp; omega)) | refine Below.then ?_ hb8 (by first | omega | (simp; done) | (simp; omega)) | refine Below.then ?_ hb7 (by first | omega | (simp; done) | (simp; omega)) | refine Below.then ?_ hb6 (by first | omega | (simp; done) | (simp; omega)) | refine Below.then ?_ hb5 (by first | omega | (simp; done) | (simp; omega)) | refine Below.then ?_ hb4 (by first | omega | (simp; done) | (simp; omega)) | refine Below.then ?_ hb3 (by first | omega | (simp; done) | (simp; omega)) | refine Below.then ?_ hb2 (by first | omega | (simp; done) | (simp; omega)) | refine Below.then ?_ hb1 (by first | omega | (simp; done) | (simp; omega))))) (by first | omega | (simp; done) | (simp; omega))
          go_wp2
          simp only [Exit.jump]
          go_ret2
          exact ⟨rfl, by (repeat (first | exact Below.refl _ _ | (with_reducible assumption) | refine Below.drew ?_ | refine Below.drewN' ?_ _ | refine Below.alloc ?_ (by first | omega | (simp; done) | (simp; omega)) _ | refine Below.setCell ?_ (by first | omega | (simp; done) | (simp; omega)) _ | refine Below.then ?_ hb9 (by first | omega | (simp; done) | (simp; omega)) | refine Below.then ?_ hb8 (by first | omega | (simp; done) | (simp; omega)) | refine Below.then ?_ hb7 (by first | omega | (simp; done) | (simp; omega)) | refine Below.then ?_ hb6 (by first | omega | (simp; done) | (simp; omega)) | refine Below.then ?_ hb5 (by first | omega | (simp; done) | (simp; omega)) | refine Below.then ?_ hb4 (by first | omega | (simp; done) | (simp; omega)) | refine Below.then ?_ hb3 (by first | omega | (simp; done) | (simp; omega)) | refine Below.then ?_ hb2 (by first | omega | (simp; done) | (simp; omega)) | refine Below.then ?_ hb1 (by first | omega | (simp; done) | (simp; omega))))⟩
        obtain ⟨e2, e3⟩ := at_in hg (by rw [if_pos rfl]; omega)
        rw [if_neg (by decide), if_neg (by decide), if_neg (by decide)] at e3
        rw [e2, e3]
        clear e2 e3 hp hg
        rcases (show n = 0 ∨ n = 1 by omega) with rfl | rfl
        · clear n0
          go_enter Tryd.func20, Tryd.ntmps20
          go_wp2_with fail
          refine wp_scope_once 0 rfl ?_
          go_wp2_with fail
          refine (HC.out _ (((HS.out.alloc _).alloc _).alloc _)).mono ?_; rintro e1 w1 ⟨rfl, hb1⟩; obtain ⟨hc1, hf1⟩ := bcell hb1; have hz1 := hb1.size; (try simp at hz1)
          have aq0 := hc1 w.heap.size 0 (by first | omega | (simp; done) | (simp; omega)); simp [go_sem] at aq0
          have aq1 := hc1 w.heap.size 1 (by first | omega | (simp; done) | (simp; omega)); simp [go_sem] at aq1
          have aq2 := hc1 w.heap.size 2 (by first | omega | (simp; done) | (simp; omega)); simp [go_sem] at aq2
          have af0 := hf1 w.heap.size 0 (by first | omega | (simp; done) | (simp; omega)); simp [go_sem] at af0
          have af1 := hf1 w.heap.size 1 (by first | omega | (simp; done) | (simp; omega)); simp [go_sem] at af1
          have af2 := hf1 w.heap.size 2 (by first | omega | (simp; done) | (simp; omega)); simp [go_sem] at af2
          have al : w.heap.size < w1.heap.size := by first | omega | (simp; done) | (simp; omega)
          have bq0 := hc1 (w.heap.size + 1) 0 (by first | omega | (simp; done) | (simp; omega)); simp [go_sem] at bq0
          have bq1 := hc1 (w.heap.size + 1) 1 (by first | omega | (simp; done) | (simp; omega)); simp [go_sem] at bq1
          have bq2 := hc1 (w.heap.size + 1) 2 (by first | omega | (simp; done) | (simp; omega)); simp [go_sem] at bq2
          have bf0 := hf1 (w.heap.size + 1) 0 (by first | omega | (simp; done) | (simp; omega)); simp [go_sem] at bf0
          have bf1 := hf1 (w.heap.size + 1) 1 (by first | omega | (simp; done) | (simp; omega)); simp [go_sem] at bf1
          have bf2 := hf1 (w.heap.size + 1) 2 (by first | omega | (simp; done) | (simp; omega)); simp [go_sem] at bf2
          have bl : (w.heap.size + 1) < w1.heap.size := by first | omega | (simp; done) | (simp; omega)
          have dq0 := hc1 (w.heap.size + 2) 0 (by first | omega | (simp; done) | (simp; omega)); simp [go_sem] at dq0
          have dq1 := hc1 (w.heap.size + 2) 1 (by first | omega | (simp; done) | (simp; omega)); simp [go_sem] at dq1
          have dq2 := hc1 (w.heap.size + 2) 2 (by first | omega | (simp; done) | (simp; omega)); simp [go_sem] at dq2
          have df0 := hf1 (w.heap.size + 2) 0 (by first | omega | (simp; done) | (simp; omega)); simp [go_sem] at df0
          have df1 := hf1 (w.heap.size + 2) 1 (by first | omega | (simp; done) | (simp; omega)); simp [go_sem] at df1
          have df2 := hf1 (w.heap.size + 2) 2 (by first | omega | (simp; done) | (simp; omega)); simp [go_sem] at df2
          have dl : (w.heap.size + 2) < w1.heap.size := by first | omega | (simp; done) | (simp; omega)
          go_wp2_with fail
          refine (HB.out _ ((((HS.out.alloc _).alloc _).alloc _).below hb1)).mono ?_; rintro e2 w2 ⟨rfl, hb2⟩; obtain ⟨hc2, hf2⟩ := bcell hb2; have hz2 := hb2.size; (try simp at hz2)
          replace aq0 := hold_cell (w2 := w2) aq0 (by (repeat (first | exact Below.refl _ _ | (with_reducible assumption) | refine Below.drew ?_ | refine Below.drewN' ?_ _ | refine Below.alloc ?_ (by first | omega | (simp; done) | (simp; omega)) _ | refine Below.setCell ?_ (by first | omega | (simp; done) | (simp; omega)) _ | refine Below.then ?_ hb9 (by first | omega | (simp; done) | (simp; omega)) | refine Below.then ?_ hb8 (by first | omega | (simp; done) | (simp; omega)) | refine Below.then ?_ hb7 (by first | omega | (simp; done) | (simp; omega)) | refine Below.then ?_ hb6 (by first | omega | (simp; done) | (simp; omega)) | refine Below.then ?_ hb5 (by first | omega | (simp; done) | (simp; omega)) | refine Below.then ?_ hb4 (by first | omega | (simp; done) | (simp; omega)) | refine Below.then ?_ hb3 (by first | omega | (simp; done) | (simp; omega)) | refine Below.then ?_ hb2 (by first | omega | (simp; done) | (simp; omega)) | refine Below.then ?_ hb1 (by first | omega | (simp; done) | (simp; omega))))) (by first | omega | (simp; done) | (simp; omega))
          replace aq1 := hold_cell (w2 := w2) aq1 (by (repeat (first | exact Below.refl _ _ | (with_reducible assumption) | refine Below.drew ?_ | refine Below.drewN' ?_ _ | refine Below.alloc ?_ (by first | omega | (simp; done) | (simp; omega)) _ | refine Below.setCell ?_ (by first | omega | (simp; done) | (simp; omega)) _ | refine Below.then ?_ hb9 (by first | omega | (simp; done) | (simp; omega)) | refine Below.then ?_ hb8 (by first | omega | (simp; done) | (simp; omega)) | refine Below.then ?_ hb7 (by first | omega | (simp; done) | (simp; omega)) | refine Below.then ?_ hb6 (by first | omega | (simp; done) | (simp; omega)) | refine Below.then ?_ hb5 (by first | omega | (simp; done) | (simp; omega)) | refine Below.then ?_ hb4 (by first | omega | (simp; done) | (simp; omega)) | refine Below.then ?_ hb3 (by first | omega | (simp; done) | (simp; omega)) | refine Below.then ?_ hb2 (by first | omega | (simp; done) | (simp; omega)) | refine Below.then ?_ hb1 (by first | omega | (simp; done) | (simp; omega))))) (by first | omega | (simp; done) | (simp; omega))
          replace aq2 := hold_cell (w2 := w2) aq2 (by (repeat (first | exact Below.refl _ _ | (with_reducible assumption) | refine Below.drew ?_ | refine Below.drewN' ?_ _ | refine Below.alloc ?_ (by first | omega | (simp; done) | (simp; omega)) _ | refine Below.setCell ?_ (by first | omega | (simp; done) | (simp; omega)) _ | refine Below.then ?_ hb9 (by first | omega | (simp; done) | (simp; omega)) | refine Below.then ?_ hb8 (by first | omega | (simp; done) | (simp; omega)) | refine Below.then ?_ hb7 (by first | omega | (simp; done) | (simp; omega)) | refine Below.then ?_ hb6 (by first | omega | (simp; done) | (simp; omega)) | refine Below.then ?_ hb5 (by first | omega | (simp; done) | (simp; omega)) | refine Below.then ?_ hb4 (by first | omega | (simp; done) | (simp; omega)) | refine Below.then ?_ hb3 (by first | omega | (simp; done) | (simp; omega)) | refine Below.then ?_ hb2 (by first | omega | (simp; done) | (simp; omega)) | refine Below.then ?_ hb1 (by first | omega | (simp; done) | (simp; omega))))) (by first | omega | (simp; done) | (simp; omega))
          replace bq0 := hold_cell (w2 := w2) bq0 (by (repeat (first | exact Below.refl _ _ | (with_reducible assumption) | refine Below.drew ?_ | refine Below.drewN' ?_ _ | refine Below.alloc ?_ (by first | omega | (simp; done) | (simp; omega)) _ | refine Below.setCell ?_ (by first | omega | (simp; done) | (simp; omega)) _ | refine Below.then ?_ hb9 (by first | omega | (simp; done) | (simp; omega)) | refine Below.then ?_ hb8 (by first | omega | (simp; done) | (simp; omega)) | refine Below.then ?_ hb7 (by first | omega | (simp; done) | (simp; omega)) | refine Below.then ?_ hb6 (by first | omega | (simp; done) | (simp; omega)) | refine Below.then ?_ hb5 (by first | omega | (simp; done) | (simp; omega)) | refine Below.then ?_ hb4 (by first | omega | (simp; done) | (simp; omega)) | refine Below.then ?_ hb3 (by first | omega | (simp; done) | (simp; omega)) | refine Below.then ?_ hb2 (by first | omega | (simp; done) | (simp; omega)) | refine Below.then ?_ hb1 (by first | omega | (simp; done) | (simp; omega))))) (by first | omega | (simp; done) | (simp; omega))
          replace bq1 := hold_cell (w2 := w2) bq1 (by (repeat (first | exact Below.refl _ _ | (with_reducible assumption) | refine Below.drew ?_ | refine Below.drewN' ?_ _ | refine Below.alloc ?_ (by first | omega | (simp; done) | (simp; omega)) _ | refine Below.setCell ?_ (by first | omega | (simp; done) | (simp; omega)) _ | refine Below.then ?_ hb9 (by first | omega | (simp; done) | (simp; omega)) | refine Below.then ?_ hb8 (by first | omega | (simp; done) | (simp; omega)) | refine Below.then ?_ hb7 (by first | omega | (simp; done) | (simp; omega)) | refine Below.then ?_ hb6 (by first | omega | (simp; done) | (simp; omega)) | refine Below.then ?_ hb5 (by first | omega | (simp; done) | (simp; omega)) | refine Below.then ?_ hb4 (by first | omega | (simp; done) | (simp; omega)) | refine Below.then ?_ hb3 (by first | omega | (simp; done) | (simp; omega)) | refine Below.then ?_ hb2 (by first | omega | (simp; done) | (simp; omega)) | refine Below.then ?_ hb1 (by first | omega | (simp; done) | (simp; omega))))) (by first | omega | (simp; done) | (simp; omega))
          replace bq2 := hold_cell (w2 := w2) bq2 (by (repeat (first | exact Below.refl _ _ | (with_reducible assumption) | refine Below.drew ?_ | refine Below.drewN' ?_ _ | refine Below.alloc ?_ (by first | omega | (simp; done) | (simp; omega)) _ | refine Below.setCell ?_ (by first | omega | (simp; done) | (simp; omega)) _ | refine Below.then ?_ hb9 (by first | omega | (simp; done) | (simp; omega)) | refine Below.then ?_ hb8 (by first | omega | (simp; done) | (simp; omega)) | refine Below.then ?_ hb7 (by first | omega | (simp; done) | (simp; omega)) | refine Below.then ?_ hb6 (by first | omega | (simp; done) | (simp; omega)) | refine Below.then ?_ hb5 (by first | omega | (simp; done) | (simp; omega)) | refine Below.then ?_ hb4 (by first | omega | (simp; done) | (simp; omega)) | refine Below.then ?_ hb3 (by first | omega | (simp; done) | (simp; omega)) | refine Below.then ?_ hb2 (by first | omega | (simp; done) | (simp; omega)) | refine Below.then ?_ hb1 (by first | omega | (simp; done) | (simp; omega))))) (by first | omega | (simp; done) | (simp; omega))
          go_wp2
          simp only [Exit.jump]
          go_ret2
          exact ⟨by simp, by (repeat (first | exact Below.refl _ _ | (with_reducible assumption) | refine Below.drew ?_ | refine Below.drewN' ?_ _ | refine Below.alloc ?_ (by first | omega | (simp; done) | (simp; omega)) _ | refine Below.setCell ?_ (by first | omega | (simp; done) | (simp; omega)) _ | refine Below.then ?_ hb9 (by first | omega | (simp; done) | (simp; omega)) | refine Below.then ?_ hb8 (by first | omega | (simp; done) | (simp; omega)) | refine Below.then ?_ hb7 (by first | omega | (simp; done) | (simp; omega)) | refine Below.then ?_ hb6 (by first | omega | (simp; done) | (simp; omega)) | refine Below.then ?_ hb5 (by first | omega | (simp; done) | (simp; omega)) | refine Below.then ?_ hb4 (by first | omega | (simp; done) | (simp; omega)) | refine Below.then ?_ hb3 (by first | omega | (simp; done) | (simp; omega)) | refine Below.then ?_ hb2 (by first | omega | (simp; done) | (simp; omega)) | refine Below.then ?_ hb1 (by first | omega | (simp; done) | (simp; omega))))⟩
        · clear n0
          go_enter Tryd.func20, Tryd.ntmps20
          go_wp2_with fail
          refine wp_scope_once 0 rfl ?_
          go_wp2_with fail
          refine (HC.out _ (((HS.out.alloc _).alloc _).alloc _)).mono ?_; rintro e1 w1 ⟨rfl, hb1⟩; obtain ⟨hc1, hf1⟩ := bcell hb1; have hz1 := hb1.size; (try simp at hz1)
          have aq0 := hc1 w.heap.size 0 (by first | omega | (simp; done) | (simp; omega)); simp [go_sem] at aq0
          have aq1 := hc1 w.heap.size 1 (by first | omega | (simp; done) | (simp; omega)); simp [go_sem] at aq1
          have aq2 := hc1 w.heap.size 2 (by first | omega | (simp; done) | (simp; omega)); simp [go_sem] at aq2
          have af0 := hf1 w.heap.size 0 (by first | omega | (simp; done) | (simp; omega)); simp [go_sem] at af0
          have af1 := hf1 w.heap.size 1 (by first | omega | (simp; done) | (simp; omega)); simp [go_sem] at af1
          have af2 := hf1 w.heap.size 2 (by first | omega | (simp; done) | (simp; omega)); simp [go_sem] at af2
          have al : w.heap.size < w1.heap.size := by first | omega | (simp; done) | (simp; omega)
          have bq0 := hc1 (w.heap.size + 1) 0 (by first | omega | (simp; done) | (simp; omega)); simp [go_sem] at bq0
          have bq1 := hc1 (w.heap.size + 1) 1 (by first | omega | (simp; done) | (simp; omega)); simp [go_sem] at bq1
          have bq2 := hc1 (w.heap.size + 1) 2 (by first | omega | (simp; done) | (simp; omega)); simp [go_sem] at bq2
          have bf0 := hf1 (w.heap.size + 1) 0 (by first | omega | (simp; done) | (simp; omega)); simp [go_sem] at bf0
          have bf1 := hf1 (w.heap.size + 1) 1 (by first | omega | (simp; done) | (simp; omega)); simp [go_sem] at bf1
          have bf2 := hf1 (w.heap.size + 1) 2 (by first | omega | (simp; done) | (simp; omega)); simp [go_sem] at bf2
          have bl : (w.heap.size + 1) < w1.heap.size := by first | omega | (simp; done) | (simp; omega)
          have dq0 := hc1 (w.heap.size + 2) 0 (by first | omega | (simp; done) | (simp; omega)); simp [go_sem] at dq0
          have dq1 := hc1 (w.heap.size + 2) 1 (by first | omega | (simp; done) | (simp; omega)); simp [go_sem] at dq1
          have dq2 := hc1 (w.heap.size + 2) 2 (by first | omega | (simp; done) | (simp; omega)); simp [go_sem] at dq2
          have df0 := hf1 (w.heap.size + 2) 0 (by first | omega | (simp; done) | (simp; omega)); simp [go_sem] at df0
          have df1 := hf1 (w.heap.size + 2) 1 (by first | omega | (simp; done) | (simp; omega)); simp [go_sem] at df1
          have df2 := hf1 (w.heap.size + 2) 2 (by first | omega | (simp; done) | (simp; omega)); simp [go_sem] at df2
          have dl : (w.heap.size + 2) < w1.heap.size := by first | omega | (simp; done) | (simp; omega)
          go_wp2_with fail
          refine (HB.out _ ((((HS.out.alloc _).alloc _).alloc _).below hb1)).mono ?_; rintro e2 w2 ⟨rfl, hb2⟩; obtain ⟨hc2, hf2⟩ := bcell hb2; have hz2 := hb2.size; (try simp at hz2)
          replace aq0 := hold_cell (w2 := w2) aq0 (by (repeat (first | exact Below.refl _ _ | (with_reducible assumption) | refine Below.drew ?_ | refine Below.drewN' ?_ _ | refine Below.alloc ?_ (by first | omega | (simp; done) | (simp; omega)) _ | refine Below.setCell ?_ (by first | omega | (simp; done) | (simp; omega)) _ | refine Below.then ?_ hb9 (by first | omega | (simp; done) | (simp; omega)) | refine Below.then ?_ hb8 (by first | omega | (simp; done) | (simp; omega)) | refine Below.then ?_ hb7 (by first | omega | (simp; done) | (simp; omega)) | refine Below.then ?_ hb6 (by first | omega | (simp; done) | (simp; omega)) | refine Below.then ?_ hb5 (by first | omega | (simp; done) | (simp; omega)) | refine Below.then ?_ hb4 (by first | omega | (simp; done) | (simp; omega)) | refine Below.then ?_ hb3 (by first | omega | (simp; done) | (simp; omega)) | refine Below.then ?_ hb2 (by first | omega | (simp; done) | (simp; omega)) | refine Below.then ?_ hb1 (by first | omega | (simp; done) | (simp; omega))))) (by first | omega | (simp; done) | (simp; omega))
          replace aq1 := hold_cell (w2 := w2) aq1 (by (repeat (first | exact Below.refl _ _ | (with_reducible assumption) | refine Below.drew ?_ | refine Below.drewN' ?_ _ | refine Below.alloc ?_ (by first | omega | (simp; done) | (simp; omega)) _ | refine Below.setCell ?_ (by first | omega | (simp; done) | (simp; omega)) _ | refine Below.then ?_ hb9 (by first | omega | (simp; done) | (simp; omega)) | refine Below.then ?_ hb8 (by first | omega | (simp; done) | (simp; omega)) | refine Below.then ?_ hb7 (by first | omega | (simp; done) | (simp; omega)) | refine Below.then ?_ hb6 (by first | omega | (simp; done) | (simp; omega)) | refine Below.then ?_ hb5 (by first | omega | (simp; done) | (simp; omega)) | refine Below.then ?_ hb4 (by first | omega | (simp; done) | (simp; omega)) | refine Below.then ?_ hb3 (by first | omega | (simp; done) | (simp; omega)) | refine Below.then ?_ hb2 (by first | omega | (simp; done) | (simp; omega)) | refine Below.then ?_ hb1 (by first | omega | (simp; done) | (simp; omega))))) (by first | omega | (simp; done) | (simp; omega))
          replace aq2 := hold_cell (w2 := w2) aq2 (by (repeat (first | exact Below.refl _ _ | (with_reducible assumption) | refine Below.drew ?_ | refine Below.drewN' ?_ _ | refine Below.alloc ?_ (by first | omega | (simp; done) | (simp; omega)) _ | refine Below.setCell ?_ (by first | omega | (simp; done) | (simp; omega)) _ | refine Below.then ?_ hb9 (by first | omega | (simp; done) | (simp; omega)) | refine Below.then ?_ hb8 (by first | omega | (simp; done) | (simp; omega)) | refine Below.then ?_ hb7 (by first | omega | (simp; done) | (simp; omega)) | refine Below.then ?_ hb6 (by first | omega | (simp; done) | (simp; omega)) | refine Below.then ?_ hb5 (by first | omega | (simp; done) | (simp; omega)) | refine Below.then ?_ hb4 (by first | omega | (simp; done) | (simp; omega)) | refine Below.then ?_ hb3 (by first | omega | (simp; done) | (simp; omega)) | refine Below.then ?_ hb2 (by first | omega | (simp; done) | (simp; omega)) | refine Below.then ?_ hb1 (by first | omega | (simp; done) | (simp; omega))))) (by first | omega | (simp; done) | (simp; omega))
          replace bq0 := hold_cell (w2 := w2) bq0 (by (repeat (first | exact Below.refl _ _ | (with_reducible assumption) | refine Below.drew ?_ | refine Below.drewN' ?_ _ | refine Below.alloc ?_ (by first | omega | (simp; done) | (simp; omega)) _ | refine Below.setCell ?_ (by first | omega | (simp; done) | (simp; omega)) _ | refine Below.then ?_ hb9 (by first | omega | (simp; done) | (simp; omega)) | refine Below.then ?_ hb8 (by first | omega | (simp; done) | (simp; omega)) | refine Below.then ?_ hb7 (by first | omega | (simp; done) | (simp; omega)) | refine Below.then ?_ hb6 (by first | omega | (simp; done) | (simp; omega)) | refine Below.then ?_ hb5 (by first | omega | (simp; done) | (simp; omega)) | refine Below.then ?_ hb4 (by first | omega | (simp; done) | (simp; omega)) | refine Below.then ?_ hb3 (by first | omega | (simp; done) | (simp; omega)) | refine Below.then ?_ hb2 (by first | omega | (simp; done) | (simp; omega)) | refine Below.then ?_ hb1 (by first | omega | (simp; done) | (simp; omega))))) (by first | omega | (simp; done) | (simp; omega))
          replace bq1 := hold_cell (w2 := w2) bq1 (by (repeat (first | exact Below.refl _ _ | (with_reducible assumption) | refine Below.drew ?_ | refine Below.drewN' ?_ _ | refine Below.alloc ?_ (by first | omega | (simp; done) | (simp; omega)) _ | refine Below.setCell ?_ (by first | omega | (simp; done) | (simp; omega)) _ | refine Below.then ?_ hb9 (by first | omega | (simp; done) | (simp; omega)) | refine Below.then ?_ hb8 (by first | omega | (simp; done) | (simp; omega)) | refine Below.then ?_ hb7 (by first | omega | (simp; done) | (simp; omega)) | refine Below.then ?_ hb6 (by first | omega | (simp; done) | (simp; omega)) | refine Below.then ?_ hb5 (by first | omega | (simp; done) | (simp; omega)) | refine Below.then ?_ hb4 (by first | omega | (simp; done) | (simp; omega)) | refine Below.then ?_ hb3 (by first | omega | (simp; done) | (simp; omega)) | refine Below.then ?_ hb2 (by first | omega | (simp; done) | (simp; omega)) | refine Below.then ?_ hb1 (by first | omega | (simp; done) | (simp; omega))))) (by first | omega | (simp; done) | (simp; omega))
          replace bq2 := hold_cell (w2 := w2) bq2 (by (repeat (first | exact Below.refl _ _ | (with_reducible assumption) | refine Below.drew ?_ | refine Below.drewN' ?_ _ | refine Below.alloc ?_ (by first | omega | (simp; done) | (simp; omega)) _ | refine Below.setCell ?_ (by first | omega | (simp; done) | (simp; omega)) _ | refine Below.then ?_ hb9 (by first | omega | (simp; done) | (simp; omega)) | refine Below.then ?_ hb8 (by first | omega | (simp; done) | (simp; omega)) | refine Below.then ?_ hb7 (by first | omega | (simp; done) | (simp; omega)) | refine Below.then ?_ hb6 (by first | omega | (simp; done) | (simp; omega)) | refine Below.then ?_ hb5 (by first | omega | (simp; done) | (simp; omega)) | refine Below.then ?_ hb4 (by first | omega | (simp; done) | (simp; omega)) | refine Below.then ?_ hb3 (by first | omega | (simp; done) | (simp; omega)) | refine Below.then ?_ hb2 (by first | omega | (simp; done) | (simp; omega)) | refine Below.then ?_ hb1 (by first | omega | (simp; done) | (simp; omega))))) (by first | omega | (simp; done) | (simp; omega))
          go_wp2
          simp only [Exit.jump]
          go_ret2
          exact ⟨by simp, by (repeat (first | exact Below.refl _ _ | (with_reducible assumption) | refine Below.drew ?_ | refine Below.drewN' ?_ _ | refine Below.alloc ?_ (by first | omega | (simp; done) | (simp; omega)) _ | refine Below.setCell ?_ (by first | omega | (simp; done) | (simp; omega)) _ | refine Below.then ?_ hb9 (by first | omega | (simp; done) | (simp; omega)) | refine Below.then ?_ hb8 (by first | omega | (simp; done) | (simp; omega)) | refine Below.then ?_ hb7 (by first | omega | (simp; done) | (simp; omega)) | refine Below.then ?_ hb6 (by first | omega | (simp; done) | (simp; omega)) | refine Below.then ?_ hb5 (by first | omega | (simp; done) | (simp; omega)) | refine Below.then ?_ hb4 (by first | omega | (simp; done) | (simp; omega)) | refine Below.then ?_ hb3 (by first | omega | (simp; done) | (simp; omega)) | refine Below.then ?_ hb2 (by first | omega | (simp; done) | (simp; omega)) | refine Below.then ?_ hb1 (by first | omega | (simp; done) | (simp; omega))))⟩
    by_cases k4 : k = 4
    · subst k4
      clear k0 k7 k6
      by_cases x0 : x = 0
      · subst x0
        have hg : planB t sp ss = true ∧ 1 ≤ (4 : Int) ∧ (4 : Int) ≤ 6 ∧ ((4 : Int) < 4 → n = 0) ∧ ((4 : Int) < 6 → (0 : Int) = 0) := ⟨hp, by decide, by decide, fun h => by omega, fun h => rfl⟩
        have hbs := fun w h => layAck_calls t sp a c ss n hn w h
        have he : atE t sp ss 4 n 0 = placeE t sp ss n t ∧ atV t sp ss 4 n 0 = placeV t sp ss n t (3 + n) := by
          by_cases n0 : n < 0 ∨ t ≤ n
          · obtain ⟨e2, e3⟩ := at_out hg (.inl ⟨by decide, by rw [if_neg (by decide)]; exact n0⟩)
            have e4 : placeE t sp ss n t = 4 := by unfold placeE; rw [if_pos hp, if_pos n0]
            exact ⟨by rw [e2, e4], by rw [e3]; unfold placeV; rw [if_neg (by rw [e4]; decide)]⟩
          · obtain ⟨e2, e3⟩ := at_in hg (by rw [if_neg (by decide)]; omega)
            have e4 : placeE t sp ss n t = 0 := by unfold placeE; rw [if_pos hp, if_neg n0]
            exact ⟨by rw [e2, e4], by rw [e3]; unfold placeV; rw [if_pos e4]; rfl⟩
        rw [he.1, he.2]
        have HB := Lib.hid hbs
        clear he hg hbs hp
        go_enter Tryd.func20, Tryd.ntmps20
        go_wp2_with fail
        refine wp_scope_once 0 rfl ?_
        go_wp2_with fail
        refine (HC.out _ (((HS.out.alloc _).alloc _).alloc _)).mono ?_; rintro e1 w1 ⟨rfl, hb1⟩; obtain ⟨hc1, hf1⟩ := bcell hb1; have hz1 := hb1.size; (try simp at hz1)
        have aq0 := hc1 w.heap.size 0 (by first | omega | (simp; done) | (simp; omega)); simp [go_sem] at aq0
        have aq1 := hc1 w.heap.size 1 (by first | omega | (simp; done) | (simp; omega)); simp [go_sem] at aq1
        have aq2 := hc1 w.heap.size 2 (by first | omega | (simp; done) | (simp; omega)); simp [go_sem] at aq2
        have af0 := hf1 w.heap.size 0 (by first | omega | (simp; done) | (simp; omega)); simp [go_sem] at af0
        have af1 := hf1 w.heap.size 1 (by first | omega | (simp; done) | (simp; omega)); simp [go_sem] at af1
        have af2 := hf1 w.heap.size 2 (by first | omega | (simp; done) | (simp; omega)); simp [go_sem] at af2
        have al : w.heap.size < w1.heap.size := by first | omega | (simp; done) | (simp; omega)
        have bq0 := hc1 (w.heap.size + 1) 0 (by first | omega | (simp; done) | (simp; omega)); simp [go_sem] at bq0
        have bq1 := hc1 (w.heap.size + 1) 1 (by first | omega | (simp; done) | (simp; omega)); simp [go_sem] at bq1
        have bq2 := hc1 (w.heap.size + 1) 2 (by first | omega | (simp; done) | (simp; omega)); simp [go_sem] at bq2
        have bf0 := hf1 (w.heap.size + 1) 0 (by first | omega | (simp; done) | (simp; omega)); simp [go_sem] at bf0
        have bf1 := hf1 (w.heap.size + 1) 1 (by first | omega | (simp; done) | (simp; omega)); simp [go_sem] at bf1
        have bf2 := hf1 (w.heap.size + 1) 2 (by first | omega | (simp; done) | (simp; omega)); simp [go_sem] at bf2
        have bl : (w.heap.size + 1) < w1.heap.size := by first | omega | (simp; done) | (simp; omega)
        have dq0 := hc1 (w.heap.size + 2) 0 (by first | omega | (simp; done) | (simp; omega)); simp [go_sem] at dq0
        have dq1 := hc1 (w.heap.size + 2) 1 (by first | omega | (simp; done) | (simp; omega)); simp [go_sem] at dq1
        have dq2 := hc1 (w.heap.size + 2) 2 (by first | omega | (simp; done) | (simp; omega)); simp [go_sem] at dq2
        have df0 := hf1 (w.heap.size + 2) 0 (by first | omega | (simp; done) | (simp; omega)); simp [go_sem] at df0
        have df1 := hf1 (w.heap.size + 2) 1 (by first | omega | (simp; done) | (simp; omega)); simp [go_sem] at df1
        have df2 := hf1 (w.heap.size + 2) 2 (by first | omega | (simp; done) | (simp; omega)); simp [go_sem] at df2
        have dl : (w.heap.size + 2) < w1.heap.size := by first | omega | (simp; done) | (simp; omega)
        go_wp2_with fail
        have hB : Below w.heap.size w (w1.setCell ⟨w.heap.size + 1 + 1, 2, none⟩ (.int .i64 0)) := by (repeat (first | exact Below.refl _ _ | (with_reducible assumption) | refine Below.drew ?_ | refine Below.drewN' ?_ _ | refine Below.alloc ?_ (by first | omega | (simp; done) | (simp; omega)) _ | refine Below.setCell ?_ (by first | omega | (simp; done) | (simp; omega)) _ | refine Below.then ?_ hb9 (by first | omega | (simp; done) | (simp; omega)) | refine Below.then ?_ hb8 (by first | omega | (simp; done) | (simp; omega)) | refine Below.then ?_ hb7 (by first | omega | (simp; done) | (simp; omega)) | refine Below.then ?_ hb6 (by first | omega | (simp; done) | (simp; omega)) | refine Below.then ?_ hb5 (by first | omega | (simp; done) | (simp; omega)) | refine Below.then ?_ hb4 (by first | omega | (simp; done) | (simp; omega)) | refine Below.then ?_ hb3 (by first | omega | (simp; done) | (simp; omega)) | refine Below.then ?_ hb2 (by first | omega | (simp; done) | (simp; omega)) | refine Below.then ?_ hb1 (by first | omega | (simp; done) | (simp; omega))))
        refine (HB.out _ (HS.out.below hB)).mono ?_; rintro e2 w2 ⟨rfl, hb2⟩; obtain ⟨hc2, hf2⟩ := bcell hb2; have hz2 := hb2.size; (try simp at hz2)
        go_wp2
        simp only [Exit.jump]
        go_ret2
        exact ⟨rfl, by (repeat (first | exact Below.refl _ _ | (with_reducible assumption) | refine Below.drew ?_ | refine Below.drewN' ?_ _ | refine Below.alloc ?_ (by first | omega | (simp; done) | (simp; omega)) _ | refine Below.setCell ?_ (by first | omega | (simp; done) | (simp; omega)) _ | refine Below.then ?_ hb9 (by first | omega | (simp; done) | (simp; omega)) | refine Below.then ?_ hb8 (by first | omega | (simp; done) | (simp; omega)) | refine Below.then ?_ hb7 (by first | omega | (simp; done) | (simp; omega)) | refine Below.then ?_ hb6 (by first | omega | (simp; done) | (simp; omega)) | refine Below.then ?_ hb5 (by first | omega | (simp; done) | (simp; omega)) | refine Below.then ?_ hb4 (by first | omega | (simp; done) | (simp; omega)) | refine Below.then ?_ hb3 (by first | omega | (simp; done) | (simp; omega)) | refine Below.then ?_ hb2 (by first | omega | (simp; done) | (simp; omega)) | refine Below.then ?_ hb1 (by first | omega | (simp; done) | (simp; omega))))⟩
      · obtain ⟨e2, e3⟩ := at_refused (t := t) (sp := sp) (ss := ss) (k := 4) (n := n) (x := x) (by omega)
        rw [e2, e3]
        have x1 : (0 == x) = false := by rw [beq_eq_false_iff_ne]; omega
        have x2 : (x == 0) = false := by rw [beq_eq_false_iff_ne]; omega
        clear e2 e3 hp
        go_enter Tryd.func20, Tryd.ntmps20
        go_wp2_with fail
        refine wp_scope_once 0 rfl ?_
        go_wp2_with fail
        refine (HC.out _ (((HS.out.alloc _).alloc _).alloc _)).mono ?_; rintro e1 w1 ⟨rfl, hb1⟩; obtain ⟨hc1, hf1⟩ := bcell hb1; have hz1 := hb1.size; (try simp at hz1)
        have aq0 := hc1 w.heap.size 0 (by first | omega | (simp; done) | (simp; omega)); simp [go_sem] at aq0
        have aq1 := hc1 w.heap.size 1 (by first | omega | (simp; done) | (simp; omega)); simp [go_sem] at aq1
        have aq2 := hc1 w.heap.size 2 (by first | omega | (simp; done) | (simp; omega)); simp [go_sem] at aq2
        have af0 := hf1 w.heap.size 0 (by first | omega | (simp; done) | (simp; omega)); simp [go_sem] at af0
        have af1 := hf1 w.heap.size 1 (by first | omega | (simp; done) | (simp; omega)); simp [go_sem] at af1
        have af2 := hf1 w.heap.size 2 (by first | omega | (simp; done) | (simp; omega)); simp [go_sem] at af2
        have al : w.heap.size < w1.heap.size := by first | omega | (simp; done) | (simp; omega)
        have bq0 := hc1 (w.heap.size + 1) 0 (by first | omega | (simp; done) | (simp; omega)); simp [go_sem] at bq0
        have bq1 := hc1 (w.heap.size + 1) 1 (by first | omega | (simp; done) | (simp; omega)); simp [go_sem] at bq1
        have bq2 := hc1 (w.heap.size + 1) 2 (by first | omega | (simp; done) | (simp; omega)); simp [go_sem] at bq2
        have bf0 := hf1 (w.heap.size + 1) 0 (by first | omega | (simp; done) | (simp; omega)); simp [go_sem] at bf0
        have bf1 := hf1 (w.heap.size + 1) 1 (by first | omega | (simp; done) | (simp; omega)); simp [go_sem] at bf1
        have bf2 := hf1 (w.heap.size + 1) 2 (by first | omega | (simp; done) | (simp; omega)); simp [go_sem] at bf2
        have bl : (w.heap.size + 1) < w1.heap.size := by first | omega | (simp; done) | (simp; omega)
        have dq0 := hc1 (w.heap.size + 2) 0 (by first | omega | (simp; done) | (simp; omega)); simp [go_sem] at dq0
        have dq1 := hc1 (w.heap.size + 2) 1 (by first | omega | (simp; done) | (simp; omega)); simp [go_sem] at dq1
        have dq2 := hc1 (w.heap.size + 2) 2 (by first | omega | (simp; done) | (simp; omega)); simp [go_sem] at dq2
        have df0 := hf1 (w.heap.size + 2) 0 (by first | omega | (simp; done) | (simp; omega)); simp [go_sem] at df0
        have df1 := hf1 (w.heap.size + 2) 1 (by first | omega | (simp; done) | (simp; omega)); simp [go_sem] at df1
        have df2 := hf1 (w.heap.size + 2) 2 (by first | omega | (simp; done) | (simp; omega)); simp [go_sem] at df2
        have dl : (w.heap.size + 2) < w1.heap.size := by first | omega | (simp; done) | (simp; omega)
        go_wp2
        go_step3
        refine ⟨rfl, ?_⟩
        go_wp2
        rw [Exit.noGoto_ret]
        go_ret2
        exact ⟨rfl, by (repeat (first | exact Below.refl _ _ | (with_reducible assumption) | refine Below.drew ?_ | refine Below.drewN' ?_ _ | refine Below.alloc ?_ (by first | omega | (simp; done) | (simp; omega)) _ | refine Below.setCell ?_ (by first | omega | (simp; done) | (simp; omega)) _ | refine Below.then ?_ hb9 (by first | omega | (simp; done) | (simp; omega)) | refine Below.then ?_ hb8 (by first | omega | (simp; done) | (simp; omega)) | refine Below.then ?_ hb7 (by first | omega | (simp; done) | (simp; omega)) | refine Below.then ?_ hb6 (by first | omega | (simp; done) | (simp; omega)) | refine Below.then ?_ hb5 (by first | omega | (simp; done) | (simp; omega)) | refine Below.then ?_ hb4 (by first | omega | (simp; done) | (simp; omega)) | refine Below.then ?_ hb3 (by first | omega | (simp; done) | (simp; omega)) | refine Below.then ?_ hb2 (by first | omega | (simp; done) | (simp; omega)) | refine Below.then ?_ hb1 (by first | omega | (simp; done) | (simp; omega))))⟩
    by_cases k5 : k = 5
    · subst k5
      clear k0 k7 k6 k4
      by_cases x0 : x = 0
      · subst x0
        have hg : planB t sp ss = true ∧ 1 ≤ (5 : Int) ∧ (5 : Int) ≤ 6 ∧ ((5 : Int) < 4 → n = 0) ∧ ((5 : Int) < 6 → (0 : Int) = 0) := ⟨hp, by decide, by decide, fun h => by omega, fun h => rfl⟩
        have hbs := fun w h => layList_calls t sp a c ss n hn w h
        have he : atE t sp ss 5 n 0 = placeE t sp ss n t ∧ atV t sp ss 5 n 0 = placeV t sp ss n t (3 + t + n) := by
          by_cases n0 : n < 0 ∨ t ≤ n
          · obtain ⟨e2, e3⟩ := at_out hg (.inl ⟨by decide, by rw [if_neg (by decide)]; exact n0⟩)
            have e4 : placeE t sp ss n t = 4 := by unfold placeE; rw [if_pos hp, if_pos n0]
            exact ⟨by rw [e2, e4], by rw [e3]; unfold placeV; rw [if_neg (by rw [e4]; decide)]⟩
          · obtain ⟨e2, e3⟩ := at_in hg (by rw [if_neg (by decide)]; omega)
            have e4 : placeE t sp ss n t = 0 := by unfold placeE; rw [if_pos hp, if_neg n0]
            exact ⟨by rw [e2, e4], by rw [e3]; unfold placeV; rw [if_pos e4]; rfl⟩
        rw [he.1, he.2]
        have HB := Lib.hid hbs
        clear he hg hbs hp
        go_enter Tryd.func20, Tryd.ntmps20
        go_wp2_with fail
        refine wp_scope_once 0 rfl ?_
        go_wp2_with fail
        refine (HC.out _ (((HS.out.alloc _).alloc _).alloc _)).mono ?_; rintro e1 w1 ⟨rfl, hb1⟩; obtain ⟨hc1, hf1⟩ := bcell hb1; have hz1 := hb1.size; (try simp at hz1)
        have aq0 := hc1 w.heap.size 0 (by first | omega | (simp; done) | (simp; omega)); simp [go_sem] at aq0
        have aq1 := hc1 w.heap.size 1 (by first | omega | (simp; done) | (simp; omega)); simp [go_sem] at aq1
        have aq2 := hc1 w.heap.size 2 (by first | omega | (simp; done) | (simp; omega)); simp [go_sem] at aq2
        have af0 := hf1 w.heap.size 0 (by first | omega | (simp; done) | (simp; omega)); simp [go_sem] at af0
        have af1 := hf1 w.heap.size 1 (by first | omega | (simp; done) | (simp; omega)); simp [go_sem] at af1
        have af2 := hf1 w.heap.size 2 (by first | omega | (simp; done) | (simp; omega)); simp [go_sem] at af2
        have al : w.heap.size < w1.heap.size := by first | omega | (simp; done) | (simp; omega)
        have bq0 := hc1 (w.heap.size + 1) 0 (by first | omega | (simp; done) | (simp; omega)); simp [go_sem] at bq0
        have bq1 := hc1 (w.heap.size + 1) 1 (by first | omega | (simp; done) | (simp; omega)); simp [go_sem] at bq1
        have bq2 := hc1 (w.heap.size + 1) 2 (by first | omega | (simp; done) | (simp; omega)); simp [go_sem] at bq2
        have bf0 := hf1 (w.heap.size + 1) 0 (by first | omega | (simp; done) | (simp; omega)); simp [go_sem] at bf0
        have bf1 := hf1 (w.heap.size + 1) 1 (by first | omega | (simp; done) | (simp; omega)); simp [go_sem] at bf1
        have bf2 := hf1 (w.heap.size + 1) 2 (by first | omega | (simp; done) | (simp; omega)); simp [go_sem] at bf2
        have bl : (w.heap.size + 1) < w1.heap.size := by first | omega | (simp; done) | (simp; omega)
        have dq0 := hc1 (w.heap.size + 2) 0 (by first | omega | (simp; done) | (simp; omega)); simp [go_sem] at dq0
        have dq1 := hc1 (w.heap.size + 2) 1 (by first | omega | (simp; done) | (simp; omega)); simp [go_sem] at dq1
        have dq2 := hc1 (w.heap.size + 2) 2 (by first | omega | (simp; done) | (simp; omega)); simp [go_sem] at dq2
        have df0 := hf1 (w.heap.size + 2) 0 (by first | omega | (simp; done) | (simp; omega)); simp [go_sem] at df0
        have df1 := hf1 (w.heap.size + 2) 1 (by first | omega | (simp; done) | (simp; omega)); simp [go_sem] at df1
        have df2 := hf1 (w.heap.size + 2) 2 (by first | omega | (simp; done) | (simp; omega)); simp [go_sem] at df2
        have dl : (w.heap.size + 2) < w1.heap.size := by first | omega | (simp; done) | (simp; omega)
        go_wp2_with fail
        have hB : Below w.heap.size w (w1.setCell ⟨w.heap.size + 1 + 1, 2, none⟩ (.int .i64 0)) := by (repeat (first | exact Below.refl _ _ | (with_reducible assumption) | refine Below.drew ?_ | refine Below.drewN' ?_ _ | refine Below.alloc ?_ (by first | omega | (simp; done) | (simp; omega)) _ | refine Below.setCell ?_ (by first | omega | (simp; done) | (simp; omega)) _ | refine Below.then ?_ hb9 (by first | omega | (simp; done) | (simp; omega)) | refine Below.then ?_ hb8 (by first | omega | (simp; done) | (simp; omega)) | refine Below.then ?_ hb7 (by first | omega | (simp; done) | (simp; omega)) | refine Below.then ?_ hb6 (by first | omega | (simp; done) | (simp; omega)) | refine Below.then ?_ hb5 (by first | omega | (simp; done) | (simp; omega)) | refine Below.then ?_ hb4 (by first | omega | (simp; done) | (simp; omega)) | refine Below.then ?_ hb3 (by first | omega | (simp; done) | (simp; omega)) | refine Below.then ?_ hb2 (by first | omega | (simp; done) | (simp; omega)) | refine Below.then ?_ hb1 (by first | omega | (simp; done) | (simp; omega))))
        refine (HB.out _ (HS.out.below hB)).mono ?_; rintro e2 w2 ⟨rfl, hb2⟩; obtain ⟨hc2, hf2⟩ := bcell hb2; have hz2 := hb2.size; (try simp at hz2)
        go_wp2
        simp only [Exit.jump]
        go_ret2
        exact ⟨rfl, by (repeat (first | exact Below.refl _ _ | (with_reducible assumption) | refine Below.drew ?_ | refine Below.drewN' ?_ _ | refine Below.alloc ?_ (by first | omega | (simp; done) | (simp; omega)) _ | refine Below.setCell ?_ (by first | omega | (simp; done) | (simp; omega)) _ | refine Below.then ?_ hb9 (by first | omega | (simp; done) | (simp; omega)) | refine Below.then ?_ hb8 (by first | omega | (simp; done) | (simp; omega)) | refine Below.then ?_ hb7 (by first | omega | (simp; done) | (simp; omega)) | refine Below.then ?_ hb6 (by first | omega | (simp; done) | (simp; omega)) | refine Below.then ?_ hb5 (by first | omega | (simp; done) | (simp; omega)) | refine Below.then ?_ hb4 (by first | omega | (simp; done) | (simp; omega)) | refine Below.then ?_ hb3 (by first | omega | (simp; done) | (simp; omega)) | refine Below.then ?_ hb2 (by first | omega | (simp; done) | (simp; omega)) | refine Below.then ?_ hb1 (by first | omega | (simp; done) | (simp; omega))))⟩
      · obtain ⟨e2, e3⟩ := at_refused (t := t) (sp := sp) (ss := ss) (k := 5) (n := n) (x := x) (by omega)
        rw [e2, e3]
        have x1 : (0 == x) = false := by rw [beq_eq_false_iff_ne]; omega
        have x2 : (x == 0) = false := by rw [beq_eq_false_iff_ne]; omega
        clear e2 e3 hp
        go_enter Tryd.func20, Tryd.ntmps20
        go_wp2_with fail
        refine wp_scope_once 0 rfl ?_
        go_wp2_with fail
        refine (HC.out _ (((HS.out.alloc _).alloc _).alloc _)).mono ?_; rintro e1 w1 ⟨rfl, hb1⟩; obtain ⟨hc1, hf1⟩ := bcell hb1; have hz1 := hb1.size; (try simp at hz1)
        have aq0 := hc1 w.heap.size 0 (by first | omega | (simp; done) | (simp; omega)); simp [go_sem] at aq0
        have aq1 := hc1 w.heap.size 1 (by first | omega | (simp; done) | (simp; omega)); simp [go_sem] at aq1
        have aq2 := hc1 w.heap.size 2 (by first | omega | (simp; done) | (simp; omega)); simp [go_sem] at aq2
        have af0 := hf1 w.heap.size 0 (by first | omega | (simp; done) | (simp; omega)); simp [go_sem] at af0
        have af1 := hf1 w.heap.size 1 (by first | omega | (simp; done) | (simp; omega)); simp [go_sem] at af1
        have af2 := hf1 w.heap.size 2 (by first | omega | (simp; done) | (simp; omega)); simp [go_sem] at af2
        have al : w.heap.size < w1.heap.size := by first | omega | (simp; done) | (simp; omega)
        have bq0 := hc1 (w.heap.size + 1) 0 (by first | omega | (simp; done) | (simp; omega)); simp [go_sem] at bq0
        have bq1 := hc1 (w.heap.size + 1) 1 (by first | omega | (simp; done) | (simp; omega)); simp [go_sem] at bq1
        have bq2 := hc1 (w.heap.size + 1) 2 (by first | omega | (simp; done) | (simp; omega)); simp [go_sem] at bq2
        have bf0 := hf1 (w.heap.size + 1) 0 (by first | omega | (simp; done) | (simp; omega)); simp [go_sem] at bf0
        have bf1 := hf1 (w.heap.size + 1) 1 (by first | omega | (simp; done) | (simp; omega)); simp [go_sem] at bf1
        have bf2 := hf1 (w.heap.size + 1) 2 (by first | omega | (simp; done) | (simp; omega)); simp [go_sem] at bf2
        have bl : (w.heap.size + 1) < w1.heap.size := by first | omega | (simp; done) | (simp; omega)
        have dq0 := hc1 (w.heap.size + 2) 0 (by first | omega | (simp; done) | (simp; omega)); simp [go_sem] at dq0
        have dq1 := hc1 (w.heap.size + 2) 1 (by first | omega | (simp; done) | (simp; omega)); simp [go_sem] at dq1
        have dq2 := hc1 (w.heap.size + 2) 2 (by first | omega | (simp; done) | (simp; omega)); simp [go_sem] at dq2
        have df0 := hf1 (w.heap.size + 2) 0 (by first | omega | (simp; done) | (simp; omega)); simp [go_sem] at df0
        have df1 := hf1 (w.heap.size + 2) 1 (by first | omega | (simp; done) | (simp; omega)); simp [go_sem] at df1
        have df2 := hf1 (w.heap.size + 2) 2 (by first | omega | (simp; done) | (simp; omega)); simp [go_sem] at df2
        have dl : (w.heap.size + 2) < w1.heap.size := by first | omega | (simp; done) | (simp; omega)
        go_wp2
        go_step3
        refine ⟨rfl, ?_⟩
        go_wp2
        rw [Exit.noGoto_ret]
        go_ret2
        exact ⟨rfl, by (repeat (first | exact Below.refl _ _ | (with_reducible assumption) | refine Below.drew ?_ | refine Below.drewN' ?_ _ | refine Below.alloc ?_ (by first | omega | (simp; done) | (simp; omega)) _ | refine Below.setCell ?_ (by first | omega | (simp; done) | (simp; omega)) _ | refine Below.then ?_ hb9 (by first | omega | (simp; done) | (simp; omega)) | refine Below.then ?_ hb8 (by first | omega | (simp; done) | (simp; omega)) | refine Below.then ?_ hb7 (by first | omega | (simp; done) | (simp; omega)) | refine Below.then ?_ hb6 (by first | omega | (simp; done) | (simp; omega)) | refine Below.then ?_ hb5 (by first | omega | (simp; done) | (simp; omega)) | refine Below.then ?_ hb4 (by first | omega | (simp; done) | (simp; omega)) | refine Below.then ?_ hb3 (by first | omega | (simp; done) | (simp; omega)) | refine Below.then ?_ hb2 (by first | omega | (simp; done) | (simp; omega)) | refine Below.then ?_ hb1 (by first | omega | (simp; done) | (simp; omega))))⟩
    have kb : 1 ≤ k ∧ k ≤ 3 := by omega
    have k60 : (k == 6) = false := by rw [beq_eq_false_iff_ne]; omega
    have k40 : (k == 4) = false := by rw [beq_eq_false_iff_ne]; omega
    have k50 : (k == 5) = false := by rw [beq_eq_false_iff_ne]; omega
    by_cases nx : n = 0 ∧ x = 0
    · obtain ⟨rfl, rfl⟩ := nx
      obtain ⟨e2, e3⟩ := at_in (t := t) (sp := sp) (ss := ss) (k := k) (n := 0) (x := 0) ⟨hp, by omega, by omega, fun h => rfl, fun h => rfl⟩ (by omega)
      rw [if_pos (by omega)] at e3
      rw [e2, e3]
      clear e2 e3 hp
      go_enter Tryd.func20, Tryd.ntmps20
      go_wp2_with fail
      refine wp_scope_once 0 rfl ?_
      go_wp2_with fail
      refine (HC.out _ (((HS.out.alloc _).alloc _).alloc _)).mono ?_; rintro e1 w1 ⟨rfl, hb1⟩; obtain ⟨hc1, hf1⟩ := bcell hb1; have hz1 := hb1.size; (try simp at hz1)
      have aq0 := hc1 w.heap.size 0 (by first | omega | (simp; done) | (simp; omega)); simp [go_sem] at aq0
      have aq1 := hc1 w.heap.size 1 (by first | omega | (simp; done) | (simp; omega)); simp [go_sem] at aq1
      have aq2 := hc1 w.heap.size 2 (by first | omega | (simp; done) | (simp; omega)); simp [go_sem] at aq2
      have af0 := hf1 w.heap.size 0 (by first | omega | (simp; done) | (simp; omega)); simp [go_sem] at af0
      have af1 := hf1 w.heap.size 1 (by first | omega | (simp; done) | (simp; omega)); simp [go_sem] at af1
      have af2 := hf1 w.heap.size 2 (by first | omega | (simp; done) | (simp; omega)); simp [go_sem] at af2
      have al : w.heap.size < w1.heap.size := by first | omega | (simp; done) | (simp; omega)
      have bq0 := hc1 (w.heap.size + 1) 0 (by first | omega | (simp; done) | (simp; omega)); simp [go_sem] at bq0
      have bq1 := hc1 (w.heap.size + 1) 1 (by first | omega | (simp; done) | (simp; omega)); simp [go_sem] at bq1
      have bq2 := hc1 (w.heap.size + 1) 2 (by first | omega | (simp; done) | (simp; omega)); simp [go_sem] at bq2
      have bf0 := hf1 (w.heap.size + 1) 0 (by first | omega | (simp; done) | (simp; omega)); simp [go_sem] at bf0
      have bf1 := hf1 (w.heap.size + 1) 1 (by first | omega | (simp; done) | (simp; omega)); simp [go_sem] at bf1
      have bf2 := hf1 (w.heap.size + 1) 2 (by first | omega | (simp; done) | (simp; omega)); simp [go_sem] at bf2
      have bl : (w.heap.size + 1) < w1.heap.size := by first | omega | (simp; done) | (simp; omega)
      have dq0 := hc1 (w.heap.size + 2) 0 (by first | omega | (simp; done) | (simp; omega)); simp [go_sem] at dq0
      have dq1 := hc1 (w.heap.size + 2) 1 (by first | omega | (simp; done) | (simp; omega)); simp [go_sem] at dq1
      have dq2 := hc1 (w.heap.size + 2) 2 (by first | omega | (simp; done) | (simp; omega)); simp [go_sem] at dq2
      have df0 := hf1 (w.heap.size + 2) 0 (by first | omega | (simp; done) | (simp; omega)); simp [go_sem] at df0
      have df1 := hf1 (w.heap.size + 2) 1 (by first | omega | (simp; done) | (simp; omega)); simp [go_sem] at df1
      have df2 := hf1 (w.heap.size + 2) 2 (by first | omega | (simp; done) | (simp; omega)); simp [go_sem] at df2
      have dl : (w.heap.size + 2) < w1.heap.size := by first | omega | (simp; done) | (simp; omega)
      go_wp2
      simp only [Exit.jump]
      go_ret2
      exact ⟨rfl, by (repeat (first | exact Below.refl _ _ | (with_reducible assumption) | refine Below.drew ?_ | refine Below.drewN' ?_ _ | refine Below.alloc ?_ (by first | omega | (simp; done) | (simp; omega)) _ | refine Below.setCell ?_ (by first | omega | (simp; done) | (simp; omega)) _ | refine Below.then ?_ hb9 (by first | omega | (simp; done) | (simp; omega)) | refine Below.then ?_ hb8 (by first | omega | (simp; done) | (simp; omega)) | refine Below.then ?_ hb7 (by first | omega | (simp; done) | (simp; omega)) | refine Below.then ?_ hb6 (by first | omega | (simp; done) | (simp; omega)) | refine Below.then ?_ hb5 (by first | omega | (simp; done) | (simp; omega)) | refine Below.then ?_ hb4 (by first | omega | (simp; done) | (simp; omega)) | refine Below.then ?_ hb3 (by first | omega | (simp; done) | (simp; omega)) | refine Below.then ?_ hb2 (by first | omega | (simp; done) | (simp; omega)) | refine Below.then ?_ hb1 (by first | omega | (simp; done) | (simp; omega))))⟩
    · obtain ⟨e2, e3⟩ := at_refused (t := t) (sp := sp) (ss := ss) (k := k) (n := n) (x := x) (by omega)
      rw [e2, e3]
      clear e2 e3 hp
      by_cases n0 : n = 0
      · subst n0
        have x2 : (x == 0) = false := by rw [beq_eq_false_iff_ne]; omega
        go_enter Tryd.func20, Tryd.ntmps20
        go_wp2_with fail
        refine wp_scope_once 0 rfl ?_
        go_wp2_with fail
        refine (HC.out _ (((HS.out.alloc _).alloc _).alloc _)).mono ?_; rintro e1 w1 ⟨rfl, hb1⟩; obtain ⟨hc1, hf1⟩ := bcell hb1; have hz1 := hb1.size; (try simp at hz1)
        have aq0 := hc1 w.heap.size 0 (by first | omega | (simp; done) | (simp; omega)); simp [go_sem] at aq0
        have aq1 := hc1 w.heap.size 1 (by first | omega | (simp; done) | (simp; omega)); simp [go_sem] at aq1
        have aq2 := hc1 w.heap.size 2 (by first | omega | (simp; done) | (simp; omega)); simp [go_sem] at aq2
        have af0 := hf1 w.heap.size 0 (by first | omega | (simp; done) | (simp; omega)); simp [go_sem] at af0
        have af1 := hf1 w.heap.size 1 (by first | omega | (simp; done) | (simp; omega)); simp [go_sem] at af1
        have af2 := hf1 w.heap.size 2 (by first | omega | (simp; done) | (simp; omega)); simp [go_sem] at af2
        have al : w.heap.size < w1.heap.size := by first | omega | (simp; done) | (simp; omega)
        have bq0 := hc1 (w.heap.size + 1) 0 (by first | omega | (simp; done) | (simp; omega)); simp [go_sem] at bq0
        have bq1 := hc1 (w.heap.size + 1) 1 (by first | omega | (simp; done) | (simp; omega)); simp [go_sem] at bq1
        have bq2 := hc1 (w.heap.size + 1) 2 (by first | omega | (simp; done) | (simp; omega)); simp [go_sem] at bq2
        have bf0 := hf1 (w.heap.size + 1) 0 (by first | omega | (simp; done) | (simp; omega)); simp [go_sem] at bf0
        have bf1 := hf1 (w.heap.size + 1) 1 (by first | omega | (simp; done) | (simp; omega)); simp [go_sem] at bf1
        have bf2 := hf1 (w.heap.size + 1) 2 (by first | omega | (simp; done) | (simp; omega)); simp [go_sem] at bf2
        have bl : (w.heap.size + 1) < w1.heap.size := by first | omega | (simp; done) | (simp; omega)
        have dq0 := hc1 (w.heap.size + 2) 0 (by first | omega | (simp; done) | (simp; omega)); simp [go_sem] at dq0
        have dq1 := hc1 (w.heap.size + 2) 1 (by first | omega | (simp; done) | (simp; omega)); simp [go_sem] at dq1
        have dq2 := hc1 (w.heap.size + 2) 2 (by first | omega | (simp; done) | (simp; omega)); simp [go_sem] at dq2
        have df0 := hf1 (w.heap.size + 2) 0 (by first | omega | (simp; done) | (simp; omega)); simp [go_sem] at df0
        have df1 := hf1 (w.heap.size + 2) 1 (by first | omega | (simp; done) | (simp; omega)); simp [go_sem] at df1
        have df2 := hf1 (w.heap.size + 2) 2 (by first | omega | (simp; done) | (simp; omega)); simp [go_sem] at df2
        have dl : (w.heap.size + 2) < w1.heap.size := by first | omega | (simp; done) | (simp; omega)
        go_wp2
        go_step3
        refine ⟨rfl, ?_⟩
        go_wp2
        rw [Exit.noGoto_ret]
        go_ret2
        exact ⟨rfl, by (repeat (first | exact Below.refl _ _ | (with_reducible assumption) | refine Below.drew ?_ | refine Below.drewN' ?_ _ | refine Below.alloc ?_ (by first | omega | (simp; done) | (simp; omega)) _ | refine Below.setCell ?_ (by first | omega | (simp; done) | (simp; omega)) _ | refine Below.then ?_ hb9 (by first | omega | (simp; done) | (simp; omega)) | refine Below.then ?_ hb8 (by first | omega | (simp; done) | (simp; omega)) | refine Below.then ?_ hb7 (by first | omega | (simp; done) | (simp; omega)) | refine Below.then ?_ hb6 (by first | omega | (simp; done) | (simp; omega)) | refine Below.then ?_ hb5 (by first | omega | (simp; done) | (simp; omega)) | refine Below.then ?_ hb4 (by first | omega | (simp; done) | (simp; omega)) | refine Below.then ?_ hb3 (by first | omega | (simp; done) | (simp; omega)) | refine Below.then ?_ hb2 (by first | omega | (simp; done) | (simp; omega)) | refine Below.then ?_ hb1 (by first | omega | (simp; done) | (simp; omega))))⟩
      · have n2 : (n == 0) = false := by rw [beq_eq_false_iff_ne]; omega
        go_enter Tryd.func20, Tryd.ntmps20
        go_wp2_with fail
        refine wp_scope_once 0 rfl ?_
        go_wp2_with fail
        refine (HC.out _ (((HS.out.alloc _).alloc _).alloc _)).mono ?_; rintro e1 w1 ⟨rfl, hb1⟩; obtain ⟨hc1, hf1⟩ := bcell hb1; have hz1 := hb1.size; (try simp at hz1)
        have aq0 := hc1 w.heap.size 0 (by first | omega | (simp; done) | (simp; omega)); simp [go_sem] at aq0
        have aq1 := hc1 w.heap.size 1 (by first | omega | (simp; done) | (simp; omega)); simp [go_sem] at aq1
        have aq2 := hc1 w.heap.size 2 (by first | omega | (simp; done) | (simp; omega)); simp [go_sem] at aq2
        have af0 := hf1 w.heap.size 0 (by first | omega | (simp; done) | (simp; omega)); simp [go_sem] at af0
        have af1 := hf1 w.heap.size 1 (by first | omega | (simp; done) | (simp; omega)); simp [go_sem] at af1
        have af2 := hf1 w.heap.size 2 (by first | omega | (simp; done) | (simp; omega)); simp [go_sem] at af2
        have al : w.heap.size < w1.heap.size := by first | omega | (simp; done) | (simp; omega)
        have bq0 := hc1 (w.heap.size + 1) 0 (by first | omega | (simp; done) | (simp; omega)); simp [go_sem] at bq0
        have bq1 := hc1 (w.heap.size + 1) 1 (by first | omega | (simp; done) | (simp; omega)); simp [go_sem] at bq1
        have bq2 := hc1 (w.heap.size + 1) 2 (by first | omega | (simp; done) | (simp; omega)); simp [go_sem] at bq2
        have bf0 := hf1 (w.heap.size + 1) 0 (by first | omega | (simp; done) | (simp; omega)); simp [go_sem] at bf0
        have bf1 := hf1 (w.heap.size + 1) 1 (by first | omega | (simp; done) | (simp; omega)); simp [go_sem] at bf1
        have bf2 := hf1 (w.heap.size + 1) 2 (by first | omega | (simp; done) | (simp; omega)); simp [go_sem] at bf2
        have bl : (w.heap.size + 1) < w1.heap.size := by first | omega | (simp; done) | (simp; omega)
        have dq0 := hc1 (w.heap.size + 2) 0 (by first | omega | (simp; done) | (simp; omega)); simp [go_sem] at dq0
        have dq1 := hc1 (w.heap.size + 2) 1 (by first | omega | (simp; done) | (simp; omega)); simp [go_sem] at dq1
        have dq2 := hc1 (w.heap.size + 2) 2 (by first | omega | (simp; done) | (simp; omega)); simp [go_sem] at dq2
        have df0 := hf1 (w.heap.size + 2) 0 (by first | omega | (simp; done) | (simp; omega)); simp [go_sem] at df0
        have df1 := hf1 (w.heap.size + 2) 1 (by first | omega | (simp; done) | (simp; omega)); simp [go_sem] at df1
        have df2 := hf1 (w.heap.size + 2) 2 (by first | omega | (simp; done) | (simp; omega)); simp [go_sem] at df2
        have dl : (w.heap.size + 2) < w1.heap.size := by first | omega | (simp; done) | (simp; omega)
        go_wp2
        go_step3
        refine ⟨rfl, ?_⟩
        go_wp2
        rw [Exit.noGoto_ret]
        go_ret2
        exact ⟨rfl, by (repeat (first | exact Below.refl _ _ | (with_reducible assumption) | refine Below.drew ?_ | refine Below.drewN' ?_ _ | refine Below.alloc ?_ (by first | omega | (simp; done) | (simp; omega)) _ | refine Below.setCell ?_ (by first | omega | (simp; done) | (simp; omega)) _ | refine Below.then ?_ hb9 (by first | omega | (simp; done) | (simp; omega)) | refine Below.then ?_ hb8 (by first | omega | (simp; done) | (simp; omega)) | refine Below.then ?_ hb7 (by first | omega | (simp; done) | (simp; omega)) | refine Below.then ?_ hb6 (by first | omega | (simp; done) | (simp; omega)) | refine Below.then ?_ hb5 (by first | omega | (simp; done) | (simp; omega)) | refine Below.then ?_ hb4 (by first | omega | (simp; done) | (simp; omega)) | refine Below.then ?_ hb3 (by first | omega | (simp; done) | (simp; omega)) | refine Below.then ?_ hb2 (by first | omega | (simp; done) | (simp; omega)) | refine Below.then ?_ hb1 (by first | omega | (simp; done) | (simp; omega))))⟩

end Go.Proofs.YtiodkcecpnomcaaDoor
