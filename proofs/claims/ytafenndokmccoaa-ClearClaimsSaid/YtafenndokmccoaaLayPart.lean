/- The layer 'layout': the part of a word. -/
import Derived.Test.YtafenndokmccoaaLay2
namespace Go.Proofs.Ytafenndokmccoaa
open Go.RowKit
set_option linter.unusedVariables false
set_option linter.unusedSimpArgs false

def szP (t sp : Int) : Int := 3 + 2 * t + 2 * sp
def partE (t sp : Int) (ss : List ByteArray) (x : Int) : Int := placeE t sp ss x (szP t sp)
def partK (t sp : Int) (ss : List ByteArray) (x : Int) : Int := if partE t sp ss x = 0 then (if x < 3 then 1 + x else if x < 3 + t then 4 else if x < 3 + 2 * t then 5 else 6) else 0
def partN (t sp : Int) (ss : List ByteArray) (x : Int) : Int := if partE t sp ss x = 0 then (if x < 3 then 0 else if x < 3 + t then x - 3 else if x < 3 + 2 * t then x - (3 + t) else (x - (3 + 2 * t)) / sp) else 0
def partA (t sp : Int) (ss : List ByteArray) (x : Int) : Int := if partE t sp ss x = 0 then (if x < 3 + 2 * t then 0 else (x - (3 + 2 * t)) % sp) else 0
theorem part_bad {t sp : Int} {ss : List ByteArray} {x : Int} (h : partE t sp ss x ≠ 0) : partK t sp ss x = 0 ∧ partN t sp ss x = 0 ∧ partA t sp ss x = 0 := by
  refine ⟨?_, ?_, ?_⟩
  · unfold partK; rw [if_neg h]
  · unfold partN; rw [if_neg h]
  · unfold partA; rw [if_neg h]
theorem part_ok {t sp : Int} {ss : List ByteArray} {x : Int} (h : planB t sp ss = true) (h0 : 0 ≤ x) (h1 : x < szP t sp) : partE t sp ss x = 0 := by
  unfold partE placeE; rw [if_pos h, if_neg (by omega)]
theorem part_cases {t sp : Int} {ss : List ByteArray} {x : Int} (hp : planB t sp ss = true) (h : partE t sp ss x = 0) :
    (x < 3 ∧ partK t sp ss x = 1 + x ∧ partN t sp ss x = 0 ∧ partA t sp ss x = 0) ∨
    (3 ≤ x ∧ x < 3 + t ∧ partK t sp ss x = 4 ∧ partN t sp ss x = x - 3 ∧ partA t sp ss x = 0) ∨
    (3 + t ≤ x ∧ x < 3 + 2 * t ∧ partK t sp ss x = 5 ∧ partN t sp ss x = x - (3 + t) ∧ partA t sp ss x = 0) ∨
    (3 + 2 * t ≤ x ∧ partK t sp ss x = 6 ∧ partN t sp ss x = (x - (3 + 2 * t)) / sp ∧ partA t sp ss x = (x - (3 + 2 * t)) % sp) := by
  obtain ⟨b1, b2, b3, b4, _⟩ := plan_ok hp
  unfold partK partN partA
  simp only [if_pos h]
  by_cases h3 : x < 3
  · refine .inl ⟨h3, ?_, ?_, ?_⟩
    · rw [if_pos h3]
    · rw [if_pos h3]
    · rw [if_pos (by omega)]
  · by_cases h4 : x < 3 + t
    · refine .inr (.inl ⟨by omega, h4, ?_, ?_, ?_⟩)
      · rw [if_neg h3, if_pos h4]
      · rw [if_neg h3, if_pos h4]
      · rw [if_pos (by omega)]
    · by_cases h5 : x < 3 + 2 * t
      · refine .inr (.inr (.inl ⟨by omega, h5, ?_, ?_, ?_⟩))
        · rw [if_neg h3, if_neg h4, if_pos h5]
        · rw [if_neg h3, if_neg h4, if_pos h5]
        · rw [if_pos h5]
      · refine .inr (.inr (.inr ⟨by omega, ?_, ?_, ?_⟩))
        · rw [if_neg h3, if_neg h4, if_neg h5]
        · rw [if_neg h3, if_neg h4, if_neg h5]
        · rw [if_neg h5]
theorem part_E {t sp : Int} {ss : List ByteArray} {x : Int} : (planB t sp ss = false ∧ partE t sp ss x = 2) ∨ (planB t sp ss = true ∧ x < 0 ∧ partE t sp ss x = 4) ∨ (planB t sp ss = true ∧ 0 ≤ x ∧ szP t sp ≤ x ∧ partE t sp ss x = 4) ∨ (planB t sp ss = true ∧ 0 ≤ x ∧ x < szP t sp ∧ partE t sp ss x = 0) := by
  unfold partE placeE
  cases hp : planB t sp ss with
  | false => exact .inl ⟨rfl, rfl⟩
  | true =>
    rw [if_pos rfl]
    by_cases h0 : x < 0
    · exact .inr (.inl ⟨rfl, h0, by rw [if_pos (.inl h0)]⟩)
    · by_cases h1 : szP t sp ≤ x
      · exact .inr (.inr (.inl ⟨rfl, by omega, h1, by rw [if_pos (.inr h1)]⟩))
      · exact .inr (.inr (.inr ⟨rfl, by omega, by omega, by rw [if_neg (by omega)]⟩))

set_option maxRecDepth 100000 in
set_option maxHeartbeats 3200000 in
theorem layPart_calls (t sp : Int) (a : Option Addr) (c : Nat) (ss : List ByteArray) (x : Int) (hn : ss.length ≤ maxLen) (w : World) (h : SlOf w a (strV ss)) :
    Calls Try.prog 134 #[.agg #[.int .i64 t, .int .i64 sp, .slice a ss.length c], .int .i64 x] w fun e w' =>
      e = .returned (.tuple #[.agg #[.int .i64 (partK t sp ss x), .int .i64 (partN t sp ss x), .int .i64 (partA t sp ss x)], .int .i64 (partE t sp ss x)]) ∧ Below w.heap.size w w' := by
  have HS := Lib.hid h
  have hsz := fun w h => laySize_calls t sp a c ss hn w h
  clear h
  rcases part_E (t := t) (sp := sp) (ss := ss) (x := x) with ⟨hp, he⟩ | ⟨hp, h0, he⟩ | ⟨hp, h0, h1, he⟩ | ⟨hp, h0, h1, he⟩
  · obtain ⟨k1, k2, k3⟩ := part_bad (show partE t sp ss x ≠ 0 by rw [he]; decide)
    have e1 : placeE t sp ss 0 1 = 2 := by simp [placeE, hp]
    have e2 : placeV t sp ss 0 1 (3 + 2 * t + 2 * sp) = 0 := by simp [placeV, e1]
    rw [k1, k2, k3, he]
    rw [e1, e2] at hsz
    have HZ := Lib.hid hsz
    clear hsz e1 e2 k1 k2 k3 he hp
    go_enter Try.func134, Try.ntmps134
    go_wp2_with fail
    refine (HZ.out _ ((HS.out.alloc _).alloc _)).mono ?_; rintro e1 w1 ⟨rfl, hb1⟩; obtain ⟨hc1, hf1⟩ := bcell hb1; have hz1 := hb1.size; (try simp at hz1)
    have aq0 := hc1 w.heap.size 0 (by first | omega | (simp; done) | (simp; omega)); simp [go_sem] at aq0
    have aq1 := hc1 w.heap.size 1 (by first | omega | (simp; done) | (simp; omega)); simp [go_sem] at aq1
    have aq2 := hc1 w.heap.size 2 (by first | omega | (simp; done) | (simp; omega)); simp [go_sem] at aq2
    have af0 := hf1 w.heap.size 0 (by first | omega | (simp; done) | (simp; omega)); simp [go_sem] at af0
    have af1 := hf1 w.heap.size 1 (by first | omega | (simp; done) | (simp; omega)); simp [go_sem] at af1
    have af2 := hf1 w.heap.size 2 (by first | omega | (simp; done) | (simp; omega)); simp [go_sem] at af2
    have al : w.heap.size < w1.heap.size := by first | omega | (simp; done) | (simp; omega)
    have bq0 := hc1 (w.heap.size + 1) 0 (by first | omega | (simp; done) | (simp; omega)); simp [go_sem] at bq0
    have bq1 := hc1 (w.heap.size + 1) 1 (by first | omega | (simp; done) | (simp; omega)); simp [go_sem] at bq1
    have bq2 := hc1 (w.heap.size + 1) 2 (by first | omega | (simp; done) | (simp; omega)); simp [go_sem] at bq2
    have bf0 := hf1 (w.heap.size + 1) 0 (by first | omega | (simp; done) | (simp; omega)); simp [go_sem] at bf0
    have bf1 := hf1 (w.heap.size + 1) 1 (by first | omega | (simp; done) | (simp; omega)); simp [go_sem] at bf1
    have bf2 := hf1 (w.heap.size + 1) 2 (by first | omega | (simp; done) | (simp; omega)); simp [go_sem] at bf2
    have bl : (w.heap.size + 1) < w1.heap.size := by first | omega | (simp; done) | (simp; omega)
    go_wp2
    exact bodyPost_ret (v := .tuple #[.agg #[.int .i64 0, .int .i64 0, .int .i64 0], .int .i64 2]) (by simp [results, Try.results134, go_sem, bq0, bq1, bq2, bl, Nat.ne_of_lt bl, World.cell?_setCell_same', cell_off, *]) rfl ⟨rfl, by (repeat (first | exact Below.refl _ _ | (with_reducible assumption) | refine Below.drew ?_ | refine Below.drewN' ?_ _ | refine Below.alloc ?_ (by first | omega | (simp; done) | (simp; omega)) _ | refine Below.setCell ?_ (by first | omega | (simp; done) | (simp; omega)) _ | refine Below.then ?_ hb9 (by first | omega | (simp; done) | (simp; omega)) | refine Below.then ?_ hb8 (by first | omega | (simp; done) | (simp; omega)) | refine Below.then ?_ hb7 (by first | omega | (simp; done) | (simp; omega)) | refine Below.then ?_ hb6 (by first | omega | (simp; done) | (simp; omega)) | refine Below.then ?_ hb5 (by first | omega | (simp; done) | (simp; omega)) | refine Below.then ?_ hb4 (by first | omega | (simp; done) | (simp; omega)) | refine Below.then ?_ hb3 (by first | omega | (simp; done) | (simp; omega)) | refine Below.then ?_ hb2 (by first | omega | (simp; done) | (simp; omega)) | refine Below.then ?_ hb1 (by first | omega | (simp; done) | (simp; omega))))⟩
  · obtain ⟨k1, k2, k3⟩ := part_bad (show partE t sp ss x ≠ 0 by rw [he]; decide)
    have e1 : placeE t sp ss 0 1 = 0 := by simp [placeE, hp]
    have e2 : placeV t sp ss 0 1 (3 + 2 * t + 2 * sp) = 3 + 2 * t + 2 * sp := by simp [placeV, e1]
    obtain ⟨b1, b2, b3, b4, _⟩ := plan_ok hp
    rw [k1, k2, k3, he]
    rw [e1, e2] at hsz
    have HZ := Lib.hid hsz
    clear hsz e1 e2 k1 k2 k3 he hp
    go_enter Try.func134, Try.ntmps134
    go_wp2_with fail
    refine (HZ.out _ ((HS.out.alloc _).alloc _)).mono ?_; rintro e1 w1 ⟨rfl, hb1⟩; obtain ⟨hc1, hf1⟩ := bcell hb1; have hz1 := hb1.size; (try simp at hz1)
    have aq0 := hc1 w.heap.size 0 (by first | omega | (simp; done) | (simp; omega)); simp [go_sem] at aq0
    have aq1 := hc1 w.heap.size 1 (by first | omega | (simp; done) | (simp; omega)); simp [go_sem] at aq1
    have aq2 := hc1 w.heap.size 2 (by first | omega | (simp; done) | (simp; omega)); simp [go_sem] at aq2
    have af0 := hf1 w.heap.size 0 (by first | omega | (simp; done) | (simp; omega)); simp [go_sem] at af0
    have af1 := hf1 w.heap.size 1 (by first | omega | (simp; done) | (simp; omega)); simp [go_sem] at af1
    have af2 := hf1 w.heap.size 2 (by first | omega | (simp; done) | (simp; omega)); simp [go_sem] at af2
    have al : w.heap.size < w1.heap.size := by first | omega | (simp; done) | (simp; omega)
    have bq0 := hc1 (w.heap.size + 1) 0 (by first | omega | (simp; done) | (simp; omega)); simp [go_sem] at bq0
    have bq1 := hc1 (w.heap.size + 1) 1 (by first | omega | (simp; done) | (simp; omega)); simp [go_sem] at bq1
    have bq2 := hc1 (w.heap.size + 1) 2 (by first | omega | (simp; done) | (simp; omega)); simp [go_sem] at bq2
    have bf0 := hf1 (w.heap.size + 1) 0 (by first | omega | (simp; done) | (simp; omega)); simp [go_sem] at bf0
    have bf1 := hf1 (w.heap.size + 1) 1 (by first | omega | (simp; done) | (simp; omega)); simp [go_sem] at bf1
    have bf2 := hf1 (w.heap.size + 1) 2 (by first | omega | (simp; done) | (simp; omega)); simp [go_sem] at bf2
    have bl : (w.heap.size + 1) < w1.heap.size := by first | omega | (simp; done) | (simp; omega)
    go_wp2
    exact bodyPost_ret (v := .tuple #[.agg #[.int .i64 0, .int .i64 0, .int .i64 0], .int .i64 4]) (by simp [results, Try.results134, go_sem, bq0, bq1, bq2, bl, Nat.ne_of_lt bl, World.cell?_setCell_same', cell_off, *]) rfl ⟨rfl, by (repeat (first | exact Below.refl _ _ | (with_reducible assumption) | refine Below.drew ?_ | refine Below.drewN' ?_ _ | refine Below.alloc ?_ (by first | omega | (simp; done) | (simp; omega)) _ | refine Below.setCell ?_ (by first | omega | (simp; done) | (simp; omega)) _ | refine Below.then ?_ hb9 (by first | omega | (simp; done) | (simp; omega)) | refine Below.then ?_ hb8 (by first | omega | (simp; done) | (simp; omega)) | refine Below.then ?_ hb7 (by first | omega | (simp; done) | (simp; omega)) | refine Below.then ?_ hb6 (by first | omega | (simp; done) | (simp; omega)) | refine Below.then ?_ hb5 (by first | omega | (simp; done) | (simp; omega)) | refine Below.then ?_ hb4 (by first | omega | (simp; done) | (simp; omega)) | refine Below.then ?_ hb3 (by first | omega | (simp; done) | (simp; omega)) | refine Below.then ?_ hb2 (by first | omega | (simp; done) | (simp; omega)) | refine Below.then ?_ hb1 (by first | omega | (simp; done) | (simp; omega))))⟩
  · obtain ⟨k1, k2, k3⟩ := part_bad (show partE t sp ss x ≠ 0 by rw [he]; decide)
    have e1 : placeE t sp ss 0 1 = 0 := by simp [placeE, hp]
    have e2 : placeV t sp ss 0 1 (3 + 2 * t + 2 * sp) = 3 + 2 * t + 2 * sp := by simp [placeV, e1]
    obtain ⟨b1, b2, b3, b4, _⟩ := plan_ok hp
    unfold szP at h1
    rw [k1, k2, k3, he]
    rw [e1, e2] at hsz
    have HZ := Lib.hid hsz
    clear hsz e1 e2 k1 k2 k3 he hp
    go_enter Try.func134, Try.ntmps134
    go_wp2_with fail
    refine (HZ.out _ ((HS.out.alloc _).alloc _)).mono ?_; rintro e1 w1 ⟨rfl, hb1⟩; obtain ⟨hc1, hf1⟩ := bcell hb1; have hz1 := hb1.size; (try simp at hz1)
    have aq0 := hc1 w.heap.size 0 (by first | omega | (simp; done) | (simp; omega)); simp [go_sem] at aq0
    have aq1 := hc1 w.heap.size 1 (by first | omega | (simp; done) | (simp; omega)); simp [go_sem] at aq1
    have aq2 := hc1 w.heap.size 2 (by first | omega | (simp; done) | (simp; omega)); simp [go_sem] at aq2
    have af0 := hf1 w.heap.size 0 (by first | omega | (simp; done) | (simp; omega)); simp [go_sem] at af0
    have af1 := hf1 w.heap.size 1 (by first | omega | (simp; done) | (simp; omega)); simp [go_sem] at af1
    have af2 := hf1 w.heap.size 2 (by first | omega | (simp; done) | (simp; omega)); simp [go_sem] at af2
    have al : w.heap.size < w1.heap.size := by first | omega | (simp; done) | (simp; omega)
    have bq0 := hc1 (w.heap.size + 1) 0 (by first | omega | (simp; done) | (simp; omega)); simp [go_sem] at bq0
    have bq1 := hc1 (w.heap.size + 1) 1 (by first | omega | (simp; done) | (simp; omega)); simp [go_sem] at bq1
    have bq2 := hc1 (w.heap.size + 1) 2 (by first | omega | (simp; done) | (simp; omega)); simp [go_sem] at bq2
    have bf0 := hf1 (w.heap.size + 1) 0 (by first | omega | (simp; done) | (simp; omega)); simp [go_sem] at bf0
    have bf1 := hf1 (w.heap.size + 1) 1 (by first | omega | (simp; done) | (simp; omega)); simp [go_sem] at bf1
    have bf2 := hf1 (w.heap.size + 1) 2 (by first | omega | (simp; done) | (simp; omega)); simp [go_sem] at bf2
    have bl : (w.heap.size + 1) < w1.heap.size := by first | omega | (simp; done) | (simp; omega)
    go_wp2
    exact bodyPost_ret (v := .tuple #[.agg #[.int .i64 0, .int .i64 0, .int .i64 0], .int .i64 4]) (by simp [results, Try.results134, go_sem, bq0, bq1, bq2, bl, Nat.ne_of_lt bl, World.cell?_setCell_same', cell_off, *]) rfl ⟨rfl, by (repeat (first | exact Below.refl _ _ | (with_reducible assumption) | refine Below.drew ?_ | refine Below.drewN' ?_ _ | refine Below.alloc ?_ (by first | omega | (simp; done) | (simp; omega)) _ | refine Below.setCell ?_ (by first | omega | (simp; done) | (simp; omega)) _ | refine Below.then ?_ hb9 (by first | omega | (simp; done) | (simp; omega)) | refine Below.then ?_ hb8 (by first | omega | (simp; done) | (simp; omega)) | refine Below.then ?_ hb7 (by first | omega | (simp; done) | (simp; omega)) | refine Below.then ?_ hb6 (by first | omega | (simp; done) | (simp; omega)) | refine Below.then ?_ hb5 (by first | omega | (simp; done) | (simp; omega)) | refine Below.then ?_ hb4 (by first | omega | (simp; done) | (simp; omega)) | refine Below.then ?_ hb3 (by first | omega | (simp; done) | (simp; omega)) | refine Below.then ?_ hb2 (by first | omega | (simp; done) | (simp; omega)) | refine Below.then ?_ hb1 (by first | omega | (simp; done) | (simp; omega))))⟩
  · have e1 : placeE t sp ss 0 1 = 0 := by simp [placeE, hp]
    have e2 : placeV t sp ss 0 1 (3 + 2 * t + 2 * sp) = 3 + 2 * t + 2 * sp := by simp [placeV, e1]
    obtain ⟨b1, b2, b3, b4, _⟩ := plan_ok hp
    unfold szP at h1
    rw [e1, e2] at hsz
    have HZ := Lib.hid hsz
    clear hsz e1 e2
    rcases part_cases hp he with ⟨c1, k1, k2, k3⟩ | ⟨c0, c1, k1, k2, k3⟩ | ⟨c0, c1, k1, k2, k3⟩ | ⟨c0, k1, k2, k3⟩
    · rw [k1, k2, k3, he]
      clear k1 k2 k3 he hp
      go_enter Try.func134, Try.ntmps134
      go_wp2_with fail
      refine (HZ.out _ ((HS.out.alloc _).alloc _)).mono ?_; rintro e1 w1 ⟨rfl, hb1⟩; obtain ⟨hc1, hf1⟩ := bcell hb1; have hz1 := hb1.size; (try simp at hz1)
      have aq0 := hc1 w.heap.size 0 (by first | omega | (simp; done) | (simp; omega)); simp [go_sem] at aq0
      have aq1 := hc1 w.heap.size 1 (by first | omega | (simp; done) | (simp; omega)); simp [go_sem] at aq1
      have aq2 := hc1 w.heap.size 2 (by first | omega | (simp; done) | (simp; omega)); simp [go_sem] at aq2
      have af0 := hf1 w.heap.size 0 (by first | omega | (simp; done) | (simp; omega)); simp [go_sem] at af0
      have af1 := hf1 w.heap.size 1 (by first | omega | (simp; done) | (simp; omega)); simp [go_sem] at af1
      have af2 := hf1 w.heap.size 2 (by first | omega | (simp; done) | (simp; omega)); simp [go_sem] at af2
      have al : w.heap.size < w1.heap.size := by first | omega | (simp; done) | (simp; omega)
      have bq0 := hc1 (w.heap.size + 1) 0 (by first | omega | (simp; done) | (simp; omega)); simp [go_sem] at bq0
      have bq1 := hc1 (w.heap.size + 1) 1 (by first | omega | (simp; done) | (simp; omega)); simp [go_sem] at bq1
      have bq2 := hc1 (w.heap.size + 1) 2 (by first | omega | (simp; done) | (simp; omega)); simp [go_sem] at bq2
      have bf0 := hf1 (w.heap.size + 1) 0 (by first | omega | (simp; done) | (simp; omega)); simp [go_sem] at bf0
      have bf1 := hf1 (w.heap.size + 1) 1 (by first | omega | (simp; done) | (simp; omega)); simp [go_sem] at bf1
      have bf2 := hf1 (w.heap.size + 1) 2 (by first | omega | (simp; done) | (simp; omega)); simp [go_sem] at bf2
      have bl : (w.heap.size + 1) < w1.heap.size := by first | omega | (simp; done) | (simp; omega)
      have an0 : ¬ w.heap.size = w1.heap.size := by omega
      have an1 : ¬ w.heap.size = w1.heap.size + 1 := by omega
      have an2 : ¬ w.heap.size = w1.heap.size + 1 + 1 := by omega
      have an3 : ¬ w.heap.size = w1.heap.size + 1 + 1 + 1 := by omega
      have an4 : ¬ w.heap.size + 1 = w1.heap.size := by omega
      have ax0 : w.heap.size ≤ w1.heap.size := by omega
      have ax1 : w.heap.size ≤ w1.heap.size + 1 := by omega
      have ax2 : w.heap.size ≤ w1.heap.size + 1 + 1 := by omega
      have ax3 : w.heap.size ≤ w1.heap.size + 1 + 1 + 1 := by omega
      have ax4 : w.heap.size + 1 ≤ w1.heap.size := by omega
      have ay1 : w.heap.size < w1.heap.size + 1 := by omega
      have ay2 : w.heap.size < w1.heap.size + 1 + 1 := by omega
      have ay3 : w.heap.size < w1.heap.size + 1 + 1 + 1 := by omega
      have ay4 : w.heap.size + 1 < w1.heap.size + 1 + 1 := by omega
      have ay5 : w.heap.size + 1 < w1.heap.size + 1 + 1 + 1 := by omega
      go_wp2_with (first | (go_at_call 151; go_in) | (go_at_call 112; go_in) | (go_at_call 79; go_in))
      exact bodyPost_ret (v := .tuple #[.agg #[.int .i64 (1 + x), .int .i64 0, .int .i64 0], .int .i64 0]) (by simp [results, Try.results134, go_sem, bq0, bq1, bq2, bl, Nat.ne_of_lt bl, World.cell?_setCell_same', cell_off, *]) rfl ⟨rfl, by (repeat (first | exact Below.refl _ _ | (with_reducible assumption) | refine Below.drew ?_ | refine Below.drewN' ?_ _ | refine Below.alloc ?_ (by first | omega | (simp; done) | (simp; omega)) _ | refine Below.setCell ?_ (by first | omega | (simp; done) | (simp; omega)) _ | refine Below.then ?_ hb9 (by first | omega | (simp; done) | (simp; omega)) | refine Below.then ?_ hb8 (by first | omega | (simp; done) | (simp; omega)) | refine Below.then ?_ hb7 (by first | omega | (simp; done) | (simp; omega)) | refine Below.then ?_ hb6 (by first | omega | (simp; done) | (simp; omega)) | refine Below.then ?_ hb5 (by first | omega | (simp; done) | (simp; omega)) | refine Below.then ?_ hb4 (by first | omega | (simp; done) | (simp; omega)) | refine Below.then ?_ hb3 (by first | omega | (simp; done) | (simp; omega)) | refine Below.then ?_ hb2 (by first | omega | (simp; done) | (simp; omega)) | refine Below.then ?_ hb1 (by first | omega | (simp; done) | (simp; omega))))⟩
    · rw [k1, k2, k3, he]
      clear k1 k2 k3 he hp
      go_enter Try.func134, Try.ntmps134
      go_wp2_with fail
      refine (HZ.out _ ((HS.out.alloc _).alloc _)).mono ?_; rintro e1 w1 ⟨rfl, hb1⟩; obtain ⟨hc1, hf1⟩ := bcell hb1; have hz1 := hb1.size; (try simp at hz1)
      have aq0 := hc1 w.heap.size 0 (by first | omega | (simp; done) | (simp; omega)); simp [go_sem] at aq0
      have aq1 := hc1 w.heap.size 1 (by first | omega | (simp; done) | (simp; omega)); simp [go_sem] at aq1
      have aq2 := hc1 w.heap.size 2 (by first | omega | (simp; done) | (simp; omega)); simp [go_sem] at aq2
      have af0 := hf1 w.heap.size 0 (by first | omega | (simp; done) | (simp; omega)); simp [go_sem] at af0
      have af1 := hf1 w.heap.size 1 (by first | omega | (simp; done) | (simp; omega)); simp [go_sem] at af1
      have af2 := hf1 w.heap.size 2 (by first | omega | (simp; done) | (simp; omega)); simp [go_sem] at af2
      have al : w.heap.size < w1.heap.size := by first | omega | (simp; done) | (simp; omega)
      have bq0 := hc1 (w.heap.size + 1) 0 (by first | omega | (simp; done) | (simp; omega)); simp [go_sem] at bq0
      have bq1 := hc1 (w.heap.size + 1) 1 (by first | omega | (simp; done) | (simp; omega)); simp [go_sem] at bq1
      have bq2 := hc1 (w.heap.size + 1) 2 (by first | omega | (simp; done) | (simp; omega)); simp [go_sem] at bq2
      have bf0 := hf1 (w.heap.size + 1) 0 (by first | omega | (simp; done) | (simp; omega)); simp [go_sem] at bf0
      have bf1 := hf1 (w.heap.size + 1) 1 (by first | omega | (simp; done) | (simp; omega)); simp [go_sem] at bf1
      have bf2 := hf1 (w.heap.size + 1) 2 (by first | omega | (simp; done) | (simp; omega)); simp [go_sem] at bf2
      have bl : (w.heap.size + 1) < w1.heap.size := by first | omega | (simp; done) | (simp; omega)
      have an0 : ¬ w.heap.size = w1.heap.size := by omega
      have an1 : ¬ w.heap.size = w1.heap.size + 1 := by omega
      have an2 : ¬ w.heap.size = w1.heap.size + 1 + 1 := by omega
      have an3 : ¬ w.heap.size = w1.heap.size + 1 + 1 + 1 := by omega
      have an4 : ¬ w.heap.size + 1 = w1.heap.size := by omega
      have ax0 : w.heap.size ≤ w1.heap.size := by omega
      have ax1 : w.heap.size ≤ w1.heap.size + 1 := by omega
      have ax2 : w.heap.size ≤ w1.heap.size + 1 + 1 := by omega
      have ax3 : w.heap.size ≤ w1.heap.size + 1 + 1 + 1 := by omega
      have ax4 : w.heap.size + 1 ≤ w1.heap.size := by omega
      have ay1 : w.heap.size < w1.heap.size + 1 := by omega
      have ay2 : w.heap.size < w1.heap.size + 1 + 1 := by omega
      have ay3 : w.heap.size < w1.heap.size + 1 + 1 + 1 := by omega
      have ay4 : w.heap.size + 1 < w1.heap.size + 1 + 1 := by omega
      have ay5 : w.heap.size + 1 < w1.heap.size + 1 + 1 + 1 := by omega
      go_wp2_with (first | (go_at_call 151; go_in) | (go_at_call 112; go_in) | (go_at_call 79; go_in))
      exact bodyPost_ret (v := .tuple #[.agg #[.int .i64 4, .int .i64 (x - 3), .int .i64 0], .int .i64 0]) (by simp [results, Try.results134, go_sem, bq0, bq1, bq2, bl, Nat.ne_of_lt bl, World.cell?_setCell_same', cell_off, *]) rfl ⟨rfl, by (repeat (first | exact Below.refl _ _ | (with_reducible assumption) | refine Below.drew ?_ | refine Below.drewN' ?_ _ | refine Below.alloc ?_ (by first | omega | (simp; done) | (simp; omega)) _ | refine Below.setCell ?_ (by first | omega | (simp; done) | (simp; omega)) _ | refine Below.then ?_ hb9 (by first | omega | (simp; done) | (simp; omega)) | refine Below.then ?_ hb8 (by first | omega | (simp; done) | (simp; omega)) | refine Below.then ?_ hb7 (by first | omega | (simp; done) | (simp; omega)) | refine Below.then ?_ hb6 (by first | omega | (simp; done) | (simp; omega)) | refine Below.then ?_ hb5 (by first | omega | (simp; done) | (simp; omega)) | refine Below.then ?_ hb4 (by first | omega | (simp; done) | (simp; omega)) | refine Below.then ?_ hb3 (by first | omega | (simp; done) | (simp; omega)) | refine Below.then ?_ hb2 (by first | omega | (simp; done) | (simp; omega)) | refine Below.then ?_ hb1 (by first | omega | (simp; done) | (simp; omega))))⟩
    · rw [k1, k2, k3, he]
      clear k1 k2 k3 he hp
      go_enter Try.func134, Try.ntmps134
      go_wp2_with fail
      refine (HZ.out _ ((HS.out.alloc _).alloc _)).mono ?_; rintro e1 w1 ⟨rfl, hb1⟩; obtain ⟨hc1, hf1⟩ := bcell hb1; have hz1 := hb1.size; (try simp at hz1)
      have aq0 := hc1 w.heap.size 0 (by first | omega | (simp; done) | (simp; omega)); simp [go_sem] at aq0
      have aq1 := hc1 w.heap.size 1 (by first | omega | (simp; done) | (simp; omega)); simp [go_sem] at aq1
      have aq2 := hc1 w.heap.size 2 (by first | omega | (simp; done) | (simp; omega)); simp [go_sem] at aq2
      have af0 := hf1 w.heap.size 0 (by first | omega | (simp; done) | (simp; omega)); simp [go_sem] at af0
      have af1 := hf1 w.heap.size 1 (by first | omega | (simp; done) | (simp; omega)); simp [go_sem] at af1
      have af2 := hf1 w.heap.size 2 (by first | omega | (simp; done) | (simp; omega)); simp [go_sem] at af2
      have al : w.heap.size < w1.heap.size := by first | omega | (simp; done) | (simp; omega)
      have bq0 := hc1 (w.heap.size + 1) 0 (by first | omega | (simp; done) | (simp; omega)); simp [go_sem] at bq0
      have bq1 := hc1 (w.heap.size + 1) 1 (by first | omega | (simp; done) | (simp; omega)); simp [go_sem] at bq1
      have bq2 := hc1 (w.heap.size + 1) 2 (by first | omega | (simp; done) | (simp; omega)); simp [go_sem] at bq2
      have bf0 := hf1 (w.heap.size + 1) 0 (by first | omega | (simp; done) | (simp; omega)); simp [go_sem] at bf0
      have bf1 := hf1 (w.heap.size + 1) 1 (by first | omega | (simp; done) | (simp; omega)); simp [go_sem] at bf1
      have bf2 := hf1 (w.heap.size + 1) 2 (by first | omega | (simp; done) | (simp; omega)); simp [go_sem] at bf2
      have bl : (w.heap.size + 1) < w1.heap.size := by first | omega | (simp; done) | (simp; omega)
      have an0 : ¬ w.heap.size = w1.heap.size := by omega
      have an1 : ¬ w.heap.size = w1.heap.size + 1 := by omega
      have an2 : ¬ w.heap.size = w1.heap.size + 1 + 1 := by omega
      have an3 : ¬ w.heap.size = w1.heap.size + 1 + 1 + 1 := by omega
      have an4 : ¬ w.heap.size + 1 = w1.heap.size := by omega
      have ax0 : w.heap.size ≤ w1.heap.size := by omega
      have ax1 : w.heap.size ≤ w1.heap.size + 1 := by omega
      have ax2 : w.heap.size ≤ w1.heap.size + 1 + 1 := by omega
      have ax3 : w.heap.size ≤ w1.heap.size + 1 + 1 + 1 := by omega
      have ax4 : w.heap.size + 1 ≤ w1.heap.size := by omega
      have ay1 : w.heap.size < w1.heap.size + 1 := by omega
      have ay2 : w.heap.size < w1.heap.size + 1 + 1 := by omega
      have ay3 : w.heap.size < w1.heap.size + 1 + 1 + 1 := by omega
      have ay4 : w.heap.size + 1 < w1.heap.size + 1 + 1 := by omega
      have ay5 : w.heap.size + 1 < w1.heap.size + 1 + 1 + 1 := by omega
      go_wp2_with (first | (go_at_call 151; go_in) | (go_at_call 112; go_in) | (go_at_call 79; go_in))
      exact bodyPost_ret (v := .tuple #[.agg #[.int .i64 5, .int .i64 (x - (3 + t)), .int .i64 0], .int .i64 0]) (by simp [results, Try.results134, go_sem, bq0, bq1, bq2, bl, Nat.ne_of_lt bl, World.cell?_setCell_same', cell_off, *]) rfl ⟨rfl, by (repeat (first | exact Below.refl _ _ | (with_reducible assumption) | refine Below.drew ?_ | refine Below.drewN' ?_ _ | refine Below.alloc ?_ (by first | omega | (simp; done) | (simp; omega)) _ | refine Below.setCell ?_ (by first | omega | (simp; done) | (simp; omega)) _ | refine Below.then ?_ hb9 (by first | omega | (simp; done) | (simp; omega)) | refine Below.then ?_ hb8 (by first | omega | (simp; done) | (simp; omega)) | refine Below.then ?_ hb7 (by first | omega | (simp; done) | (simp; omega)) | refine Below.then ?_ hb6 (by first | omega | (simp; done) | (simp; omega)) | refine Below.then ?_ hb5 (by first | omega | (simp; done) | (simp; omega)) | refine Below.then ?_ hb4 (by first | omega | (simp; done) | (simp; omega)) | refine Below.then ?_ hb3 (by first | omega | (simp; done) | (simp; omega)) | refine Below.then ?_ hb2 (by first | omega | (simp; done) | (simp; omega)) | refine Below.then ?_ hb1 (by first | omega | (simp; done) | (simp; omega))))⟩
    · rw [k1, k2, k3, he]
      clear k1 k2 k3 he hp
      have d0 : 0 ≤ x - (3 + 2 * t) := by omega
      have d1 : (x - (3 + 2 * t)) / sp ≤ 1 := by
        have := Int.ediv_lt_of_lt_mul (a := x - (3 + 2 * t)) (b := 2) (c := sp) (by omega) (by omega)
        omega
      have d2 : 0 ≤ (x - (3 + 2 * t)) / sp := Int.ediv_nonneg d0 (by omega)
      have d3 := Int.emod_nonneg (x - (3 + 2 * t)) (show sp ≠ 0 by omega)
      have d4 := Int.emod_lt_of_pos (x - (3 + 2 * t)) (show 0 < sp by omega)
      go_enter Try.func134, Try.ntmps134
      go_wp2_with fail
      refine (HZ.out _ ((HS.out.alloc _).alloc _)).mono ?_; rintro e1 w1 ⟨rfl, hb1⟩; obtain ⟨hc1, hf1⟩ := bcell hb1; have hz1 := hb1.size; (try simp at hz1)
      have aq0 := hc1 w.heap.size 0 (by first | omega | (simp; done) | (simp; omega)); simp [go_sem] at aq0
      have aq1 := hc1 w.heap.size 1 (by first | omega | (simp; done) | (simp; omega)); simp [go_sem] at aq1
      have aq2 := hc1 w.heap.size 2 (by first | omega | (simp; done) | (simp; omega)); simp [go_sem] at aq2
      have af0 := hf1 w.heap.size 0 (by first | omega | (simp; done) | (simp; omega)); simp [go_sem] at af0
      have af1 := hf1 w.heap.size 1 (by first | omega | (simp; done) | (simp; omega)); simp [go_sem] at af1
      have af2 := hf1 w.heap.size 2 (by first | omega | (simp; done) | (simp; omega)); simp [go_sem] at af2
      have al : w.heap.size < w1.heap.size := by first | omega | (simp; done) | (simp; omega)
      have bq0 := hc1 (w.heap.size + 1) 0 (by first | omega | (simp; done) | (simp; omega)); simp [go_sem] at bq0
      have bq1 := hc1 (w.heap.size + 1) 1 (by first | omega | (simp; done) | (simp; omega)); simp [go_sem] at bq1
      have bq2 := hc1 (w.heap.size + 1) 2 (by first | omega | (simp; done) | (simp; omega)); simp [go_sem] at bq2
      have bf0 := hf1 (w.heap.size + 1) 0 (by first | omega | (simp; done) | (simp; omega)); simp [go_sem] at bf0
      have bf1 := hf1 (w.heap.size + 1) 1 (by first | omega | (simp; done) | (simp; omega)); simp [go_sem] at bf1
      have bf2 := hf1 (w.heap.size + 1) 2 (by first | omega | (simp; done) | (simp; omega)); simp [go_sem] at bf2
      have bl : (w.heap.size + 1) < w1.heap.size := by first | omega | (simp; done) | (simp; omega)
      have an0 : ¬ w.heap.size = w1.heap.size := by omega
      have an1 : ¬ w.heap.size = w1.heap.size + 1 := by omega
      have an2 : ¬ w.heap.size = w1.heap.size + 1 + 1 := by omega
      have an3 : ¬ w.heap.size = w1.heap.size + 1 + 1 + 1 := by omega
      have an4 : ¬ w.heap.size + 1 = w1.heap.size := by omega
      have ax0 : w.heap.size ≤ w1.heap.size := by omega
      have ax1 : w.heap.size ≤ w1.heap.size + 1 := by omega
      have ax2 : w.heap.size ≤ w1.heap.size + 1 + 1 := by omega
      have ax3 : w.heap.size ≤ w1.heap.size + 1 + 1 + 1 := by omega
      have ax4 : w.heap.size + 1 ≤ w1.heap.size := by omega
      have ay1 : w.heap.size < w1.heap.size + 1 := by omega
      have ay2 : w.heap.size < w1.heap.size + 1 + 1 := by omega
      have ay3 : w.heap.size < w1.heap.size + 1 + 1 + 1 := by omega
      have ay4 : w.heap.size + 1 < w1.heap.size + 1 + 1 := by omega
      have ay5 : w.heap.size + 1 < w1.heap.size + 1 + 1 + 1 := by omega
      go_wp2_with (first | (go_at_call 151; go_in) | (go_at_call 112; go_in) | (go_at_call 79; go_in))
      go_region
      all_goals
        go_wp2
        exact bodyPost_ret (v := .tuple #[.agg #[.int .i64 6, .int .i64 ((x - (3 + 2 * t)) / sp), .int .i64 ((x - (3 + 2 * t)) % sp)], .int .i64 0]) (by simp [results, Try.results134, go_sem, bq0, bq1, bq2, bl, Nat.ne_of_lt bl, World.cell?_setCell_same', cell_off, *]) rfl ⟨rfl, by (repeat (first | exact Below.refl _ _ | (with_reducible assumption) | refine Below.drew ?_ | refine Below.drewN' ?_ _ | refine Below.alloc ?_ (by first | omega | (simp; done) | (simp; omega)) _ | refine Below.setCell ?_ (by first | omega | (simp; done) | (simp; omega)) _ | refine Below.then ?_ hb9 (by first | omega | (simp; done) | (simp; omega)) | refine Below.then ?_ hb8 (by first | omega | (simp; done) | (simp; omega)) | refine Below.then ?_ hb7 (by first | omega | (simp; done) | (simp; omega)) | refine Below.then ?_ hb6 (by first | omega | (simp; done) | (simp; omega)) | refine Below.then ?_ hb5 (by first | omega | (simp; done) | (simp; omega)) | refine Below.then ?_ hb4 (by first | omega | (simp; done) | (simp; omega)) | refine Below.then ?_ hb3 (by first | omega | (simp; done) | (simp; omega)) | refine Below.then ?_ hb2 (by first | omega | (simp; done) | (simp; omega)) | refine Below.then ?_ hb1 (by first | omega | (simp; done) | (simp; omega))))⟩

end Go.Proofs.Ytafenndokmccoaa
