/- The layer 'shape': the kinds of fields; the greatest size. -/
import Derived.Test.YtafenndokmccoaaKindFnD
namespace Go.Proofs.Ytafenndokmccoaa
open Go.RowKit Go.Shelf
set_option linter.unusedVariables false
set_option linter.unusedSimpArgs false
attribute [local go_sem] Oper.semAt_some

/-- a field's kind, and what goes wrong -/
def kindE (ss : List ByteArray) (i f : Int) : Int := if ofE ss i = 0 then (if 0 ≤ f ∧ f < (ofS ss i).size then 0 else 131) else ofE ss i
def kindK (ss : List ByteArray) (i f : Int) : Int := if kindE ss i f = 0 then letterK (byteAt (ofS ss i) f.toNat) else 0
def isE (ss : List ByteArray) (i f k : Int) : Int := if kindE ss i f = 0 then (if kindK ss i f = k then 0 else 132) else kindE ss i f

theorem kindE_cases (ss : List ByteArray) (i f : Int) : (ofE ss i ≠ 0 ∧ kindE ss i f = ofE ss i) ∨ (ofE ss i = 0 ∧ f < 0 ∧ kindE ss i f = 131) ∨ (ofE ss i = 0 ∧ 0 ≤ f ∧ (ofS ss i).size ≤ f ∧ kindE ss i f = 131) ∨ (ofE ss i = 0 ∧ 0 ≤ f ∧ f < (ofS ss i).size ∧ kindE ss i f = 0) := by
  by_cases h : ofE ss i = 0
  · by_cases h0 : f < 0
    · exact .inr (.inl ⟨h, h0, by unfold kindE; rw [if_pos h, if_neg (by omega)]⟩)
    · by_cases h1 : f < (ofS ss i).size
      · exact .inr (.inr (.inr ⟨h, by omega, h1, by unfold kindE; rw [if_pos h, if_pos ⟨by omega, h1⟩]⟩))
      · exact .inr (.inr (.inl ⟨h, by omega, by omega, by unfold kindE; rw [if_pos h, if_neg (by omega)]⟩))
  · exact .inl ⟨h, by unfold kindE; rw [if_neg h]⟩

set_option maxRecDepth 100000 in
set_option maxHeartbeats 1600000 in
theorem kind_calls (a : Option Addr) (c : Nat) (ss : List ByteArray) (i f : Int) (hn : ss.length ≤ maxLen) (w : World) (h : SlOf w a (strV ss)) :
    Calls Try.prog 170 #[.slice a ss.length c, .int .i64 i, .int .i64 f] w fun e w' => e = .returned (.tuple #[.int .i64 (kindK ss i f), .int .i64 (kindE ss i f)]) ∧ Below w.heap.size w w' := by
  have HS := Lib.hid h
  have hof := fun w h => shOf_calls a c ss i hn w h
  clear h
  unfold maxLen at hn
  rcases kindE_cases ss i f with ⟨he, hk⟩ | ⟨he, h0, hk⟩ | ⟨he, h0, h1, hk⟩ | ⟨he, h0, h1, hk⟩
  · have e1 : ofS ss i = ⟨#[]⟩ := by unfold ofS; rw [if_neg he]; rfl
    have e2 : kindK ss i f = 0 := by unfold kindK; rw [if_neg (by rw [hk]; exact he)]
    have hbb : (ofE ss i != 0) = true := by simpa using he
    have hbc : (ofE ss i == 0) = false := by simpa using he
    rw [e1] at hof
    rw [hk, e2]
    have HO := Lib.hid hof
    clear hof e1 e2 he hk
    go_enter Try.func170, Try.ntmps170
    go_wp2_with fail
    refine (HO.out _ (HS.out.alloc _)).mono ?_; rintro e1 w1 ⟨rfl, hb1⟩; obtain ⟨hc1, hf1⟩ := bcell hb1; have hz1 := hb1.size; (try simp at hz1)
    have q0 := hc1 w.heap.size 0 (by first | omega | (simp; done) | (simp; omega)); simp [go_sem] at q0
    have lq : w.heap.size < w1.heap.size := by first | omega | (simp; done) | (simp; omega)
    go_wp2
    go_ret2
    exact ⟨rfl, by (repeat (first | exact Below.refl _ _ | (with_reducible assumption) | refine Below.drew ?_ | refine Below.drewN' ?_ _ | refine Below.alloc ?_ (by first | omega | (simp; done) | (simp; omega)) _ | refine Below.setCell ?_ (by first | omega | (simp; done) | (simp; omega)) _ | refine Below.then ?_ hb9 (by first | omega | (simp; done) | (simp; omega)) | refine Below.then ?_ hb8 (by first | omega | (simp; done) | (simp; omega)) | refine Below.then ?_ hb7 (by first | omega | (simp; done) | (simp; omega)) | refine Below.then ?_ hb6 (by first | omega | (simp; done) | (simp; omega)) | refine Below.then ?_ hb5 (by first | omega | (simp; done) | (simp; omega)) | refine Below.then ?_ hb4 (by first | omega | (simp; done) | (simp; omega)) | refine Below.then ?_ hb3 (by first | omega | (simp; done) | (simp; omega)) | refine Below.then ?_ hb2 (by first | omega | (simp; done) | (simp; omega)) | refine Below.then ?_ hb1 (by first | omega | (simp; done) | (simp; omega))))⟩
  · have e1 : (ofE ss i == 0) = true := by simp [he]
    have e2 : kindK ss i f = 0 := by unfold kindK; rw [if_neg (by rw [hk]; decide)]
    rw [he] at hof
    rw [hk, e2]
    have HO := Lib.hid hof
    clear hof e1 e2 he hk
    go_enter Try.func170, Try.ntmps170
    go_wp2_with fail
    refine (HO.out _ (HS.out.alloc _)).mono ?_; rintro e1 w1 ⟨rfl, hb1⟩; obtain ⟨hc1, hf1⟩ := bcell hb1; have hz1 := hb1.size; (try simp at hz1)
    have q0 := hc1 w.heap.size 0 (by first | omega | (simp; done) | (simp; omega)); simp [go_sem] at q0
    have lq : w.heap.size < w1.heap.size := by first | omega | (simp; done) | (simp; omega)
    go_wp2
    go_ret2
    exact ⟨rfl, by (repeat (first | exact Below.refl _ _ | (with_reducible assumption) | refine Below.drew ?_ | refine Below.drewN' ?_ _ | refine Below.alloc ?_ (by first | omega | (simp; done) | (simp; omega)) _ | refine Below.setCell ?_ (by first | omega | (simp; done) | (simp; omega)) _ | refine Below.then ?_ hb9 (by first | omega | (simp; done) | (simp; omega)) | refine Below.then ?_ hb8 (by first | omega | (simp; done) | (simp; omega)) | refine Below.then ?_ hb7 (by first | omega | (simp; done) | (simp; omega)) | refine Below.then ?_ hb6 (by first | omega | (simp; done) | (simp; omega)) | refine Below.then ?_ hb5 (by first | omega | (simp; done) | (simp; omega)) | refine Below.then ?_ hb4 (by first | omega | (simp; done) | (simp; omega)) | refine Below.then ?_ hb3 (by first | omega | (simp; done) | (simp; omega)) | refine Below.then ?_ hb2 (by first | omega | (simp; done) | (simp; omega)) | refine Below.then ?_ hb1 (by first | omega | (simp; done) | (simp; omega))))⟩
  · have e2 : kindK ss i f = 0 := by unfold kindK; rw [if_neg (by rw [hk]; decide)]
    rw [he] at hof
    rw [hk, e2]
    have HO := Lib.hid hof
    clear hof e2 he hk
    go_enter Try.func170, Try.ntmps170
    go_wp2_with fail
    refine (HO.out _ (HS.out.alloc _)).mono ?_; rintro e1 w1 ⟨rfl, hb1⟩; obtain ⟨hc1, hf1⟩ := bcell hb1; have hz1 := hb1.size; (try simp at hz1)
    have q0 := hc1 w.heap.size 0 (by first | omega | (simp; done) | (simp; omega)); simp [go_sem] at q0
    have lq : w.heap.size < w1.heap.size := by first | omega | (simp; done) | (simp; omega)
    go_wp2
    go_ret2
    exact ⟨rfl, by (repeat (first | exact Below.refl _ _ | (with_reducible assumption) | refine Below.drew ?_ | refine Below.drewN' ?_ _ | refine Below.alloc ?_ (by first | omega | (simp; done) | (simp; omega)) _ | refine Below.setCell ?_ (by first | omega | (simp; done) | (simp; omega)) _ | refine Below.then ?_ hb9 (by first | omega | (simp; done) | (simp; omega)) | refine Below.then ?_ hb8 (by first | omega | (simp; done) | (simp; omega)) | refine Below.then ?_ hb7 (by first | omega | (simp; done) | (simp; omega)) | refine Below.then ?_ hb6 (by first | omega | (simp; done) | (simp; omega)) | refine Below.then ?_ hb5 (by first | omega | (simp; done) | (simp; omega)) | refine Below.then ?_ hb4 (by first | omega | (simp; done) | (simp; omega)) | refine Below.then ?_ hb3 (by first | omega | (simp; done) | (simp; omega)) | refine Below.then ?_ hb2 (by first | omega | (simp; done) | (simp; omega)) | refine Below.then ?_ hb1 (by first | omega | (simp; done) | (simp; omega))))⟩
  · obtain ⟨k, rfl⟩ := Int.eq_ofNat_of_zero_le h0
    have hks : k < (ofS ss i).size := by omega
    have e2 : kindK ss i k = letterK (byteAt (ofS ss i) k) := by unfold kindK; rw [if_pos hk]; simp
    have hfn := fun B C w hB hC hb hc => kindFn_calls (ofS ss i) k hks B C w hB hC hb hc
    rw [he] at hof
    rw [hk, e2]
    have HO := Lib.hid hof
    have HF := Lib.hid hfn
    clear hof e2 he hk hfn
    go_enter Try.func170, Try.ntmps170
    go_wp2_with fail
    refine (HO.out _ (HS.out.alloc _)).mono ?_; rintro e1 w1 ⟨rfl, hb1⟩; obtain ⟨hc1, hf1⟩ := bcell hb1; have hz1 := hb1.size; (try simp at hz1)
    have q0 := hc1 w.heap.size 0 (by first | omega | (simp; done) | (simp; omega)); simp [go_sem] at q0
    have lq : w.heap.size < w1.heap.size := by first | omega | (simp; done) | (simp; omega)
    go_wp2_with (go_at_call 176; go_in)
    refine (HF.out w1.heap.size w.heap.size _ (by simp) (by simp; omega) (by simp) (by simp [q0, World.cell?_alloc_lt, lq])).mono ?_; rintro e2 w2 ⟨rfl, hb2⟩; obtain ⟨hc2, hf2⟩ := bcell hb2; have hz2 := hb2.size; (try simp at hz2)
    go_wp2
    go_ret2
    exact ⟨rfl, by (repeat (first | exact Below.refl _ _ | (with_reducible assumption) | refine Below.drew ?_ | refine Below.drewN' ?_ _ | refine Below.alloc ?_ (by first | omega | (simp; done) | (simp; omega)) _ | refine Below.setCell ?_ (by first | omega | (simp; done) | (simp; omega)) _ | refine Below.then ?_ hb9 (by first | omega | (simp; done) | (simp; omega)) | refine Below.then ?_ hb8 (by first | omega | (simp; done) | (simp; omega)) | refine Below.then ?_ hb7 (by first | omega | (simp; done) | (simp; omega)) | refine Below.then ?_ hb6 (by first | omega | (simp; done) | (simp; omega)) | refine Below.then ?_ hb5 (by first | omega | (simp; done) | (simp; omega)) | refine Below.then ?_ hb4 (by first | omega | (simp; done) | (simp; omega)) | refine Below.then ?_ hb3 (by first | omega | (simp; done) | (simp; omega)) | refine Below.then ?_ hb2 (by first | omega | (simp; done) | (simp; omega)) | refine Below.then ?_ hb1 (by first | omega | (simp; done) | (simp; omega))))⟩

set_option maxHeartbeats 800000 in
theorem is_calls (a : Option Addr) (c : Nat) (ss : List ByteArray) (i f k : Int) (hn : ss.length ≤ maxLen) (w : World) (h : SlOf w a (strV ss)) :
    Calls Try.prog 139 #[.slice a ss.length c, .int .i64 i, .int .i64 f, .int .i64 k] w fun e w' => e = .returned (.int .i64 (isE ss i f k)) ∧ Below w.heap.size w w' := by
  have HS := Lib.hid h
  have hkc := fun w h => kind_calls a c ss i f hn w h
  clear h
  by_cases he : kindE ss i f = 0
  · by_cases hk : kindK ss i f = k
    · have e1 : isE ss i f k = 0 := by unfold isE; rw [if_pos he, if_pos hk]
      rw [he, hk] at hkc
      rw [e1]
      have HK := Lib.hid hkc
      clear hkc e1 he hk
      go_enter Try.func139, Try.ntmps139
      go_wp2_with fail
      refine (HK.out _ HS.out).mono ?_; rintro e1 w1 ⟨rfl, hb1⟩; obtain ⟨hc1, hf1⟩ := bcell hb1; have hz1 := hb1.size; (try simp at hz1)
      go_wp2
      go_ret
      exact ⟨rfl, by (repeat (first | exact Below.refl _ _ | (with_reducible assumption) | refine Below.drew ?_ | refine Below.drewN' ?_ _ | refine Below.alloc ?_ (by first | omega | (simp; done) | (simp; omega)) _ | refine Below.setCell ?_ (by first | omega | (simp; done) | (simp; omega)) _ | refine Below.then ?_ hb9 (by first | omega | (simp; done) | (simp; omega)) | refine Below.then ?_ hb8 (by first | omega | (simp; done) | (simp; omega)) | refine Below.then ?_ hb7 (by first | omega | (simp; done) | (simp; omega)) | refine Below.then ?_ hb6 (by first | omega | (simp; done) | (simp; omega)) | refine Below.then ?_ hb5 (by first | omega | (simp; done) | (simp; omega)) | refine Below.then ?_ hb4 (by first | omega | (simp; done) | (simp; omega)) | refine Below.then ?_ hb3 (by first | omega | (simp; done) | (simp; omega)) | refine Below.then ?_ hb2 (by first | omega | (simp; done) | (simp; omega)) | refine Below.then ?_ hb1 (by first | omega | (simp; done) | (simp; omega))))⟩
    · have e1 : isE ss i f k = 132 := by unfold isE; rw [if_pos he, if_neg hk]
      have hb : (kindK ss i f != k) = true := by simpa using hk
      have hb' : (kindK ss i f == k) = false := by simpa using hk
      rw [he] at hkc
      rw [e1]
      have HK := Lib.hid hkc
      clear hkc e1 he hk
      go_enter Try.func139, Try.ntmps139
      go_wp2_with fail
      refine (HK.out _ HS.out).mono ?_; rintro e1 w1 ⟨rfl, hb1⟩; obtain ⟨hc1, hf1⟩ := bcell hb1; have hz1 := hb1.size; (try simp at hz1)
      go_wp2
      go_ret
      exact ⟨rfl, by (repeat (first | exact Below.refl _ _ | (with_reducible assumption) | refine Below.drew ?_ | refine Below.drewN' ?_ _ | refine Below.alloc ?_ (by first | omega | (simp; done) | (simp; omega)) _ | refine Below.setCell ?_ (by first | omega | (simp; done) | (simp; omega)) _ | refine Below.then ?_ hb9 (by first | omega | (simp; done) | (simp; omega)) | refine Below.then ?_ hb8 (by first | omega | (simp; done) | (simp; omega)) | refine Below.then ?_ hb7 (by first | omega | (simp; done) | (simp; omega)) | refine Below.then ?_ hb6 (by first | omega | (simp; done) | (simp; omega)) | refine Below.then ?_ hb5 (by first | omega | (simp; done) | (simp; omega)) | refine Below.then ?_ hb4 (by first | omega | (simp; done) | (simp; omega)) | refine Below.then ?_ hb3 (by first | omega | (simp; done) | (simp; omega)) | refine Below.then ?_ hb2 (by first | omega | (simp; done) | (simp; omega)) | refine Below.then ?_ hb1 (by first | omega | (simp; done) | (simp; omega))))⟩
  · have e1 : isE ss i f k = kindE ss i f := by unfold isE; rw [if_neg he]
    have hb : (kindE ss i f == 0) = false := by simpa using he
    have hb' : (kindE ss i f != 0) = true := by simpa using he
    rw [e1]
    have HK := Lib.hid hkc
    clear hkc e1 he
    go_enter Try.func139, Try.ntmps139
    go_wp2_with fail
    refine (HK.out _ HS.out).mono ?_; rintro e1 w1 ⟨rfl, hb1⟩; obtain ⟨hc1, hf1⟩ := bcell hb1; have hz1 := hb1.size; (try simp at hz1)
    go_wp2
    go_ret
    exact ⟨rfl, by (repeat (first | exact Below.refl _ _ | (with_reducible assumption) | refine Below.drew ?_ | refine Below.drewN' ?_ _ | refine Below.alloc ?_ (by first | omega | (simp; done) | (simp; omega)) _ | refine Below.setCell ?_ (by first | omega | (simp; done) | (simp; omega)) _ | refine Below.then ?_ hb9 (by first | omega | (simp; done) | (simp; omega)) | refine Below.then ?_ hb8 (by first | omega | (simp; done) | (simp; omega)) | refine Below.then ?_ hb7 (by first | omega | (simp; done) | (simp; omega)) | refine Below.then ?_ hb6 (by first | omega | (simp; done) | (simp; omega)) | refine Below.then ?_ hb5 (by first | omega | (simp; done) | (simp; omega)) | refine Below.then ?_ hb4 (by first | omega | (simp; done) | (simp; omega)) | refine Below.then ?_ hb3 (by first | omega | (simp; done) | (simp; omega)) | refine Below.then ?_ hb2 (by first | omega | (simp; done) | (simp; omega)) | refine Below.then ?_ hb1 (by first | omega | (simp; done) | (simp; omega))))⟩

end Go.Proofs.Ytafenndokmccoaa
