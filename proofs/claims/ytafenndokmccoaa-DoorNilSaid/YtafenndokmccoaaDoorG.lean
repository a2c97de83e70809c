/- The layer 'door': a machine is made; threads' states at first. -/
import Derived.Test.YtafenndokmccoaaDoorF
namespace Go.Proofs.Ytafenndokmccoaa
open Go.RowKit
set_option linter.unusedVariables false
set_option linter.unusedSimpArgs false

def newB (x : ThN) (t sp : Int) (ss : List ByteArray) (o : OpN) : Bool := fieldB o.k && thB x t sp ss
theorem thB_plan {x : ThN} {t sp : Int} {ss : List ByteArray} (h : thB x t sp ss = true) : planB t sp ss = true := by
  unfold thB rb1 at h
  simp only [Bool.and_eq_true, beq_iff_eq] at h
  have := h.1
  unfold placeE at this
  by_cases hp : planB t sp ss = true
  · exact hp
  · rw [if_neg hp] at this; cases this

set_option maxRecDepth 100000 in
set_option maxHeartbeats 3200000 in
theorem dNew_calls (x : ThN) (hx : ThOk x) (t sp : Int) (a : Option Addr) (c : Nat) (ss : List ByteArray) (hn : ss.length ≤ maxLen) (o : OpN) (w : World) (hs : SlOf w a (strV ss)) :
    Calls Try.prog 73 #[.agg #[.int .i64 t, .int .i64 sp, .slice a ss.length c], thV x, opVal o] w fun r w' =>
      (if newB x t sp ss o = true then ∃ p, r = .returned (.tuple #[.pointer (some ⟨p, 0, none⟩), .int .i64 0]) ∧ w.heap.size ≤ p ∧ DoM w' p x t sp a ss c o 0 0 0 0 else r = .returned (.tuple #[.pointer none, .int .i64 2])) ∧ Below w.heap.size w w' := by
  have hF := fun W => field_calls o W
  have hR := fun W h => dRight_calls x t sp a c ss hn hx W h
  unfold newB
  unfold opVal at hF
  unfold stA at hR
  unfold thV thA opVal
  cases hfb : fieldB o.k with
  | false =>
    rw [hfb] at hF
    simp only [Bool.false_and, Bool.false_eq_true, if_false]
    generalize fieldK o.k = fk at hF
    have HF := Lib.hid hF
    clear hF hR hs hfb hx
    go_enter Try.func73, Try.ntmps73
    go_wp2_with fail
    refine (HF.out _).mono ?_; rintro e1 w1 ⟨rfl, hb1⟩; have hz1 := hb1.size; (try simp at hz1)
    go_wp2
    go_ret2
    exact ⟨rfl, by (repeat (first | exact Below.refl _ _ | (with_reducible assumption) | refine Below.drew ?_ | refine Below.drewN' ?_ _ | refine Below.alloc ?_ (by first | omega | (simp; done) | (simp; omega)) _ | refine Below.setCell ?_ (by first | omega | (simp; done) | (simp; omega)) _ | refine Below.then ?_ hb9 (by first | omega | (simp; done) | (simp; omega)) | refine Below.then ?_ hb8 (by first | omega | (simp; done) | (simp; omega)) | refine Below.then ?_ hb7 (by first | omega | (simp; done) | (simp; omega)) | refine Below.then ?_ hb6 (by first | omega | (simp; done) | (simp; omega)) | refine Below.then ?_ hb5 (by first | omega | (simp; done) | (simp; omega)) | refine Below.then ?_ hb4 (by first | omega | (simp; done) | (simp; omega)) | refine Below.then ?_ hb3 (by first | omega | (simp; done) | (simp; omega)) | refine Below.then ?_ hb2 (by first | omega | (simp; done) | (simp; omega)) | refine Below.then ?_ hb1 (by first | omega | (simp; done) | (simp; omega))))⟩
  | true =>
    rw [hfb] at hF
    rw [Bool.true_and]
    generalize fieldK o.k = fk at hF
    cases hth : thB x t sp ss with
    | false =>
      rw [hth] at hR
      simp only [Bool.false_eq_true, if_false]
      have HF := Lib.hid hF
      have HR := Lib.hid hR
      have HS := Lib.hid hs
      clear hF hR hs hfb hx hth
      go_enter Try.func73, Try.ntmps73
      go_wp2_with fail
      refine (HF.out _).mono ?_; rintro e1 w1 ⟨rfl, hb1⟩; have hz1 := hb1.size; (try simp at hz1)
      have hS1 : SlOf w1 a (strV ss) := HS.out.below (show Below w.heap.size w w1 from by (repeat (first | exact Below.refl _ _ | (with_reducible assumption) | refine Below.drew ?_ | refine Below.drewN' ?_ _ | refine Below.alloc ?_ (by first | omega | (simp; done) | (simp; omega)) _ | refine Below.setCell ?_ (by first | omega | (simp; done) | (simp; omega)) _ | refine Below.then ?_ hb9 (by first | omega | (simp; done) | (simp; omega)) | refine Below.then ?_ hb8 (by first | omega | (simp; done) | (simp; omega)) | refine Below.then ?_ hb7 (by first | omega | (simp; done) | (simp; omega)) | refine Below.then ?_ hb6 (by first | omega | (simp; done) | (simp; omega)) | refine Below.then ?_ hb5 (by first | omega | (simp; done) | (simp; omega)) | refine Below.then ?_ hb4 (by first | omega | (simp; done) | (simp; omega)) | refine Below.then ?_ hb3 (by first | omega | (simp; done) | (simp; omega)) | refine Below.then ?_ hb2 (by first | omega | (simp; done) | (simp; omega)) | refine Below.then ?_ hb1 (by first | omega | (simp; done) | (simp; omega)))))
      go_wp2_with fail
      refine (HR.out _ hS1).mono ?_; rintro e2 w2 ⟨rfl, hb2⟩; have hz2 := hb2.size; (try simp at hz2)
      go_wp2
      go_ret2
      exact ⟨rfl, by (repeat (first | exact Below.refl _ _ | (with_reducible assumption) | refine Below.drew ?_ | refine Below.drewN' ?_ _ | refine Below.alloc ?_ (by first | omega | (simp; done) | (simp; omega)) _ | refine Below.setCell ?_ (by first | omega | (simp; done) | (simp; omega)) _ | refine Below.then ?_ hb9 (by first | omega | (simp; done) | (simp; omega)) | refine Below.then ?_ hb8 (by first | omega | (simp; done) | (simp; omega)) | refine Below.then ?_ hb7 (by first | omega | (simp; done) | (simp; omega)) | refine Below.then ?_ hb6 (by first | omega | (simp; done) | (simp; omega)) | refine Below.then ?_ hb5 (by first | omega | (simp; done) | (simp; omega)) | refine Below.then ?_ hb4 (by first | omega | (simp; done) | (simp; omega)) | refine Below.then ?_ hb3 (by first | omega | (simp; done) | (simp; omega)) | refine Below.then ?_ hb2 (by first | omega | (simp; done) | (simp; omega)) | refine Below.then ?_ hb1 (by first | omega | (simp; done) | (simp; omega))))⟩
    | true =>
      rw [hth] at hR
      simp only [if_true]
      have HF := Lib.hid hF
      have HR := Lib.hid hR
      have HS := Lib.hid hs
      clear hF hR hs hfb hx hth
      go_enter Try.func73, Try.ntmps73
      go_wp2_with fail
      have hz0 : ((((w.alloc (.cells #[.int .i64 t, .int .i64 sp, .slice a ss.length c] 24)).alloc (.cells #[.int .i64 x.n, .int .i64 x.ph, .int .i64 x.ep, .int .i64 x.s, .int .i64 x.ls, .int .i64 x.la, .int .i64 x.ll, .int .u64 x.r0, .int .u64 x.r1, .int .u64 x.r2, .int .u64 x.r3, .int .u64 x.r4, .int .u64 x.r5] 90)).alloc (.cells #[.int .i64 o.k, .int .i64 o.a, .int .i64 o.b, .int .i64 o.c, .int .i64 o.f, .int .i64 o.s, .int .i64 o.x, .int .i64 o.y] 93)).alloc (.cells #[.int .i64 x.n, .int .i64 x.ph, .int .i64 x.ep, .int .i64 x.s, .int .i64 x.ls, .int .i64 x.la, .int .i64 x.ll, .int .u64 x.r0, .int .u64 x.r1, .int .u64 x.r2, .int .u64 x.r3, .int .u64 x.r4, .int .u64 x.r5, .int .i64 t, .int .i64 sp, .slice a ss.length c] 102)).heap.size = w.heap.size + 4 := by simp
      have hs2 : ((w.alloc (.cells #[.int .i64 t, .int .i64 sp, .slice a ss.length c] 24)).alloc (.cells #[.int .i64 x.n, .int .i64 x.ph, .int .i64 x.ep, .int .i64 x.s, .int .i64 x.ls, .int .i64 x.la, .int .i64 x.ll, .int .u64 x.r0, .int .u64 x.r1, .int .u64 x.r2, .int .u64 x.r3, .int .u64 x.r4, .int .u64 x.r5] 90)).heap.size = w.heap.size + 2 := by simp
      have hs3 : (((w.alloc (.cells #[.int .i64 t, .int .i64 sp, .slice a ss.length c] 24)).alloc (.cells #[.int .i64 x.n, .int .i64 x.ph, .int .i64 x.ep, .int .i64 x.s, .int .i64 x.ls, .int .i64 x.la, .int .i64 x.ll, .int .u64 x.r0, .int .u64 x.r1, .int .u64 x.r2, .int .u64 x.r3, .int .u64 x.r4, .int .u64 x.r5] 90)).alloc (.cells #[.int .i64 o.k, .int .i64 o.a, .int .i64 o.b, .int .i64 o.c, .int .i64 o.f, .int .i64 o.s, .int .i64 o.x, .int .i64 o.y] 93)).heap.size = w.heap.size + 3 := by simp
      have OB : ((((w.alloc (.cells #[.int .i64 t, .int .i64 sp, .slice a ss.length c] 24)).alloc (.cells #[.int .i64 x.n, .int .i64 x.ph, .int .i64 x.ep, .int .i64 x.s, .int .i64 x.ls, .int .i64 x.la, .int .i64 x.ll, .int .u64 x.r0, .int .u64 x.r1, .int .u64 x.r2, .int .u64 x.r3, .int .u64 x.r4, .int .u64 x.r5] 90)).alloc (.cells #[.int .i64 o.k, .int .i64 o.a, .int .i64 o.b, .int .i64 o.c, .int .i64 o.f, .int .i64 o.s, .int .i64 o.x, .int .i64 o.y] 93)).alloc (.cells #[.int .i64 x.n, .int .i64 x.ph, .int .i64 x.ep, .int .i64 x.s, .int .i64 x.ls, .int .i64 x.la, .int .i64 x.ll, .int .u64 x.r0, .int .u64 x.r1, .int .u64 x.r2, .int .u64 x.r3, .int .u64 x.r4, .int .u64 x.r5, .int .i64 t, .int .i64 sp, .slice a ss.length c] 102)).heap[w.heap.size + 2]? = some (.cells #[.int .i64 o.k, .int .i64 o.a, .int .i64 o.b, .int .i64 o.c, .int .i64 o.f, .int .i64 o.s, .int .i64 o.x, .int .i64 o.y] 93 (0, 0)) := by rw [← hs2]; exact blk_alloc (MapKept.heap_alloc _ _).1 _
      have SB : ((((w.alloc (.cells #[.int .i64 t, .int .i64 sp, .slice a ss.length c] 24)).alloc (.cells #[.int .i64 x.n, .int .i64 x.ph, .int .i64 x.ep, .int .i64 x.s, .int .i64 x.ls, .int .i64 x.la, .int .i64 x.ll, .int .u64 x.r0, .int .u64 x.r1, .int .u64 x.r2, .int .u64 x.r3, .int .u64 x.r4, .int .u64 x.r5] 90)).alloc (.cells #[.int .i64 o.k, .int .i64 o.a, .int .i64 o.b, .int .i64 o.c, .int .i64 o.f, .int .i64 o.s, .int .i64 o.x, .int .i64 o.y] 93)).alloc (.cells #[.int .i64 x.n, .int .i64 x.ph, .int .i64 x.ep, .int .i64 x.s, .int .i64 x.ls, .int .i64 x.la, .int .i64 x.ll, .int .u64 x.r0, .int .u64 x.r1, .int .u64 x.r2, .int .u64 x.r3, .int .u64 x.r4, .int .u64 x.r5, .int .i64 t, .int .i64 sp, .slice a ss.length c] 102)).heap[w.heap.size + 3]? = some (.cells #[.int .i64 x.n, .int .i64 x.ph, .int .i64 x.ep, .int .i64 x.s, .int .i64 x.ls, .int .i64 x.la, .int .i64 x.ll, .int .u64 x.r0, .int .u64 x.r1, .int .u64 x.r2, .int .u64 x.r3, .int .u64 x.r4, .int .u64 x.r5, .int .i64 t, .int .i64 sp, .slice a ss.length c] 102 (0, 0)) := by rw [← hs3]; exact (MapKept.heap_alloc _ _).1
      clear hs2 hs3
      have hb0 : Below w.heap.size w ((((w.alloc (.cells #[.int .i64 t, .int .i64 sp, .slice a ss.length c] 24)).alloc (.cells #[.int .i64 x.n, .int .i64 x.ph, .int .i64 x.ep, .int .i64 x.s, .int .i64 x.ls, .int .i64 x.la, .int .i64 x.ll, .int .u64 x.r0, .int .u64 x.r1, .int .u64 x.r2, .int .u64 x.r3, .int .u64 x.r4, .int .u64 x.r5] 90)).alloc (.cells #[.int .i64 o.k, .int .i64 o.a, .int .i64 o.b, .int .i64 o.c, .int .i64 o.f, .int .i64 o.s, .int .i64 o.x, .int .i64 o.y] 93)).alloc (.cells #[.int .i64 x.n, .int .i64 x.ph, .int .i64 x.ep, .int .i64 x.s, .int .i64 x.ls, .int .i64 x.la, .int .i64 x.ll, .int .u64 x.r0, .int .u64 x.r1, .int .u64 x.r2, .int .u64 x.r3, .int .u64 x.r4, .int .u64 x.r5, .int .i64 t, .int .i64 sp, .slice a ss.length c] 102)) := by (repeat (first | exact Below.refl _ _ | (with_reducible assumption) | refine Below.drew ?_ | refine Below.drewN' ?_ _ | refine Below.alloc ?_ (by first | omega | (simp; done) | (simp; omega)) _ | refine Below.setCell ?_ (by first | omega | (simp; done) | (simp; omega)) _ | refine Below.then ?_ hb9 (by first | omega | (simp; done) | (simp; omega)) | refine Below.then ?_ hb8 (by first | omega | (simp; done) | (simp; omega)) | refine Below.then ?_ hb7 (by first | omega | (simp; done) | (simp; omega)) | refine Below.then ?_ hb6 (by first | omega | (simp; done) | (simp; omega)) | refine Below.then ?_ hb5 (by first | omega | (simp; done) | (simp; omega)) | refine Below.then ?_ hb4 (by first | omega | (simp; done) | (simp; omega)) | refine Below.then ?_ hb3 (by first | omega | (simp; done) | (simp; omega)) | refine Below.then ?_ hb2 (by first | omega | (simp; done) | (simp; omega)) | refine Below.then ?_ hb1 (by first | omega | (simp; done) | (simp; omega))))
      generalize ((((w.alloc (.cells #[.int .i64 t, .int .i64 sp, .slice a ss.length c] 24)).alloc (.cells #[.int .i64 x.n, .int .i64 x.ph, .int .i64 x.ep, .int .i64 x.s, .int .i64 x.ls, .int .i64 x.la, .int .i64 x.ll, .int .u64 x.r0, .int .u64 x.r1, .int .u64 x.r2, .int .u64 x.r3, .int .u64 x.r4, .int .u64 x.r5] 90)).alloc (.cells #[.int .i64 o.k, .int .i64 o.a, .int .i64 o.b, .int .i64 o.c, .int .i64 o.f, .int .i64 o.s, .int .i64 o.x, .int .i64 o.y] 93)).alloc (.cells #[.int .i64 x.n, .int .i64 x.ph, .int .i64 x.ep, .int .i64 x.s, .int .i64 x.ls, .int .i64 x.la, .int .i64 x.ll, .int .u64 x.r0, .int .u64 x.r1, .int .u64 x.r2, .int .u64 x.r3, .int .u64 x.r4, .int .u64 x.r5, .int .i64 t, .int .i64 sp, .slice a ss.length c] 102)) = W4 at hz0 OB SB hb0 ⊢
      refine (HF.out _).mono ?_; rintro e1 w1 ⟨rfl, hb1⟩
      have OB1 := blk_below OB hb1
      have SB1 := blk_below SB hb1
      have hb01 : Below w.heap.size w w1 := Below.then hb0 hb1 (by omega)
      have hz1 := hb1.size
      clear OB SB hb1 hb0
      go_wp2_with fail
      refine (HR.out _ (HS.out.below hb01)).mono ?_; rintro e2 w2 ⟨rfl, hb2⟩
      have OB2 := blk_below OB1 hb2
      have SB2 := blk_below SB1 hb2
      have hb02 : Below w.heap.size w w2 := Below.then hb01 hb2 (by omega)
      have hz2 := hb2.size
      clear OB1 SB1 hb2 hb01
      have lO := blk_lt OB2
      have lS := blk_lt SB2
      have o0 : w2.cell? ⟨w.heap.size + 2, 0, none⟩ = some (.int .i64 o.k) := blk_cell OB2 0 _ rfl
      have o1 : w2.cell? ⟨w.heap.size + 2, 1, none⟩ = some (.int .i64 o.a) := blk_cell OB2 1 _ rfl
      have o2 : w2.cell? ⟨w.heap.size + 2, 2, none⟩ = some (.int .i64 o.b) := blk_cell OB2 2 _ rfl
      have o3 : w2.cell? ⟨w.heap.size + 2, 3, none⟩ = some (.int .i64 o.c) := blk_cell OB2 3 _ rfl
      have o4 : w2.cell? ⟨w.heap.size + 2, 4, none⟩ = some (.int .i64 o.f) := blk_cell OB2 4 _ rfl
      have o5 : w2.cell? ⟨w.heap.size + 2, 5, none⟩ = some (.int .i64 o.s) := blk_cell OB2 5 _ rfl
      have o6 : w2.cell? ⟨w.heap.size + 2, 6, none⟩ = some (.int .i64 o.x) := blk_cell OB2 6 _ rfl
      have o7 : w2.cell? ⟨w.heap.size + 2, 7, none⟩ = some (.int .i64 o.y) := blk_cell OB2 7 _ rfl
      have s0 : w2.cell? ⟨w.heap.size + 3, 0, none⟩ = some (.int .i64 x.n) := blk_cell SB2 0 _ rfl
      have s1 : w2.cell? ⟨w.heap.size + 3, 1, none⟩ = some (.int .i64 x.ph) := blk_cell SB2 1 _ rfl
      have s2 : w2.cell? ⟨w.heap.size + 3, 2, none⟩ = some (.int .i64 x.ep) := blk_cell SB2 2 _ rfl
      have s3 : w2.cell? ⟨w.heap.size + 3, 3, none⟩ = some (.int .i64 x.s) := blk_cell SB2 3 _ rfl
      have s4 : w2.cell? ⟨w.heap.size + 3, 4, none⟩ = some (.int .i64 x.ls) := blk_cell SB2 4 _ rfl
      have s5 : w2.cell? ⟨w.heap.size + 3, 5, none⟩ = some (.int .i64 x.la) := blk_cell SB2 5 _ rfl
      have s6 : w2.cell? ⟨w.heap.size + 3, 6, none⟩ = some (.int .i64 x.ll) := blk_cell SB2 6 _ rfl
      have s7 : w2.cell? ⟨w.heap.size + 3, 7, none⟩ = some (.int .u64 x.r0) := blk_cell SB2 7 _ rfl
      have s8 : w2.cell? ⟨w.heap.size + 3, 8, none⟩ = some (.int .u64 x.r1) := blk_cell SB2 8 _ rfl
      have s9 : w2.cell? ⟨w.heap.size + 3, 9, none⟩ = some (.int .u64 x.r2) := blk_cell SB2 9 _ rfl
      have s10 : w2.cell? ⟨w.heap.size + 3, 10, none⟩ = some (.int .u64 x.r3) := blk_cell SB2 10 _ rfl
      have s11 : w2.cell? ⟨w.heap.size + 3, 11, none⟩ = some (.int .u64 x.r4) := blk_cell SB2 11 _ rfl
      have s12 : w2.cell? ⟨w.heap.size + 3, 12, none⟩ = some (.int .u64 x.r5) := blk_cell SB2 12 _ rfl
      have s13 : w2.cell? ⟨w.heap.size + 3, 13, none⟩ = some (.int .i64 t) := blk_cell SB2 13 _ rfl
      have s14 : w2.cell? ⟨w.heap.size + 3, 14, none⟩ = some (.int .i64 sp) := blk_cell SB2 14 _ rfl
      have s15 : w2.cell? ⟨w.heap.size + 3, 15, none⟩ = some (.slice a ss.length c) := blk_cell SB2 15 _ rfl
      clear OB2 SB2
      go_wp2
      go_ret2
      exact ⟨⟨_, rfl, by omega, ⟨(MapKept.heap_alloc w2 _).1, fun _ => ⟨rfl, rfl, rfl⟩, fun h => (by cases h), Nat.zero_le _⟩⟩, by (repeat (first | exact Below.refl _ _ | (with_reducible assumption) | refine Below.drew ?_ | refine Below.drewN' ?_ _ | refine Below.alloc ?_ (by first | omega | (simp; done) | (simp; omega)) _ | refine Below.setCell ?_ (by first | omega | (simp; done) | (simp; omega)) _ | refine Below.then ?_ hb9 (by first | omega | (simp; done) | (simp; omega)) | refine Below.then ?_ hb8 (by first | omega | (simp; done) | (simp; omega)) | refine Below.then ?_ hb7 (by first | omega | (simp; done) | (simp; omega)) | refine Below.then ?_ hb6 (by first | omega | (simp; done) | (simp; omega)) | refine Below.then ?_ hb5 (by first | omega | (simp; done) | (simp; omega)) | refine Below.then ?_ hb4 (by first | omega | (simp; done) | (simp; omega)) | refine Below.then ?_ hb3 (by first | omega | (simp; done) | (simp; omega)) | refine Below.then ?_ hb2 (by first | omega | (simp; done) | (simp; omega)) | refine Below.then ?_ hb1 (by first | omega | (simp; done) | (simp; omega))))⟩
end Go.Proofs.Ytafenndokmccoaa
