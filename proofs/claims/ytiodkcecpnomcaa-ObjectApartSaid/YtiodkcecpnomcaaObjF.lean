/- The layer 'object': Read, where it gives up. -/
import Derived.Test.YtiodkcecpnomcaaObjE
import Derived.Test.YtiodkcecpnomcaaEq
namespace Go.Proofs.Ytiodkcecpnomcaa
open Go.RowKit
set_option linter.unusedVariables false
set_option linter.unusedSimpArgs false

set_option maxRecDepth 100000 in
set_option maxHeartbeats 800000 in
theorem read_of (pa : Option Addr) (t sp : Int) (a : Option Addr) (c n : Nat) (at_ m : Int) (w : World) (h : ∀ W, Below w.heap.size w W → Calls Try.prog 30 #[.pointer pa, .agg #[.int .i64 t, .int .i64 sp, .slice a n c]] W fun e w' => e = .panicked (up m) ∧ Below W.heap.size W w') :
    Calls Try.prog 18 #[.pointer pa, .agg #[.int .i64 t, .int .i64 sp, .slice a n c], .int .i64 at_] w fun e w' => e = .returned (.tuple #[objV 0 0 0 0 none 0 0, .int .i64 m]) ∧ Below w.heap.size w w' := by
  have H := Lib.hid h
  clear h
  unfold objV
  go_enter_defers Try.func18, Try.ntmps18
  go_wp2_with fail
  refine (H.out _ ?hbel).mono ?_
  case hbel => (repeat (first | exact Below.refl _ _ | (with_reducible assumption) | refine Below.drew ?_ | refine Below.drewN' ?_ _ | refine Below.alloc ?_ (by first | omega | (simp; done) | (simp; omega)) _ | refine Below.setCell ?_ (by first | omega | (simp; done) | (simp; omega)) _ | refine Below.then ?_ hb9 (by first | omega | (simp; done) | (simp; omega)) | refine Below.then ?_ hb8 (by first | omega | (simp; done) | (simp; omega)) | refine Below.then ?_ hb7 (by first | omega | (simp; done) | (simp; omega)) | refine Below.then ?_ hb6 (by first | omega | (simp; done) | (simp; omega)) | refine Below.then ?_ hb5 (by first | omega | (simp; done) | (simp; omega)) | refine Below.then ?_ hb4 (by first | omega | (simp; done) | (simp; omega)) | refine Below.then ?_ hb3 (by first | omega | (simp; done) | (simp; omega)) | refine Below.then ?_ hb2 (by first | omega | (simp; done) | (simp; omega)) | refine Below.then ?_ hb1 (by first | omega | (simp; done) | (simp; omega))))
  rintro e1 w1 ⟨rfl, hb1⟩
  obtain ⟨hc1, hf1⟩ := bcell hb1
  have hz1 := hb1.size
  (try simp at hz1)
  have o0 := hc1 (w.heap.size + 1) 0 (by first | omega | (simp; done) | (simp; omega)); simp [go_sem] at o0
  have o1 := hc1 (w.heap.size + 1) 1 (by first | omega | (simp; done) | (simp; omega)); simp [go_sem] at o1
  have o2 := hc1 (w.heap.size + 1) 2 (by first | omega | (simp; done) | (simp; omega)); simp [go_sem] at o2
  have o3 := hc1 (w.heap.size + 1) 3 (by first | omega | (simp; done) | (simp; omega)); simp [go_sem] at o3
  have o4 := hc1 (w.heap.size + 1) 4 (by first | omega | (simp; done) | (simp; omega)); simp [go_sem] at o4
  have e0 := hc1 (w.heap.size + 2) 0 (by first | omega | (simp; done) | (simp; omega)); simp [go_sem] at e0
  have z0 := hf1 (w.heap.size + 2) 0 (by first | omega | (simp; done) | (simp; omega)); simp [go_sem] at z0
  go_wp2
  refine leaves_cons (f := 29) (args := #[.pointer (some ⟨w.heap.size + 1 + 1, 0, none⟩)]) (by simp) (by simp [go_sem]) ?_
  refine (caught_up (w.heap.size + 1 + 1) 0 m [] w1 e0 z0).mono ?_
  rintro e u' w'' ⟨rfl, rfl, rfl⟩
  have e1 := cell_put w1 ⟨w.heap.size + 1 + 1, 0, none⟩ (.int .i64 m) (by rw [e0]; rfl)
  have k1 : ∀ o, (w1.setCell ⟨w.heap.size + 1 + 1, 0, none⟩ (.int .i64 m)).cell? ⟨w.heap.size + 1, o, none⟩ = w1.cell? ⟨w.heap.size + 1, o, none⟩ := fun o => cell_blk _ _ _ _ _ _ (by omega)
  simp [Leaves, settle, results, Try.results18, go_sem, e1, k1, o0, o1, o2, o3, o4]
  (repeat (first | exact Below.refl _ _ | (with_reducible assumption) | refine Below.drew ?_ | refine Below.drewN' ?_ _ | refine Below.alloc ?_ (by first | omega | (simp; done) | (simp; omega)) _ | refine Below.setCell ?_ (by first | omega | (simp; done) | (simp; omega)) _ | refine Below.then ?_ hb9 (by first | omega | (simp; done) | (simp; omega)) | refine Below.then ?_ hb8 (by first | omega | (simp; done) | (simp; omega)) | refine Below.then ?_ hb7 (by first | omega | (simp; done) | (simp; omega)) | refine Below.then ?_ hb6 (by first | omega | (simp; done) | (simp; omega)) | refine Below.then ?_ hb5 (by first | omega | (simp; done) | (simp; omega)) | refine Below.then ?_ hb4 (by first | omega | (simp; done) | (simp; omega)) | refine Below.then ?_ hb3 (by first | omega | (simp; done) | (simp; omega)) | refine Below.then ?_ hb2 (by first | omega | (simp; done) | (simp; omega)) | refine Below.then ?_ hb1 (by first | omega | (simp; done) | (simp; omega))))

set_option maxRecDepth 100000 in
set_option maxHeartbeats 800000 in
theorem read_st (p b : Nat) (l : List Int) (t sp : Int) (a : Option Addr) (c : Nat) (ss : List ByteArray) (at_ m : Int) (w : World) (h : PIn w p b l t sp a ss)
    (hs : ∀ B W, HIn W p b l B a ss → Calls Try.prog 31 #[heapV t sp a ss.length c B, .int .i64 at_] W fun e w' => e = .panicked (up m) ∧ Below W.heap.size W w') :
    Calls Try.prog 18 #[.pointer (some ⟨p, 0, none⟩), .agg #[.int .i64 t, .int .i64 sp, .slice a ss.length c], .int .i64 at_] w fun e w' => e = .returned (.tuple #[objV 0 0 0 0 none 0 0, .int .i64 m]) ∧ Below w.heap.size w w' := by
  have H := Lib.hid (fun W (h : PIn W p b l t sp a ss) => h.of c W)
  have S := Lib.hid hs
  have HP := Lib.hid h
  clear h hs
  unfold heapV at H S
  unfold objV
  go_enter_defers Try.func18, Try.ntmps18
  go_wp2_with fail
  refine (H.out _ (((HP.out.alloc _).alloc _).alloc _)).mono ?_
  rintro e1 w1 ⟨rfl, hi1, hb1⟩
  obtain ⟨hc1, hf1⟩ := bcell hb1
  have hz1 := hb1.size
  (try simp at hz1)
  have o0 := hc1 (w.heap.size + 1) 0 (by first | omega | (simp; done) | (simp; omega)); simp [go_sem] at o0
  have o1 := hc1 (w.heap.size + 1) 1 (by first | omega | (simp; done) | (simp; omega)); simp [go_sem] at o1
  have o2 := hc1 (w.heap.size + 1) 2 (by first | omega | (simp; done) | (simp; omega)); simp [go_sem] at o2
  have o3 := hc1 (w.heap.size + 1) 3 (by first | omega | (simp; done) | (simp; omega)); simp [go_sem] at o3
  have o4 := hc1 (w.heap.size + 1) 4 (by first | omega | (simp; done) | (simp; omega)); simp [go_sem] at o4
  have e0 := hc1 (w.heap.size + 2) 0 (by first | omega | (simp; done) | (simp; omega)); simp [go_sem] at e0
  have z0 := hf1 (w.heap.size + 2) 0 (by first | omega | (simp; done) | (simp; omega)); simp [go_sem] at z0
  have hi1 : HIn w1 p b l (w.heap.size + 1 + 1 + 1) a ss := by simpa using hi1
  go_wp2_with fail
  refine (S.out _ _ (hi1.alloc _)).mono ?_
  rintro e2 w2 ⟨rfl, hb2⟩
  have hz2 := hb2.size
  (try simp at hz2)
  obtain ⟨hc2, hf2⟩ := bcell hb2
  have k2 : ∀ B o, B < w1.heap.size → w2.cell? ⟨B, o, none⟩ = w1.cell? ⟨B, o, none⟩ := fun B o hB => (hc2 B o (by simp; omega)).trans (((Below.refl w1.heap.size w1).alloc (Nat.le_refl _) _).cell (p := ⟨B, o, none⟩) hB)
  have j2 : ∀ B o, B < w1.heap.size → w2.frozen? ⟨B, o, none⟩ = w1.frozen? ⟨B, o, none⟩ := fun B o hB => (hf2 B o (by simp; omega)).trans (((Below.refl w1.heap.size w1).alloc (Nat.le_refl _) _).frozen (p := ⟨B, o, none⟩) hB)
  replace o0 := (k2 _ _ (by omega)).trans o0
  replace o1 := (k2 _ _ (by omega)).trans o1
  replace o2 := (k2 _ _ (by omega)).trans o2
  replace o3 := (k2 _ _ (by omega)).trans o3
  replace o4 := (k2 _ _ (by omega)).trans o4
  replace e0 := (k2 _ _ (by omega)).trans e0
  replace z0 := (j2 _ _ (by omega)).trans z0
  clear k2 j2 hc2 hf2
  go_wp2
  refine leaves_cons (f := 29) (args := #[.pointer (some ⟨w.heap.size + 1 + 1, 0, none⟩)]) (by simp) (by simp [go_sem]) ?_
  refine (caught_up (w.heap.size + 1 + 1) 0 m [] w2 e0 z0).mono ?_
  rintro e u' w'' ⟨rfl, rfl, rfl⟩
  have e1 := cell_put w2 ⟨w.heap.size + 1 + 1, 0, none⟩ (.int .i64 m) (by rw [e0]; rfl)
  have k1 : ∀ o, (w2.setCell ⟨w.heap.size + 1 + 1, 0, none⟩ (.int .i64 m)).cell? ⟨w.heap.size + 1, o, none⟩ = w2.cell? ⟨w.heap.size + 1, o, none⟩ := fun o => cell_blk _ _ _ _ _ _ (by omega)
  simp [Leaves, settle, results, Try.results18, go_sem, e1, k1, o0, o1, o2, o3, o4]
  (repeat (first | exact Below.refl _ _ | (with_reducible assumption) | refine Below.drew ?_ | refine Below.drewN' ?_ _ | refine Below.alloc ?_ (by first | omega | (simp; done) | (simp; omega)) _ | refine Below.setCell ?_ (by first | omega | (simp; done) | (simp; omega)) _ | refine Below.then ?_ hb9 (by first | omega | (simp; done) | (simp; omega)) | refine Below.then ?_ hb8 (by first | omega | (simp; done) | (simp; omega)) | refine Below.then ?_ hb7 (by first | omega | (simp; done) | (simp; omega)) | refine Below.then ?_ hb6 (by first | omega | (simp; done) | (simp; omega)) | refine Below.then ?_ hb5 (by first | omega | (simp; done) | (simp; omega)) | refine Below.then ?_ hb4 (by first | omega | (simp; done) | (simp; omega)) | refine Below.then ?_ hb3 (by first | omega | (simp; done) | (simp; omega)) | refine Below.then ?_ hb2 (by first | omega | (simp; done) | (simp; omega)) | refine Below.then ?_ hb1 (by first | omega | (simp; done) | (simp; omega))))
end Go.Proofs.Ytiodkcecpnomcaa
