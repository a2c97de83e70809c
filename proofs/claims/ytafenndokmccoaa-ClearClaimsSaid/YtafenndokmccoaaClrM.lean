/- The law of layer 'wipe': the words that a machine that is alone leaves. -/
import Derived.Test.YtafenndokmccoaaClrK
import Derived.Test.YtafenndokmccoaaClrL
import Derived.Test.YtafenndokmccoaaLiftKit
import Derived.Deep.AppendLies
namespace Go.Proofs.Ytafenndokmccoaa
open Go.RowKit
set_option linter.unusedVariables false
set_option linter.unusedSimpArgs false

set_option maxHeartbeats 1600000 in
theorem rfTurn_calls (s l h o high : Int) (w : World) : Calls Try.prog 33 #[.agg #[.int .i64 s, .int .i64 l, .int .i64 h, .int .i64 o], .int .i64 high] w fun e w' =>
    e = .returned (.tuple #[.agg #[.int .i64 (tuV s l h o high (1 - s)), .int .i64 (tuV s l h o high o), .int .i64 (tuV s l h o high high), .int .i64 0], .int .i64 (tuE s l h o high)]) ∧ Below w.heap.size w w' := by
  have HR := fun W => rfRight_calls s l h o W
  cases hb : frB s l h o with
  | false =>
    rw [hb] at HR
    have e1 : tuE s l h o high = 2 := by unfold tuE; rw [hb]; rfl
    unfold tuV
    rw [e1]
    simp only [show ¬ ((2 : Int) = 0) by decide, if_false]
    have HR := Lib.hid HR
    clear e1 hb
    go_enter Try.func33, Try.ntmps33
    go_wp2_with fail
    refine (HR.out _).mono ?_; rintro e1 w1 ⟨rfl, hb1⟩; obtain ⟨hc1, hf1⟩ := bcell hb1; have hz1 := hb1.size; (try simp at hz1)
    have r0 := hc1 (w.heap.size + 1) 0 (by first | omega | (simp; done) | (simp; omega)); simp [go_sem] at r0
    have r1 := hc1 (w.heap.size + 1) 1 (by first | omega | (simp; done) | (simp; omega)); simp [go_sem] at r1
    have r2 := hc1 (w.heap.size + 1) 2 (by first | omega | (simp; done) | (simp; omega)); simp [go_sem] at r2
    have r3 := hc1 (w.heap.size + 1) 3 (by first | omega | (simp; done) | (simp; omega)); simp [go_sem] at r3
    have z0 := hf1 (w.heap.size + 1) 0 (by first | omega | (simp; done) | (simp; omega)); simp [go_sem] at z0
    have z1 := hf1 (w.heap.size + 1) 1 (by first | omega | (simp; done) | (simp; omega)); simp [go_sem] at z1
    have z2 := hf1 (w.heap.size + 1) 2 (by first | omega | (simp; done) | (simp; omega)); simp [go_sem] at z2
    have z3 := hf1 (w.heap.size + 1) 3 (by first | omega | (simp; done) | (simp; omega)); simp [go_sem] at z3
    go_wp2
    exact bodyPost_ret (v := .tuple #[.agg #[.int .i64 0, .int .i64 0, .int .i64 0, .int .i64 0], .int .i64 2]) (by simp [results, Try.results33, go_sem, World.cell?_setCell_same', cell_off, *]) rfl ⟨rfl, by (repeat (first | exact Below.refl _ _ | (with_reducible assumption) | refine Below.drew ?_ | refine Below.drewN' ?_ _ | refine Below.alloc ?_ (by first | omega | (simp; done) | (simp; omega)) _ | refine Below.setCell ?_ (by first | omega | (simp; done) | (simp; omega)) _ | refine Below.then ?_ hb9 (by first | omega | (simp; done) | (simp; omega)) | refine Below.then ?_ hb8 (by first | omega | (simp; done) | (simp; omega)) | refine Below.then ?_ hb7 (by first | omega | (simp; done) | (simp; omega)) | refine Below.then ?_ hb6 (by first | omega | (simp; done) | (simp; omega)) | refine Below.then ?_ hb5 (by first | omega | (simp; done) | (simp; omega)) | refine Below.then ?_ hb4 (by first | omega | (simp; done) | (simp; omega)) | refine Below.then ?_ hb3 (by first | omega | (simp; done) | (simp; omega)) | refine Below.then ?_ hb2 (by first | omega | (simp; done) | (simp; omega)) | refine Below.then ?_ hb1 (by first | omega | (simp; done) | (simp; omega))))⟩
  | true =>
    rw [hb] at HR
    obtain ⟨a, b, c, d, e⟩ := frB_ok hb
    have hw : IntKind.i64.wrap (1 - s) = 1 - s := IntWalk.i64_in _ (by omega)
    by_cases hh : high < o ∨ 4096 < high
    · have e1 : tuE s l h o high = 4 := by unfold tuE; rw [hb, if_pos rfl, if_pos hh]
      unfold tuV
      rw [e1]
      simp only [show ¬ ((4 : Int) = 0) by decide, if_false]
      have HR := Lib.hid HR
      clear e1 hb
      rcases Classical.em (high < o) with hh1 | hh1
      · clear hh
        go_enter Try.func33, Try.ntmps33
        go_wp2_with fail
        refine (HR.out _).mono ?_; rintro e1 w1 ⟨rfl, hb1⟩; obtain ⟨hc1, hf1⟩ := bcell hb1; have hz1 := hb1.size; (try simp at hz1)
        have q0 := hc1 w.heap.size 3 (by first | omega | (simp; done) | (simp; omega)); simp [go_sem] at q0
        have r0 := hc1 (w.heap.size + 1) 0 (by first | omega | (simp; done) | (simp; omega)); simp [go_sem] at r0
        have r1 := hc1 (w.heap.size + 1) 1 (by first | omega | (simp; done) | (simp; omega)); simp [go_sem] at r1
        have r2 := hc1 (w.heap.size + 1) 2 (by first | omega | (simp; done) | (simp; omega)); simp [go_sem] at r2
        have r3 := hc1 (w.heap.size + 1) 3 (by first | omega | (simp; done) | (simp; omega)); simp [go_sem] at r3
        have z0 := hf1 (w.heap.size + 1) 0 (by first | omega | (simp; done) | (simp; omega)); simp [go_sem] at z0
        have z1 := hf1 (w.heap.size + 1) 1 (by first | omega | (simp; done) | (simp; omega)); simp [go_sem] at z1
        have z2 := hf1 (w.heap.size + 1) 2 (by first | omega | (simp; done) | (simp; omega)); simp [go_sem] at z2
        have z3 := hf1 (w.heap.size + 1) 3 (by first | omega | (simp; done) | (simp; omega)); simp [go_sem] at z3
        go_wp2
        exact bodyPost_ret (v := .tuple #[.agg #[.int .i64 0, .int .i64 0, .int .i64 0, .int .i64 0], .int .i64 4]) (by simp [results, Try.results33, go_sem, World.cell?_setCell_same', cell_off, *]) rfl ⟨rfl, by (repeat (first | exact Below.refl _ _ | (with_reducible assumption) | refine Below.drew ?_ | refine Below.drewN' ?_ _ | refine Below.alloc ?_ (by first | omega | (simp; done) | (simp; omega)) _ | refine Below.setCell ?_ (by first | omega | (simp; done) | (simp; omega)) _ | refine Below.then ?_ hb9 (by first | omega | (simp; done) | (simp; omega)) | refine Below.then ?_ hb8 (by first | omega | (simp; done) | (simp; omega)) | refine Below.then ?_ hb7 (by first | omega | (simp; done) | (simp; omega)) | refine Below.then ?_ hb6 (by first | omega | (simp; done) | (simp; omega)) | refine Below.then ?_ hb5 (by first | omega | (simp; done) | (simp; omega)) | refine Below.then ?_ hb4 (by first | omega | (simp; done) | (simp; omega)) | refine Below.then ?_ hb3 (by first | omega | (simp; done) | (simp; omega)) | refine Below.then ?_ hb2 (by first | omega | (simp; done) | (simp; omega)) | refine Below.then ?_ hb1 (by first | omega | (simp; done) | (simp; omega))))⟩
      · have hh2 : 4096 < high := by omega
        clear hh
        go_enter Try.func33, Try.ntmps33
        go_wp2_with fail
        refine (HR.out _).mono ?_; rintro e1 w1 ⟨rfl, hb1⟩; obtain ⟨hc1, hf1⟩ := bcell hb1; have hz1 := hb1.size; (try simp at hz1)
        have q0 := hc1 w.heap.size 3 (by first | omega | (simp; done) | (simp; omega)); simp [go_sem] at q0
        have r0 := hc1 (w.heap.size + 1) 0 (by first | omega | (simp; done) | (simp; omega)); simp [go_sem] at r0
        have r1 := hc1 (w.heap.size + 1) 1 (by first | omega | (simp; done) | (simp; omega)); simp [go_sem] at r1
        have r2 := hc1 (w.heap.size + 1) 2 (by first | omega | (simp; done) | (simp; omega)); simp [go_sem] at r2
        have r3 := hc1 (w.heap.size + 1) 3 (by first | omega | (simp; done) | (simp; omega)); simp [go_sem] at r3
        have z0 := hf1 (w.heap.size + 1) 0 (by first | omega | (simp; done) | (simp; omega)); simp [go_sem] at z0
        have z1 := hf1 (w.heap.size + 1) 1 (by first | omega | (simp; done) | (simp; omega)); simp [go_sem] at z1
        have z2 := hf1 (w.heap.size + 1) 2 (by first | omega | (simp; done) | (simp; omega)); simp [go_sem] at z2
        have z3 := hf1 (w.heap.size + 1) 3 (by first | omega | (simp; done) | (simp; omega)); simp [go_sem] at z3
        go_wp2
        exact bodyPost_ret (v := .tuple #[.agg #[.int .i64 0, .int .i64 0, .int .i64 0, .int .i64 0], .int .i64 4]) (by simp [results, Try.results33, go_sem, World.cell?_setCell_same', cell_off, *]) rfl ⟨rfl, by (repeat (first | exact Below.refl _ _ | (with_reducible assumption) | refine Below.drew ?_ | refine Below.drewN' ?_ _ | refine Below.alloc ?_ (by first | omega | (simp; done) | (simp; omega)) _ | refine Below.setCell ?_ (by first | omega | (simp; done) | (simp; omega)) _ | refine Below.then ?_ hb9 (by first | omega | (simp; done) | (simp; omega)) | refine Below.then ?_ hb8 (by first | omega | (simp; done) | (simp; omega)) | refine Below.then ?_ hb7 (by first | omega | (simp; done) | (simp; omega)) | refine Below.then ?_ hb6 (by first | omega | (simp; done) | (simp; omega)) | refine Below.then ?_ hb5 (by first | omega | (simp; done) | (simp; omega)) | refine Below.then ?_ hb4 (by first | omega | (simp; done) | (simp; omega)) | refine Below.then ?_ hb3 (by first | omega | (simp; done) | (simp; omega)) | refine Below.then ?_ hb2 (by first | omega | (simp; done) | (simp; omega)) | refine Below.then ?_ hb1 (by first | omega | (simp; done) | (simp; omega))))⟩
    · have e1 : tuE s l h o high = 0 := by unfold tuE; rw [hb, if_pos rfl, if_neg hh]
      unfold tuV
      rw [e1]
      simp only [if_true]
      have HR := Lib.hid HR
      have hh1 : ¬ high < o := by omega
      have hh2 : ¬ 4096 < high := by omega
      clear e1 hb hh
      go_enter Try.func33, Try.ntmps33
      go_wp2_with fail
      refine (HR.out _).mono ?_; rintro e1 w1 ⟨rfl, hb1⟩; obtain ⟨hc1, hf1⟩ := bcell hb1; have hz1 := hb1.size; (try simp at hz1)
      have q3 := hc1 w.heap.size 3 (by first | omega | (simp; done) | (simp; omega)); simp [go_sem] at q3
      have q0 := hc1 w.heap.size 0 (by first | omega | (simp; done) | (simp; omega)); simp [go_sem] at q0
      have r0 := hc1 (w.heap.size + 1) 0 (by first | omega | (simp; done) | (simp; omega)); simp [go_sem] at r0
      have r1 := hc1 (w.heap.size + 1) 1 (by first | omega | (simp; done) | (simp; omega)); simp [go_sem] at r1
      have r2 := hc1 (w.heap.size + 1) 2 (by first | omega | (simp; done) | (simp; omega)); simp [go_sem] at r2
      have r3 := hc1 (w.heap.size + 1) 3 (by first | omega | (simp; done) | (simp; omega)); simp [go_sem] at r3
      have z0 := hf1 (w.heap.size + 1) 0 (by first | omega | (simp; done) | (simp; omega)); simp [go_sem] at z0
      have z1 := hf1 (w.heap.size + 1) 1 (by first | omega | (simp; done) | (simp; omega)); simp [go_sem] at z1
      have z2 := hf1 (w.heap.size + 1) 2 (by first | omega | (simp; done) | (simp; omega)); simp [go_sem] at z2
      have z3 := hf1 (w.heap.size + 1) 3 (by first | omega | (simp; done) | (simp; omega)); simp [go_sem] at z3
      go_wp2
      exact bodyPost_ret (v := .tuple #[.agg #[.int .i64 (1 - s), .int .i64 o, .int .i64 high, .int .i64 0], .int .i64 0]) (by simp [results, Try.results33, go_sem, World.cell?_setCell_same', cell_off, *]) rfl ⟨rfl, by (repeat (first | exact Below.refl _ _ | (with_reducible assumption) | refine Below.drew ?_ | refine Below.drewN' ?_ _ | refine Below.alloc ?_ (by first | omega | (simp; done) | (simp; omega)) _ | refine Below.setCell ?_ (by first | omega | (simp; done) | (simp; omega)) _ | refine Below.then ?_ hb9 (by first | omega | (simp; done) | (simp; omega)) | refine Below.then ?_ hb8 (by first | omega | (simp; done) | (simp; omega)) | refine Below.then ?_ hb7 (by first | omega | (simp; done) | (simp; omega)) | refine Below.then ?_ hb6 (by first | omega | (simp; done) | (simp; omega)) | refine Below.then ?_ hb5 (by first | omega | (simp; done) | (simp; omega)) | refine Below.then ?_ hb4 (by first | omega | (simp; done) | (simp; omega)) | refine Below.then ?_ hb3 (by first | omega | (simp; done) | (simp; omega)) | refine Below.then ?_ hb2 (by first | omega | (simp; done) | (simp; omega)) | refine Below.then ?_ hb1 (by first | omega | (simp; done) | (simp; omega))))⟩

/-- a row of words of one's own, of a length and a room -/
def WRw (W : World) (N g cap : Nat) (l : List Int) : Prop := W.ownsRow N 41 1 (.slice (some ⟨g, 0, none⟩) l.length cap) l.length (l.map (fun x => Value.int .u64 x))
theorem WRw.cell {W : World} {N g cap : Nat} {l : List Int} (h : WRw W N g cap l) (i : Nat) (hi : i < l.length) : W.cell? ⟨g, i, none⟩ = some (.int .u64 l[i]) := by
  have := World.ownsRow.cellAt h i (by omega)
  rw [this, List.getElem?_map, List.getElem?_eq_getElem hi]
  rfl
theorem WRw.fz {W : World} {N g cap : Nat} {l : List Int} (h : WRw W N g cap l) (i : Nat) : W.frozen? ⟨g, i, none⟩ = false := World.ownsRow.frozenAt h i
theorem WRw.lt {W : World} {N g cap : Nat} {l : List Int} (h : WRw W N g cap l) : N ≤ g ∧ g < W.heap.size := World.ownsRow.lt h g rfl
theorem WRw.below {W W' : World} {N g cap : Nat} {l : List Int} (h : WRw W N g cap l) (hb : Below W.heap.size W W') : WRw W' N g cap l := World.ownsRow.kept h (grown_of_below hb) (Classical.em _)
set_option maxHeartbeats 6400000 in
set_option maxRecDepth 1000000 in
theorem whole_no (P : CPar) (a : Option Addr) (c : Nat) (hn : Fit P.ss) (fs fl fh fo : Int) (wa : Option Addr) (wc : Nat) (ws : List Int) (hi : Int) (hm : mdB P.t P.sp P.ss fs fl fh fo ws.length = false) (w : World) (hs : SlOf w a (strV P.ss)) :
    Calls Try.prog 6 #[hpV P.t P.sp a P.ss.length c fs fl fh fo wa ws.length wc, .int .i64 hi] w fun e w' => e = .returned (.bool true) ∧ Below w.heap.size w w' := by
  have MD := fun W h => made27_no P.t P.sp a c P.ss hn fs fl fh fo wa ws.length wc hm W h
  have WK := Lib.hid (fun W => works27_calls W)
  unfold hpV at MD
  unfold hpV
  have MD := Lib.hid MD
  have HS := Lib.hid hs
  clear hs hm
  have hX := (MapKept.heap_alloc w (.cells #[.int .i64 P.t, .int .i64 P.sp, .slice a P.ss.length c, .int .i64 fs, .int .i64 fl, .int .i64 fh, .int .i64 fo, .slice wa ws.length wc] 29)).1
  have hb0 : Below w.heap.size w (w.alloc (.cells #[.int .i64 P.t, .int .i64 P.sp, .slice a P.ss.length c, .int .i64 fs, .int .i64 fl, .int .i64 fh, .int .i64 fo, .slice wa ws.length wc] 29)) := by (repeat (first | exact Below.refl _ _ | (with_reducible assumption) | refine Below.drew ?_ | refine Below.drewN' ?_ _ | refine Below.alloc ?_ (by first | omega | (simp; done) | (simp; omega)) _ | refine Below.setCell ?_ (by first | omega | (simp; done) | (simp; omega)) _ | refine Below.then ?_ hb9 (by first | omega | (simp; done) | (simp; omega)) | refine Below.then ?_ hb8 (by first | omega | (simp; done) | (simp; omega)) | refine Below.then ?_ hb7 (by first | omega | (simp; done) | (simp; omega)) | refine Below.then ?_ hb6 (by first | omega | (simp; done) | (simp; omega)) | refine Below.then ?_ hb5 (by first | omega | (simp; done) | (simp; omega)) | refine Below.then ?_ hb4 (by first | omega | (simp; done) | (simp; omega)) | refine Below.then ?_ hb3 (by first | omega | (simp; done) | (simp; omega)) | refine Below.then ?_ hb2 (by first | omega | (simp; done) | (simp; omega)) | refine Below.then ?_ hb1 (by first | omega | (simp; done) | (simp; omega))))
  have hs0 := HS.out.alloc (.cells #[.int .i64 P.t, .int .i64 P.sp, .slice a P.ss.length c, .int .i64 fs, .int .i64 fl, .int .i64 fh, .int .i64 fo, .slice wa ws.length wc] 29)
  go_enter Try.func6, Try.ntmps6
  go_wp2_with fail
  generalize (w.alloc (.cells #[.int .i64 P.t, .int .i64 P.sp, .slice a P.ss.length c, .int .i64 fs, .int .i64 fl, .int .i64 fh, .int .i64 fo, .slice wa ws.length wc] 29)) = WH at hX hb0 hs0 ⊢
  have lh := blk_lt hX
  have q0 : WH.cell? ⟨w.heap.size, 0, none⟩ = some (.int .i64 P.t) := blk_cell hX 0 _ rfl
  have q1 : WH.cell? ⟨w.heap.size, 1, none⟩ = some (.int .i64 P.sp) := blk_cell hX 1 _ rfl
  have q2 : WH.cell? ⟨w.heap.size, 2, none⟩ = some (.slice a P.ss.length c) := blk_cell hX 2 _ rfl
  have q3 : WH.cell? ⟨w.heap.size, 3, none⟩ = some (.int .i64 fs) := blk_cell hX 3 _ rfl
  have q4 : WH.cell? ⟨w.heap.size, 4, none⟩ = some (.int .i64 fl) := blk_cell hX 4 _ rfl
  have q5 : WH.cell? ⟨w.heap.size, 5, none⟩ = some (.int .i64 fh) := blk_cell hX 5 _ rfl
  have q6 : WH.cell? ⟨w.heap.size, 6, none⟩ = some (.int .i64 fo) := blk_cell hX 6 _ rfl
  have q7 : WH.cell? ⟨w.heap.size, 7, none⟩ = some (.slice wa ws.length wc) := blk_cell hX 7 _ rfl
  have HSd := Lib.hid hs0.drew
  have HSe := Lib.hid (fun o => (hs0.alloc o).drew)
  have keepS : ∀ A B : World, Below WH.heap.size A B → A.cell? ⟨w.heap.size, 0, none⟩ = some (.int .i64 P.t) ∧ A.cell? ⟨w.heap.size, 1, none⟩ = some (.int .i64 P.sp) ∧ A.cell? ⟨w.heap.size, 2, none⟩ = some (.slice a P.ss.length c) ∧ A.cell? ⟨w.heap.size, 3, none⟩ = some (.int .i64 fs) ∧ A.cell? ⟨w.heap.size, 4, none⟩ = some (.int .i64 fl) ∧ A.cell? ⟨w.heap.size, 5, none⟩ = some (.int .i64 fh) ∧ A.cell? ⟨w.heap.size, 6, none⟩ = some (.int .i64 fo) ∧ A.cell? ⟨w.heap.size, 7, none⟩ = some (.slice wa ws.length wc) ∧ WH.heap.size ≤ A.heap.size → B.cell? ⟨w.heap.size, 0, none⟩ = some (.int .i64 P.t) ∧ B.cell? ⟨w.heap.size, 1, none⟩ = some (.int .i64 P.sp) ∧ B.cell? ⟨w.heap.size, 2, none⟩ = some (.slice a P.ss.length c) ∧ B.cell? ⟨w.heap.size, 3, none⟩ = some (.int .i64 fs) ∧ B.cell? ⟨w.heap.size, 4, none⟩ = some (.int .i64 fl) ∧ B.cell? ⟨w.heap.size, 5, none⟩ = some (.int .i64 fh) ∧ B.cell? ⟨w.heap.size, 6, none⟩ = some (.int .i64 fo) ∧ B.cell? ⟨w.heap.size, 7, none⟩ = some (.slice wa ws.length wc) ∧ WH.heap.size ≤ B.heap.size := fun A B hb hc => ⟨(hb.cell (p := ⟨w.heap.size, 0, none⟩) lh).trans hc.1, (hb.cell (p := ⟨w.heap.size, 1, none⟩) lh).trans hc.2.1, (hb.cell (p := ⟨w.heap.size, 2, none⟩) lh).trans hc.2.2.1, (hb.cell (p := ⟨w.heap.size, 3, none⟩) lh).trans hc.2.2.2.1, (hb.cell (p := ⟨w.heap.size, 4, none⟩) lh).trans hc.2.2.2.2.1, (hb.cell (p := ⟨w.heap.size, 5, none⟩) lh).trans hc.2.2.2.2.2.1, (hb.cell (p := ⟨w.heap.size, 6, none⟩) lh).trans hc.2.2.2.2.2.2.1, (hb.cell (p := ⟨w.heap.size, 7, none⟩) lh).trans hc.2.2.2.2.2.2.2.1, Nat.le_trans hc.2.2.2.2.2.2.2.2 hb.size⟩
  have keepC := Lib.hid (show ∀ A B : World, Below A.heap.size A B → A.cell? ⟨w.heap.size, 0, none⟩ = some (.int .i64 P.t) ∧ A.cell? ⟨w.heap.size, 1, none⟩ = some (.int .i64 P.sp) ∧ A.cell? ⟨w.heap.size, 2, none⟩ = some (.slice a P.ss.length c) ∧ A.cell? ⟨w.heap.size, 3, none⟩ = some (.int .i64 fs) ∧ A.cell? ⟨w.heap.size, 4, none⟩ = some (.int .i64 fl) ∧ A.cell? ⟨w.heap.size, 5, none⟩ = some (.int .i64 fh) ∧ A.cell? ⟨w.heap.size, 6, none⟩ = some (.int .i64 fo) ∧ A.cell? ⟨w.heap.size, 7, none⟩ = some (.slice wa ws.length wc) ∧ WH.heap.size ≤ A.heap.size → B.cell? ⟨w.heap.size, 0, none⟩ = some (.int .i64 P.t) ∧ B.cell? ⟨w.heap.size, 1, none⟩ = some (.int .i64 P.sp) ∧ B.cell? ⟨w.heap.size, 2, none⟩ = some (.slice a P.ss.length c) ∧ B.cell? ⟨w.heap.size, 3, none⟩ = some (.int .i64 fs) ∧ B.cell? ⟨w.heap.size, 4, none⟩ = some (.int .i64 fl) ∧ B.cell? ⟨w.heap.size, 5, none⟩ = some (.int .i64 fh) ∧ B.cell? ⟨w.heap.size, 6, none⟩ = some (.int .i64 fo) ∧ B.cell? ⟨w.heap.size, 7, none⟩ = some (.slice wa ws.length wc) ∧ WH.heap.size ≤ B.heap.size from fun A B hb hc => keepS A B (hb.mono hc.2.2.2.2.2.2.2.2) hc)
  have keepA := Lib.hid (show ∀ (A : World) (x0 : Obj), A.cell? ⟨w.heap.size, 0, none⟩ = some (.int .i64 P.t) ∧ A.cell? ⟨w.heap.size, 1, none⟩ = some (.int .i64 P.sp) ∧ A.cell? ⟨w.heap.size, 2, none⟩ = some (.slice a P.ss.length c) ∧ A.cell? ⟨w.heap.size, 3, none⟩ = some (.int .i64 fs) ∧ A.cell? ⟨w.heap.size, 4, none⟩ = some (.int .i64 fl) ∧ A.cell? ⟨w.heap.size, 5, none⟩ = some (.int .i64 fh) ∧ A.cell? ⟨w.heap.size, 6, none⟩ = some (.int .i64 fo) ∧ A.cell? ⟨w.heap.size, 7, none⟩ = some (.slice wa ws.length wc) ∧ WH.heap.size ≤ A.heap.size → (A.alloc x0).cell? ⟨w.heap.size, 0, none⟩ = some (.int .i64 P.t) ∧ (A.alloc x0).cell? ⟨w.heap.size, 1, none⟩ = some (.int .i64 P.sp) ∧ (A.alloc x0).cell? ⟨w.heap.size, 2, none⟩ = some (.slice a P.ss.length c) ∧ (A.alloc x0).cell? ⟨w.heap.size, 3, none⟩ = some (.int .i64 fs) ∧ (A.alloc x0).cell? ⟨w.heap.size, 4, none⟩ = some (.int .i64 fl) ∧ (A.alloc x0).cell? ⟨w.heap.size, 5, none⟩ = some (.int .i64 fh) ∧ (A.alloc x0).cell? ⟨w.heap.size, 6, none⟩ = some (.int .i64 fo) ∧ (A.alloc x0).cell? ⟨w.heap.size, 7, none⟩ = some (.slice wa ws.length wc) ∧ WH.heap.size ≤ (A.alloc x0).heap.size from fun A x0 hc => keepS A _ ((Below.refl _ _).alloc hc.2.2.2.2.2.2.2.2 _) hc)
  have keepD := Lib.hid (show WH.drew.cell? ⟨w.heap.size, 0, none⟩ = some (.int .i64 P.t) ∧ WH.drew.cell? ⟨w.heap.size, 1, none⟩ = some (.int .i64 P.sp) ∧ WH.drew.cell? ⟨w.heap.size, 2, none⟩ = some (.slice a P.ss.length c) ∧ WH.drew.cell? ⟨w.heap.size, 3, none⟩ = some (.int .i64 fs) ∧ WH.drew.cell? ⟨w.heap.size, 4, none⟩ = some (.int .i64 fl) ∧ WH.drew.cell? ⟨w.heap.size, 5, none⟩ = some (.int .i64 fh) ∧ WH.drew.cell? ⟨w.heap.size, 6, none⟩ = some (.int .i64 fo) ∧ WH.drew.cell? ⟨w.heap.size, 7, none⟩ = some (.slice wa ws.length wc) ∧ WH.heap.size ≤ WH.drew.heap.size from keepS WH _ (Below.refl _ _).drew ⟨q0, q1, q2, q3, q4, q5, q6, q7, Nat.le_refl _⟩)
  have keepE := Lib.hid (show ∀ (x0 : Obj), (WH.alloc x0).drew.cell? ⟨w.heap.size, 0, none⟩ = some (.int .i64 P.t) ∧ (WH.alloc x0).drew.cell? ⟨w.heap.size, 1, none⟩ = some (.int .i64 P.sp) ∧ (WH.alloc x0).drew.cell? ⟨w.heap.size, 2, none⟩ = some (.slice a P.ss.length c) ∧ (WH.alloc x0).drew.cell? ⟨w.heap.size, 3, none⟩ = some (.int .i64 fs) ∧ (WH.alloc x0).drew.cell? ⟨w.heap.size, 4, none⟩ = some (.int .i64 fl) ∧ (WH.alloc x0).drew.cell? ⟨w.heap.size, 5, none⟩ = some (.int .i64 fh) ∧ (WH.alloc x0).drew.cell? ⟨w.heap.size, 6, none⟩ = some (.int .i64 fo) ∧ (WH.alloc x0).drew.cell? ⟨w.heap.size, 7, none⟩ = some (.slice wa ws.length wc) ∧ WH.heap.size ≤ (WH.alloc x0).drew.heap.size from fun x0 => keepS WH _ ((Below.refl _ _).alloc (Nat.le_refl _) _).drew ⟨q0, q1, q2, q3, q4, q5, q6, q7, Nat.le_refl _⟩)
  have keepT := Lib.hid (show ∀ (A : World) (d : Nat) (v0 v1 v2 : Value), WH.heap.size ≤ d → A.cell? ⟨w.heap.size, 0, none⟩ = some (.int .i64 P.t) ∧ A.cell? ⟨w.heap.size, 1, none⟩ = some (.int .i64 P.sp) ∧ A.cell? ⟨w.heap.size, 2, none⟩ = some (.slice a P.ss.length c) ∧ A.cell? ⟨w.heap.size, 3, none⟩ = some (.int .i64 fs) ∧ A.cell? ⟨w.heap.size, 4, none⟩ = some (.int .i64 fl) ∧ A.cell? ⟨w.heap.size, 5, none⟩ = some (.int .i64 fh) ∧ A.cell? ⟨w.heap.size, 6, none⟩ = some (.int .i64 fo) ∧ A.cell? ⟨w.heap.size, 7, none⟩ = some (.slice wa ws.length wc) ∧ WH.heap.size ≤ A.heap.size → (((A.setCell ⟨d, 0, none⟩ v0).setCell ⟨d, 1, none⟩ v1).setCell ⟨d, 2, none⟩ v2).cell? ⟨w.heap.size, 0, none⟩ = some (.int .i64 P.t) ∧ (((A.setCell ⟨d, 0, none⟩ v0).setCell ⟨d, 1, none⟩ v1).setCell ⟨d, 2, none⟩ v2).cell? ⟨w.heap.size, 1, none⟩ = some (.int .i64 P.sp) ∧ (((A.setCell ⟨d, 0, none⟩ v0).setCell ⟨d, 1, none⟩ v1).setCell ⟨d, 2, none⟩ v2).cell? ⟨w.heap.size, 2, none⟩ = some (.slice a P.ss.length c) ∧ (((A.setCell ⟨d, 0, none⟩ v0).setCell ⟨d, 1, none⟩ v1).setCell ⟨d, 2, none⟩ v2).cell? ⟨w.heap.size, 3, none⟩ = some (.int .i64 fs) ∧ (((A.setCell ⟨d, 0, none⟩ v0).setCell ⟨d, 1, none⟩ v1).setCell ⟨d, 2, none⟩ v2).cell? ⟨w.heap.size, 4, none⟩ = some (.int .i64 fl) ∧ (((A.setCell ⟨d, 0, none⟩ v0).setCell ⟨d, 1, none⟩ v1).setCell ⟨d, 2, none⟩ v2).cell? ⟨w.heap.size, 5, none⟩ = some (.int .i64 fh) ∧ (((A.setCell ⟨d, 0, none⟩ v0).setCell ⟨d, 1, none⟩ v1).setCell ⟨d, 2, none⟩ v2).cell? ⟨w.heap.size, 6, none⟩ = some (.int .i64 fo) ∧ (((A.setCell ⟨d, 0, none⟩ v0).setCell ⟨d, 1, none⟩ v1).setCell ⟨d, 2, none⟩ v2).cell? ⟨w.heap.size, 7, none⟩ = some (.slice wa ws.length wc) ∧ WH.heap.size ≤ (((A.setCell ⟨d, 0, none⟩ v0).setCell ⟨d, 1, none⟩ v1).setCell ⟨d, 2, none⟩ v2).heap.size from fun A d v0 v1 v2 hd hc => keepS A _ (((Below.refl _ _).setCell hd _).setCell hd _ |>.setCell hd _) hc)
  have keepM := Lib.hid (show ∀ (A : World) (x0 x1 : Obj), WH.heap.size ≤ A.heap.size → (A.alloc x0).cell? ⟨w.heap.size, 0, none⟩ = some (.int .i64 P.t) ∧ (A.alloc x0).cell? ⟨w.heap.size, 1, none⟩ = some (.int .i64 P.sp) ∧ (A.alloc x0).cell? ⟨w.heap.size, 2, none⟩ = some (.slice a P.ss.length c) ∧ (A.alloc x0).cell? ⟨w.heap.size, 3, none⟩ = some (.int .i64 fs) ∧ (A.alloc x0).cell? ⟨w.heap.size, 4, none⟩ = some (.int .i64 fl) ∧ (A.alloc x0).cell? ⟨w.heap.size, 5, none⟩ = some (.int .i64 fh) ∧ (A.alloc x0).cell? ⟨w.heap.size, 6, none⟩ = some (.int .i64 fo) ∧ (A.alloc x0).cell? ⟨w.heap.size, 7, none⟩ = some (.slice wa ws.length wc) ∧ WH.heap.size ≤ (A.alloc x0).heap.size → (A.alloc x1).cell? ⟨w.heap.size, 0, none⟩ = some (.int .i64 P.t) ∧ (A.alloc x1).cell? ⟨w.heap.size, 1, none⟩ = some (.int .i64 P.sp) ∧ (A.alloc x1).cell? ⟨w.heap.size, 2, none⟩ = some (.slice a P.ss.length c) ∧ (A.alloc x1).cell? ⟨w.heap.size, 3, none⟩ = some (.int .i64 fs) ∧ (A.alloc x1).cell? ⟨w.heap.size, 4, none⟩ = some (.int .i64 fl) ∧ (A.alloc x1).cell? ⟨w.heap.size, 5, none⟩ = some (.int .i64 fh) ∧ (A.alloc x1).cell? ⟨w.heap.size, 6, none⟩ = some (.int .i64 fo) ∧ (A.alloc x1).cell? ⟨w.heap.size, 7, none⟩ = some (.slice wa ws.length wc) ∧ WH.heap.size ≤ (A.alloc x1).heap.size from fun A x0 x1 hle hc => keepS (A.alloc x0) _ ⟨rfl, rfl, rfl, by simp, fun k hk => by rw [Below.heap_alloc _ _ _ (by omega), Below.heap_alloc _ _ _ (by omega)]⟩ hc)
  clear keepS
  refine Code.wp_mono (Q := fun e ac W => e = Exit.normal ∧ ∃ (X : Nat) , ac = (?frameOfN : Nat → Act) X  ∧ (W.heap[X]? = some (.cells #[.int .i64 P.t, .int .i64 P.sp, .slice a P.ss.length c] 24 (0, 0)) ∧ WH.heap.size ≤ X ∧ Below WH.heap.size WH W)) ?impN ?regN
  case regN =>
    go_region_held3 (fun A => A.cell? ⟨w.heap.size, 0, none⟩ = some (.int .i64 P.t) ∧ A.cell? ⟨w.heap.size, 1, none⟩ = some (.int .i64 P.sp) ∧ A.cell? ⟨w.heap.size, 2, none⟩ = some (.slice a P.ss.length c) ∧ A.cell? ⟨w.heap.size, 3, none⟩ = some (.int .i64 fs) ∧ A.cell? ⟨w.heap.size, 4, none⟩ = some (.int .i64 fl) ∧ A.cell? ⟨w.heap.size, 5, none⟩ = some (.int .i64 fh) ∧ A.cell? ⟨w.heap.size, 6, none⟩ = some (.int .i64 fo) ∧ A.cell? ⟨w.heap.size, 7, none⟩ = some (.slice wa ws.length wc) ∧ WH.heap.size ≤ A.heap.size) (first | (with_reducible exact keepD.out) | (with_reducible exact keepE.out _) | (with_reducible refine keepT.out _ _ _ _ _ ?_ ?_; (first | omega | (simp; omega)); assumption) | (with_reducible refine keepC.out _ _ hb5 ?_; assumption) | (with_reducible refine keepM.out _ _ _ ?_ (by assumption); first | omega | (simp; omega)) | (with_reducible exact keepA.out _ _ (by assumption)) | exact keepD.out) (first | (go_at_call 9; refine (MD.out _ (by first | with_reducible exact HSd.out | with_reducible exact HSe.out _)).mono ?_; rintro e5 w5 ⟨rfl, hb5⟩; have hz5 := hb5.size; (try simp at hz5); (try (have zc := fun j => hb5.cell (p := ⟨WH.heap.size, j, none⟩) (by simp); have zf := fun j => hb5.frozen (p := ⟨WH.heap.size, j, none⟩) (by simp); have zq0 := zc 0; have zq1 := zc 1; have zq2 := zc 2; have zf0 := zf 0; have zf1 := zf 1; have zf2 := zf 2; simp [go_sem] at zq0 zq1 zq2 zf0 zf1 zf2; have zl : WH.heap.size < w5.heap.size := (by omega); clear zc zf))))
    · obtain ⟨X, hX1⟩ : ∃ X, w5.heap.size = X := ⟨_, rfl⟩
      have hB4 : Below WH.heap.size WH (w5.alloc (.cells #[.int .i64 P.t, .int .i64 P.sp, .slice a P.ss.length c] 24)) := ((Below.refl _ _).drew.trans hb5).alloc hz5 _
      refine ⟨rfl, X, ?_, ⟨by rw [← hX1]; exact (MapKept.heap_alloc w5 _).1, by omega, hB4⟩⟩
      rw [hX1]
    · obtain ⟨X, hX1⟩ : ∃ X, WH.heap.size = X := ⟨_, rfl⟩
      have hB3 : Below WH.heap.size WH w5 := ((Below.refl _ _).alloc (Nat.le_refl _) _).drew.trans (hb5.mono (by simp))
      have hB4 := ((hB3.setCell (p := ⟨WH.heap.size, 0, none⟩) (Nat.le_refl _) (.int .i64 P.t)).setCell (p := ⟨WH.heap.size, 1, none⟩) (Nat.le_refl _) (.int .i64 P.sp)).setCell (p := ⟨WH.heap.size, 2, none⟩) (Nat.le_refl _) (.slice a P.ss.length c)
      refine ⟨rfl, X, ?_, ⟨by rw [← hX1]; exact blk_eq (blk_set (blk_set (blk_set (blk_below (blk_drew (MapKept.heap_alloc WH _).1) hb5) 0 _) 1 _) 2 _) rfl, by omega, hB4⟩⟩
      rw [hX1]
  case impN =>
    rintro e ac W6 ⟨rfl, X, rfl, G6, hX6, hb6⟩
    have hb06 : Below w.heap.size w W6 := Below.then hb0 hb6 hb0.size
    have x1 : W6.cell? ⟨X, 1, none⟩ = some (.int .i64 P.sp) := blk_cell G6 1 _ rfl
    go_wp2_with (first | (go_at_call 10; refine (WK.out _).mono ?_; rintro e7 w7 ⟨rfl, hb7⟩; have hz7 := hb7.size; (try simp at hz7)))
    go_ret
    exact ⟨rfl, Below.then hb06 hb7 hb06.size⟩

theorem rng_take {l : List Int} (h : ∀ x ∈ l, 0 ≤ x ∧ x < 18446744073709551616) (n : Nat) : ∀ x ∈ l.take n, 0 ≤ x ∧ x < 18446744073709551616 := fun x hx => h x (List.mem_of_mem_take hx)
theorem rng_set {l : List Int} (h : ∀ x ∈ l, 0 ≤ x ∧ x < 18446744073709551616) (i : Nat) {v : Int} (hv : 0 ≤ v ∧ v < 18446744073709551616) : ∀ x ∈ l.set i v, 0 ≤ x ∧ x < 18446744073709551616 := by
  intro x hx
  rcases List.mem_or_eq_of_mem_set hx with h1 | h1
  · exact h x h1
  · rw [h1]; exact hv
theorem stW_rng (t sp : Int) (s : ByteArray) (hs : s.size ≤ 8) (h4 : sp ≤ 4096) (h0 : 0 ≤ sp) : ∀ k, ∀ x ∈ stW t sp s k, 0 ≤ x ∧ x < 18446744073709551616
  | 0 => by
    unfold stW
    exact rng_set (rng_set (fun x hx => by rw [(List.mem_replicate.1 hx).2]; decide) _ (by omega)) _ (by decide)
  | k + 1 => by
    unfold stW
    split
    · exact rng_set (stW_rng t sp s hs h4 h0 k) _ (by decide)
    · exact stW_rng t sp s hs h4 h0 k
theorem mdW_rng {t sp : Int} {ss : List ByteArray} {s l h o : Int} {ws : List Int} (hp : planB t sp ss = true) (hf : frB s l h o = true) (hw : ∀ x ∈ ws, 0 ≤ x ∧ x < 18446744073709551616) : ∀ x ∈ mdW t sp ss s l h o ws, 0 ≤ x ∧ x < 18446744073709551616 := by
  obtain ⟨b1, b2, b3, b4, b5⟩ := plan_ok hp
  have hs8 : (ss.getD 0 ByteArray.empty).size ≤ 8 := by
    have := (table_len b5).1
    rw [List.getD_eq_getElem?_getD, List.getElem?_eq_getElem (by omega), Option.getD_some]
    exact shape_size (table_at b5 0 (by omega))
  have hst : ∀ x ∈ startW t sp ss, 0 ≤ x ∧ x < 18446744073709551616 := stW_rng t sp _ hs8 b4 (by omega) _
  unfold mdW cpW
  refine rng_set ?_ _ (frV_range hf)
  intro x hx
  rcases List.mem_append.1 hx with hx | hx
  · rcases List.mem_append.1 hx with hx | hx
    · exact hst x (List.mem_of_mem_take hx)
    · exact hw x (List.mem_of_mem_take hx)
  · exact hst x (List.mem_of_mem_drop hx)
theorem mdW_len {t sp : Int} {ss : List ByteArray} (s l h o : Int) (ws : List Int) (hp : planB t sp ss = true) : ((mdW t sp ss s l h o ws).length : Int) = 3 + 2 * t + 2 * sp := by
  obtain ⟨b1, b2, b3, b4, b5⟩ := plan_ok hp
  unfold mdW
  rw [List.length_set, cpW_len t sp ss ws b1 b3 (stW_len _ _ _ _)]
  omega
theorem mdW_one {t sp : Int} {ss : List ByteArray} (s l h o : Int) (ws : List Int) (hp : planB t sp ss = true) : (mdW t sp ss s l h o ws).getD 1 0 = frV s l h o := by
  have hl := mdW_len s l h o ws hp
  obtain ⟨b1, b2, b3, b4, b5⟩ := plan_ok hp
  unfold mdW at hl ⊢
  rw [List.length_set] at hl
  rw [List.getD_eq_getElem?_getD, List.getElem?_set_self (by omega)]
  rfl
set_option maxHeartbeats 6400000 in
set_option maxRecDepth 1000000 in
theorem whole_out (P : CPar) (a : Option Addr) (c : Nat) (hn : Fit P.ss) (fs fl fh fo : Int) (wa : Option Addr) (wc : Nat) (ws : List Int) (hwn : wa = none → wc = 0) (hwr : ∀ x ∈ ws, 0 ≤ x ∧ x < 18446744073709551616) (hm : mdB P.t P.sp P.ss fs fl fh fo ws.length = true) (hi : Int) (ho : hi < 0 ∨ (¬ hi < 0 ∧ P.sp < hi)) (w : World) (hs : SlOf w a (strV P.ss)) (hw : WdsOf w wa ws) :
    Calls Try.prog 6 #[hpV P.t P.sp a P.ss.length c fs fl fh fo wa ws.length wc, .int .i64 hi] w fun e w' => e = .returned (.bool true) ∧ Below w.heap.size w w' := by
  have MD := fun W h hW => made27_ok P.t P.sp a c P.ss hn fs fl fh fo wa wc ws hwn hm W h hW
  have hm' := hm
  unfold mdB at hm'
  simp only [Bool.and_eq_true, decide_eq_true_eq] at hm'
  obtain ⟨⟨⟨⟨⟨-, hp⟩, h100⟩, -⟩, hFr⟩, hfh⟩ := hm'
  have hLr := mdW_rng hp hFr hwr
  have hLl := mdW_len fs fl fh fo ws hp
  have hL1 := mdW_one fs fl fh fo ws hp
  obtain ⟨b1, b2, b3, b4, b5⟩ := plan_ok hp
  have WK := Lib.hid (fun W => works27_calls W)
  unfold hpV at MD
  unfold hpV
  generalize mdW P.t P.sp P.ss fs fl fh fo ws = L at MD hLr hLl hL1
  have MD := Lib.hid MD
  have HS := Lib.hid hs
  have HW := Lib.hid hw
  clear hs hw hm
  have hX := (MapKept.heap_alloc w (.cells #[.int .i64 P.t, .int .i64 P.sp, .slice a P.ss.length c, .int .i64 fs, .int .i64 fl, .int .i64 fh, .int .i64 fo, .slice wa ws.length wc] 29)).1
  have hb0 : Below w.heap.size w (w.alloc (.cells #[.int .i64 P.t, .int .i64 P.sp, .slice a P.ss.length c, .int .i64 fs, .int .i64 fl, .int .i64 fh, .int .i64 fo, .slice wa ws.length wc] 29)) := by (repeat (first | exact Below.refl _ _ | (with_reducible assumption) | refine Below.drew ?_ | refine Below.drewN' ?_ _ | refine Below.alloc ?_ (by first | omega | (simp; done) | (simp; omega)) _ | refine Below.setCell ?_ (by first | omega | (simp; done) | (simp; omega)) _ | refine Below.then ?_ hb9 (by first | omega | (simp; done) | (simp; omega)) | refine Below.then ?_ hb8 (by first | omega | (simp; done) | (simp; omega)) | refine Below.then ?_ hb7 (by first | omega | (simp; done) | (simp; omega)) | refine Below.then ?_ hb6 (by first | omega | (simp; done) | (simp; omega)) | refine Below.then ?_ hb5 (by first | omega | (simp; done) | (simp; omega)) | refine Below.then ?_ hb4 (by first | omega | (simp; done) | (simp; omega)) | refine Below.then ?_ hb3 (by first | omega | (simp; done) | (simp; omega)) | refine Below.then ?_ hb2 (by first | omega | (simp; done) | (simp; omega)) | refine Below.then ?_ hb1 (by first | omega | (simp; done) | (simp; omega))))
  have hs0 := HS.out.alloc (.cells #[.int .i64 P.t, .int .i64 P.sp, .slice a P.ss.length c, .int .i64 fs, .int .i64 fl, .int .i64 fh, .int .i64 fo, .slice wa ws.length wc] 29)
  have hw0 : WdsOf (w.alloc (.cells #[.int .i64 P.t, .int .i64 P.sp, .slice a P.ss.length c, .int .i64 fs, .int .i64 fl, .int .i64 fh, .int .i64 fo, .slice wa ws.length wc] 29)) wa ws := SlOf.alloc HW.out _
  have hLn : ((L.length : Int) == 0) = false := beq_eq_false_iff_ne.2 (by omega)
  have hL0 : ¬ (L.length : Int) = 0 := by omega
  go_enter Try.func6, Try.ntmps6
  go_wp2_with fail
  generalize (w.alloc (.cells #[.int .i64 P.t, .int .i64 P.sp, .slice a P.ss.length c, .int .i64 fs, .int .i64 fl, .int .i64 fh, .int .i64 fo, .slice wa ws.length wc] 29)) = WH at hX hb0 hs0 hw0 ⊢
  have lh := blk_lt hX
  have q0 : WH.cell? ⟨w.heap.size, 0, none⟩ = some (.int .i64 P.t) := blk_cell hX 0 _ rfl
  have q1 : WH.cell? ⟨w.heap.size, 1, none⟩ = some (.int .i64 P.sp) := blk_cell hX 1 _ rfl
  have q2 : WH.cell? ⟨w.heap.size, 2, none⟩ = some (.slice a P.ss.length c) := blk_cell hX 2 _ rfl
  have q3 : WH.cell? ⟨w.heap.size, 3, none⟩ = some (.int .i64 fs) := blk_cell hX 3 _ rfl
  have q4 : WH.cell? ⟨w.heap.size, 4, none⟩ = some (.int .i64 fl) := blk_cell hX 4 _ rfl
  have q5 : WH.cell? ⟨w.heap.size, 5, none⟩ = some (.int .i64 fh) := blk_cell hX 5 _ rfl
  have q6 : WH.cell? ⟨w.heap.size, 6, none⟩ = some (.int .i64 fo) := blk_cell hX 6 _ rfl
  have q7 : WH.cell? ⟨w.heap.size, 7, none⟩ = some (.slice wa ws.length wc) := blk_cell hX 7 _ rfl
  have HSd := Lib.hid (show SlOf WH.drew a (strV P.ss) ∧ WdsOf WH.drew wa ws from ⟨hs0.drew, SlOf.drew hw0⟩)
  have HSe := Lib.hid (fun o => (show SlOf (WH.alloc o).drew a (strV P.ss) ∧ WdsOf (WH.alloc o).drew wa ws from ⟨(hs0.alloc o).drew, SlOf.drew (SlOf.alloc hw0 o)⟩))
  have keepS : ∀ A B : World, Below WH.heap.size A B → A.cell? ⟨w.heap.size, 0, none⟩ = some (.int .i64 P.t) ∧ A.cell? ⟨w.heap.size, 1, none⟩ = some (.int .i64 P.sp) ∧ A.cell? ⟨w.heap.size, 2, none⟩ = some (.slice a P.ss.length c) ∧ A.cell? ⟨w.heap.size, 3, none⟩ = some (.int .i64 fs) ∧ A.cell? ⟨w.heap.size, 4, none⟩ = some (.int .i64 fl) ∧ A.cell? ⟨w.heap.size, 5, none⟩ = some (.int .i64 fh) ∧ A.cell? ⟨w.heap.size, 6, none⟩ = some (.int .i64 fo) ∧ A.cell? ⟨w.heap.size, 7, none⟩ = some (.slice wa ws.length wc) ∧ WH.heap.size ≤ A.heap.size → B.cell? ⟨w.heap.size, 0, none⟩ = some (.int .i64 P.t) ∧ B.cell? ⟨w.heap.size, 1, none⟩ = some (.int .i64 P.sp) ∧ B.cell? ⟨w.heap.size, 2, none⟩ = some (.slice a P.ss.length c) ∧ B.cell? ⟨w.heap.size, 3, none⟩ = some (.int .i64 fs) ∧ B.cell? ⟨w.heap.size, 4, none⟩ = some (.int .i64 fl) ∧ B.cell? ⟨w.heap.size, 5, none⟩ = some (.int .i64 fh) ∧ B.cell? ⟨w.heap.size, 6, none⟩ = some (.int .i64 fo) ∧ B.cell? ⟨w.heap.size, 7, none⟩ = some (.slice wa ws.length wc) ∧ WH.heap.size ≤ B.heap.size := fun A B hb hc => ⟨(hb.cell (p := ⟨w.heap.size, 0, none⟩) lh).trans hc.1, (hb.cell (p := ⟨w.heap.size, 1, none⟩) lh).trans hc.2.1, (hb.cell (p := ⟨w.heap.size, 2, none⟩) lh).trans hc.2.2.1, (hb.cell (p := ⟨w.heap.size, 3, none⟩) lh).trans hc.2.2.2.1, (hb.cell (p := ⟨w.heap.size, 4, none⟩) lh).trans hc.2.2.2.2.1, (hb.cell (p := ⟨w.heap.size, 5, none⟩) lh).trans hc.2.2.2.2.2.1, (hb.cell (p := ⟨w.heap.size, 6, none⟩) lh).trans hc.2.2.2.2.2.2.1, (hb.cell (p := ⟨w.heap.size, 7, none⟩) lh).trans hc.2.2.2.2.2.2.2.1, Nat.le_trans hc.2.2.2.2.2.2.2.2 hb.size⟩
  have keepC := Lib.hid (show ∀ A B : World, Below A.heap.size A B → A.cell? ⟨w.heap.size, 0, none⟩ = some (.int .i64 P.t) ∧ A.cell? ⟨w.heap.size, 1, none⟩ = some (.int .i64 P.sp) ∧ A.cell? ⟨w.heap.size, 2, none⟩ = some (.slice a P.ss.length c) ∧ A.cell? ⟨w.heap.size, 3, none⟩ = some (.int .i64 fs) ∧ A.cell? ⟨w.heap.size, 4, none⟩ = some (.int .i64 fl) ∧ A.cell? ⟨w.heap.size, 5, none⟩ = some (.int .i64 fh) ∧ A.cell? ⟨w.heap.size, 6, none⟩ = some (.int .i64 fo) ∧ A.cell? ⟨w.heap.size, 7, none⟩ = some (.slice wa ws.length wc) ∧ WH.heap.size ≤ A.heap.size → B.cell? ⟨w.heap.size, 0, none⟩ = some (.int .i64 P.t) ∧ B.cell? ⟨w.heap.size, 1, none⟩ = some (.int .i64 P.sp) ∧ B.cell? ⟨w.heap.size, 2, none⟩ = some (.slice a P.ss.length c) ∧ B.cell? ⟨w.heap.size, 3, none⟩ = some (.int .i64 fs) ∧ B.cell? ⟨w.heap.size, 4, none⟩ = some (.int .i64 fl) ∧ B.cell? ⟨w.heap.size, 5, none⟩ = some (.int .i64 fh) ∧ B.cell? ⟨w.heap.size, 6, none⟩ = some (.int .i64 fo) ∧ B.cell? ⟨w.heap.size, 7, none⟩ = some (.slice wa ws.length wc) ∧ WH.heap.size ≤ B.heap.size from fun A B hb hc => keepS A B (hb.mono hc.2.2.2.2.2.2.2.2) hc)
  have keepA := Lib.hid (show ∀ (A : World) (x0 : Obj), A.cell? ⟨w.heap.size, 0, none⟩ = some (.int .i64 P.t) ∧ A.cell? ⟨w.heap.size, 1, none⟩ = some (.int .i64 P.sp) ∧ A.cell? ⟨w.heap.size, 2, none⟩ = some (.slice a P.ss.length c) ∧ A.cell? ⟨w.heap.size, 3, none⟩ = some (.int .i64 fs) ∧ A.cell? ⟨w.heap.size, 4, none⟩ = some (.int .i64 fl) ∧ A.cell? ⟨w.heap.size, 5, none⟩ = some (.int .i64 fh) ∧ A.cell? ⟨w.heap.size, 6, none⟩ = some (.int .i64 fo) ∧ A.cell? ⟨w.heap.size, 7, none⟩ = some (.slice wa ws.length wc) ∧ WH.heap.size ≤ A.heap.size → (A.alloc x0).cell? ⟨w.heap.size, 0, none⟩ = some (.int .i64 P.t) ∧ (A.alloc x0).cell? ⟨w.heap.size, 1, none⟩ = some (.int .i64 P.sp) ∧ (A.alloc x0).cell? ⟨w.heap.size, 2, none⟩ = some (.slice a P.ss.length c) ∧ (A.alloc x0).cell? ⟨w.heap.size, 3, none⟩ = some (.int .i64 fs) ∧ (A.alloc x0).cell? ⟨w.heap.size, 4, none⟩ = some (.int .i64 fl) ∧ (A.alloc x0).cell? ⟨w.heap.size, 5, none⟩ = some (.int .i64 fh) ∧ (A.alloc x0).cell? ⟨w.heap.size, 6, none⟩ = some (.int .i64 fo) ∧ (A.alloc x0).cell? ⟨w.heap.size, 7, none⟩ = some (.slice wa ws.length wc) ∧ WH.heap.size ≤ (A.alloc x0).heap.size from fun A x0 hc => keepS A _ ((Below.refl _ _).alloc hc.2.2.2.2.2.2.2.2 _) hc)
  have keepD := Lib.hid (show WH.drew.cell? ⟨w.heap.size, 0, none⟩ = some (.int .i64 P.t) ∧ WH.drew.cell? ⟨w.heap.size, 1, none⟩ = some (.int .i64 P.sp) ∧ WH.drew.cell? ⟨w.heap.size, 2, none⟩ = some (.slice a P.ss.length c) ∧ WH.drew.cell? ⟨w.heap.size, 3, none⟩ = some (.int .i64 fs) ∧ WH.drew.cell? ⟨w.heap.size, 4, none⟩ = some (.int .i64 fl) ∧ WH.drew.cell? ⟨w.heap.size, 5, none⟩ = some (.int .i64 fh) ∧ WH.drew.cell? ⟨w.heap.size, 6, none⟩ = some (.int .i64 fo) ∧ WH.drew.cell? ⟨w.heap.size, 7, none⟩ = some (.slice wa ws.length wc) ∧ WH.heap.size ≤ WH.drew.heap.size from keepS WH _ (Below.refl _ _).drew ⟨q0, q1, q2, q3, q4, q5, q6, q7, Nat.le_refl _⟩)
  have keepE := Lib.hid (show ∀ (x0 : Obj), (WH.alloc x0).drew.cell? ⟨w.heap.size, 0, none⟩ = some (.int .i64 P.t) ∧ (WH.alloc x0).drew.cell? ⟨w.heap.size, 1, none⟩ = some (.int .i64 P.sp) ∧ (WH.alloc x0).drew.cell? ⟨w.heap.size, 2, none⟩ = some (.slice a P.ss.length c) ∧ (WH.alloc x0).drew.cell? ⟨w.heap.size, 3, none⟩ = some (.int .i64 fs) ∧ (WH.alloc x0).drew.cell? ⟨w.heap.size, 4, none⟩ = some (.int .i64 fl) ∧ (WH.alloc x0).drew.cell? ⟨w.heap.size, 5, none⟩ = some (.int .i64 fh) ∧ (WH.alloc x0).drew.cell? ⟨w.heap.size, 6, none⟩ = some (.int .i64 fo) ∧ (WH.alloc x0).drew.cell? ⟨w.heap.size, 7, none⟩ = some (.slice wa ws.length wc) ∧ WH.heap.size ≤ (WH.alloc x0).drew.heap.size from fun x0 => keepS WH _ ((Below.refl _ _).alloc (Nat.le_refl _) _).drew ⟨q0, q1, q2, q3, q4, q5, q6, q7, Nat.le_refl _⟩)
  have keepT := Lib.hid (show ∀ (A : World) (d : Nat) (v0 v1 v2 : Value), WH.heap.size ≤ d → A.cell? ⟨w.heap.size, 0, none⟩ = some (.int .i64 P.t) ∧ A.cell? ⟨w.heap.size, 1, none⟩ = some (.int .i64 P.sp) ∧ A.cell? ⟨w.heap.size, 2, none⟩ = some (.slice a P.ss.length c) ∧ A.cell? ⟨w.heap.size, 3, none⟩ = some (.int .i64 fs) ∧ A.cell? ⟨w.heap.size, 4, none⟩ = some (.int .i64 fl) ∧ A.cell? ⟨w.heap.size, 5, none⟩ = some (.int .i64 fh) ∧ A.cell? ⟨w.heap.size, 6, none⟩ = some (.int .i64 fo) ∧ A.cell? ⟨w.heap.size, 7, none⟩ = some (.slice wa ws.length wc) ∧ WH.heap.size ≤ A.heap.size → (((A.setCell ⟨d, 0, none⟩ v0).setCell ⟨d, 1, none⟩ v1).setCell ⟨d, 2, none⟩ v2).cell? ⟨w.heap.size, 0, none⟩ = some (.int .i64 P.t) ∧ (((A.setCell ⟨d, 0, none⟩ v0).setCell ⟨d, 1, none⟩ v1).setCell ⟨d, 2, none⟩ v2).cell? ⟨w.heap.size, 1, none⟩ = some (.int .i64 P.sp) ∧ (((A.setCell ⟨d, 0, none⟩ v0).setCell ⟨d, 1, none⟩ v1).setCell ⟨d, 2, none⟩ v2).cell? ⟨w.heap.size, 2, none⟩ = some (.slice a P.ss.length c) ∧ (((A.setCell ⟨d, 0, none⟩ v0).setCell ⟨d, 1, none⟩ v1).setCell ⟨d, 2, none⟩ v2).cell? ⟨w.heap.size, 3, none⟩ = some (.int .i64 fs) ∧ (((A.setCell ⟨d, 0, none⟩ v0).setCell ⟨d, 1, none⟩ v1).setCell ⟨d, 2, none⟩ v2).cell? ⟨w.heap.size, 4, none⟩ = some (.int .i64 fl) ∧ (((A.setCell ⟨d, 0, none⟩ v0).setCell ⟨d, 1, none⟩ v1).setCell ⟨d, 2, none⟩ v2).cell? ⟨w.heap.size, 5, none⟩ = some (.int .i64 fh) ∧ (((A.setCell ⟨d, 0, none⟩ v0).setCell ⟨d, 1, none⟩ v1).setCell ⟨d, 2, none⟩ v2).cell? ⟨w.heap.size, 6, none⟩ = some (.int .i64 fo) ∧ (((A.setCell ⟨d, 0, none⟩ v0).setCell ⟨d, 1, none⟩ v1).setCell ⟨d, 2, none⟩ v2).cell? ⟨w.heap.size, 7, none⟩ = some (.slice wa ws.length wc) ∧ WH.heap.size ≤ (((A.setCell ⟨d, 0, none⟩ v0).setCell ⟨d, 1, none⟩ v1).setCell ⟨d, 2, none⟩ v2).heap.size from fun A d v0 v1 v2 hd hc => keepS A _ (((Below.refl _ _).setCell hd _).setCell hd _ |>.setCell hd _) hc)
  have keepM := Lib.hid (show ∀ (A : World) (x0 x1 : Obj), WH.heap.size ≤ A.heap.size → (A.alloc x0).cell? ⟨w.heap.size, 0, none⟩ = some (.int .i64 P.t) ∧ (A.alloc x0).cell? ⟨w.heap.size, 1, none⟩ = some (.int .i64 P.sp) ∧ (A.alloc x0).cell? ⟨w.heap.size, 2, none⟩ = some (.slice a P.ss.length c) ∧ (A.alloc x0).cell? ⟨w.heap.size, 3, none⟩ = some (.int .i64 fs) ∧ (A.alloc x0).cell? ⟨w.heap.size, 4, none⟩ = some (.int .i64 fl) ∧ (A.alloc x0).cell? ⟨w.heap.size, 5, none⟩ = some (.int .i64 fh) ∧ (A.alloc x0).cell? ⟨w.heap.size, 6, none⟩ = some (.int .i64 fo) ∧ (A.alloc x0).cell? ⟨w.heap.size, 7, none⟩ = some (.slice wa ws.length wc) ∧ WH.heap.size ≤ (A.alloc x0).heap.size → (A.alloc x1).cell? ⟨w.heap.size, 0, none⟩ = some (.int .i64 P.t) ∧ (A.alloc x1).cell? ⟨w.heap.size, 1, none⟩ = some (.int .i64 P.sp) ∧ (A.alloc x1).cell? ⟨w.heap.size, 2, none⟩ = some (.slice a P.ss.length c) ∧ (A.alloc x1).cell? ⟨w.heap.size, 3, none⟩ = some (.int .i64 fs) ∧ (A.alloc x1).cell? ⟨w.heap.size, 4, none⟩ = some (.int .i64 fl) ∧ (A.alloc x1).cell? ⟨w.heap.size, 5, none⟩ = some (.int .i64 fh) ∧ (A.alloc x1).cell? ⟨w.heap.size, 6, none⟩ = some (.int .i64 fo) ∧ (A.alloc x1).cell? ⟨w.heap.size, 7, none⟩ = some (.slice wa ws.length wc) ∧ WH.heap.size ≤ (A.alloc x1).heap.size from fun A x0 x1 hle hc => keepS (A.alloc x0) _ ⟨rfl, rfl, rfl, by simp, fun k hk => by rw [Below.heap_alloc _ _ _ (by omega), Below.heap_alloc _ _ _ (by omega)]⟩ hc)
  clear keepS
  refine Code.wp_mono (Q := fun e ac W => e = Exit.normal ∧ ∃ (X : Nat) (g : Nat), ac = (?frameOfO : Nat → Nat → Act) X g ∧ (W.heap[X]? = some (.cells #[.int .i64 P.t, .int .i64 P.sp, .slice a P.ss.length c] 24 (0, 0)) ∧ WH.heap.size ≤ X ∧ Below WH.heap.size WH W ∧ RowAt W g L ∧ WH.heap.size ≤ g)) ?impO ?regO
  case regO =>
    go_region_held3 (fun A => A.cell? ⟨w.heap.size, 0, none⟩ = some (.int .i64 P.t) ∧ A.cell? ⟨w.heap.size, 1, none⟩ = some (.int .i64 P.sp) ∧ A.cell? ⟨w.heap.size, 2, none⟩ = some (.slice a P.ss.length c) ∧ A.cell? ⟨w.heap.size, 3, none⟩ = some (.int .i64 fs) ∧ A.cell? ⟨w.heap.size, 4, none⟩ = some (.int .i64 fl) ∧ A.cell? ⟨w.heap.size, 5, none⟩ = some (.int .i64 fh) ∧ A.cell? ⟨w.heap.size, 6, none⟩ = some (.int .i64 fo) ∧ A.cell? ⟨w.heap.size, 7, none⟩ = some (.slice wa ws.length wc) ∧ WH.heap.size ≤ A.heap.size) (first | (with_reducible exact keepD.out) | (with_reducible exact keepE.out _) | (with_reducible refine keepT.out _ _ _ _ _ ?_ ?_; (first | omega | (simp; omega)); assumption) | (with_reducible refine keepC.out _ _ hb5 ?_; assumption) | (with_reducible refine keepM.out _ _ _ ?_ (by assumption); first | omega | (simp; omega)) | (with_reducible exact keepA.out _ _ (by assumption)) | exact keepD.out) (first | (go_at_call 9; refine (MD.out _ (by first | with_reducible exact HSd.out.1 | with_reducible exact (HSe.out _).1) (by first | with_reducible exact HSd.out.2 | with_reducible exact (HSe.out _).2)).mono ?_; rintro e5 w5 ⟨g, rfl, hrow5, hg5, hb5⟩; have hz5 := hb5.size; (try simp at hz5); (try (have zc := fun j => hb5.cell (p := ⟨WH.heap.size, j, none⟩) (by simp); have zf := fun j => hb5.frozen (p := ⟨WH.heap.size, j, none⟩) (by simp); have zq0 := zc 0; have zq1 := zc 1; have zq2 := zc 2; have zf0 := zf 0; have zf1 := zf 1; have zf2 := zf 2; simp [go_sem] at zq0 zq1 zq2 zf0 zf1 zf2; have zl : WH.heap.size < w5.heap.size := (by omega); clear zc zf))))
    · obtain ⟨X, hX1⟩ : ∃ X, w5.heap.size = X := ⟨_, rfl⟩
      have hB4 : Below WH.heap.size WH (w5.alloc (.cells #[.int .i64 P.t, .int .i64 P.sp, .slice a P.ss.length c] 24)) := ((Below.refl _ _).drew.trans hb5).alloc hz5 _
      refine ⟨rfl, X, g, ?_, ⟨by rw [← hX1]; exact (MapKept.heap_alloc w5 _).1, by omega, hB4, hrow5.below ((Below.refl _ _).alloc (Nat.le_refl _) _), hg5⟩⟩
      rw [hX1]
    · obtain ⟨X, hX1⟩ : ∃ X, WH.heap.size = X := ⟨_, rfl⟩
      have hB3 : Below WH.heap.size WH w5 := ((Below.refl _ _).alloc (Nat.le_refl _) _).drew.trans (hb5.mono (by simp))
      have hB4 := ((hB3.setCell (p := ⟨WH.heap.size, 0, none⟩) (Nat.le_refl _) (.int .i64 P.t)).setCell (p := ⟨WH.heap.size, 1, none⟩) (Nat.le_refl _) (.int .i64 P.sp)).setCell (p := ⟨WH.heap.size, 2, none⟩) (Nat.le_refl _) (.slice a P.ss.length c)
      refine ⟨rfl, X, g, ?_, ⟨by rw [← hX1]; exact blk_eq (blk_set (blk_set (blk_set (blk_below (blk_drew (MapKept.heap_alloc WH _).1) hb5) 0 _) 1 _) 2 _) rfl, by omega, hB4, blk_off (blk_off (blk_off hrow5 0 _ (by simp at hg5; omega)) 1 _ (by simp at hg5; omega)) 2 _ (by simp at hg5; omega), (by simp at hg5; omega)⟩⟩
      rw [hX1]
  case impO =>
    rintro e ac W6 ⟨rfl, X, g, rfl, G6, hX6, hb6, hr6, hg6⟩
    have hb06 : Below w.heap.size w W6 := Below.then hb0 hb6 hb0.size
    have x1 : W6.cell? ⟨X, 1, none⟩ = some (.int .i64 P.sp) := blk_cell G6 1 _ rfl
    rcases ho with ho | ⟨ho, ho'⟩
    all_goals
      go_wp2_with (first | (go_at_call 10; refine (WK.out _).mono ?_; rintro e7 w7 ⟨rfl, hb7⟩; have hz7 := hb7.size; (try simp at hz7)))
      go_ret
      exact ⟨rfl, Below.then hb06 hb7 hb06.size⟩
end Go.Proofs.Ytafenndokmccoaa
