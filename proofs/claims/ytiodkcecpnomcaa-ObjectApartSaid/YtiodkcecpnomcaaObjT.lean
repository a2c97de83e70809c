/- The reference of layer 'object': Read. -/
import Derived.Test.YtiodkcecpnomcaaObjS
import Derived.Test.YtiodkcecpnomcaaObjH
namespace Go.Proofs.Ytiodkcecpnomcaa
open Go.RowKit
set_option linter.unusedVariables false
set_option linter.unusedSimpArgs false

theorem owns_off {A : World} {N B o : Nat} {v : Value} {e : TypeId} {fa : Option Addr} {n fc : Nat} {xs : List Value} (hB : B < N) (hA : A.ownsRow N e 1 (.slice fa n fc) n xs) : (A.setCell ⟨B, o, none⟩ v).ownsRow N e 1 (.slice fa n fc) n xs := by
  refine hA.kept (row := some B) ⟨rfl, rfl, rfl, by simp [World.setCell], fun j hj hne => Below.heap_setCell _ _ _ _ (fun e => hne (by rw [e]))⟩ ?_
  cases hx : Value.ownBlock (.slice fa n fc) with
  | none => exact .inl rfl
  | some j =>
    right
    intro e
    injection e with e
    have := (hA.lt j hx).1
    omega

set_option maxRecDepth 1000000 in
set_option maxHeartbeats 3200000 in
theorem r7Read_calls (la : Option Addr) (lc : Nat) (l : List Int) (hlc : l.length ≤ lc) (t sp : Int) (a : Option Addr) (c : Nat) (ss : List ByteArray) (at_ : Int) (w : World) (h : RIn w la l a ss) :
    Calls Try.prog 23 #[.slice la l.length lc, .agg #[.int .i64 t, .int .i64 sp, .slice a ss.length c], .int .i64 at_] w (ReadPost t sp ss l at_ w) := by
  have hR := fun W h => r7Stands_calls la lc l t sp a c ss at_ W h
  have HH := Lib.hid h
  by_cases he : objE t sp ss l at_ = 0
  case neg =>
    refine Calls.mono (R := fun e w' => e = .returned (.tuple #[objV 0 0 0 0 none 0 0, .int .i64 (objE t sp ss l at_)]) ∧ Below w.heap.size w w') ?_ fun _ _ hh => readPost_no rfl he hh
    generalize objE t sp ss l at_ = ee at hR he
    have g1 : (ee != 0) = true := bne_iff_ne.2 he
    have HR := Lib.hid hR
    clear hR h
    unfold objV
    go_enter Try.func23, Try.ntmps23
    go_wp2_with fail
    refine (HR.out _ ((HH.out.alloc _).alloc _)).mono ?_; rintro e1 w1 ⟨rfl, hb1⟩; obtain ⟨hc1, hf1⟩ := bcell hb1; have hz1 := hb1.size; (try simp at hz1)
    have o0 := hc1 (w.heap.size + 1) 0 (by first | omega | (simp; done) | (simp; omega)); simp [go_sem] at o0
    have o1 := hc1 (w.heap.size + 1) 1 (by first | omega | (simp; done) | (simp; omega)); simp [go_sem] at o1
    have o2 := hc1 (w.heap.size + 1) 2 (by first | omega | (simp; done) | (simp; omega)); simp [go_sem] at o2
    have o3 := hc1 (w.heap.size + 1) 3 (by first | omega | (simp; done) | (simp; omega)); simp [go_sem] at o3
    have o4 := hc1 (w.heap.size + 1) 4 (by first | omega | (simp; done) | (simp; omega)); simp [go_sem] at o4
    have p0 := hf1 (w.heap.size + 1) 0 (by first | omega | (simp; done) | (simp; omega)); simp [go_sem] at p0
    have p1 := hf1 (w.heap.size + 1) 1 (by first | omega | (simp; done) | (simp; omega)); simp [go_sem] at p1
    have p2 := hf1 (w.heap.size + 1) 2 (by first | omega | (simp; done) | (simp; omega)); simp [go_sem] at p2
    have p3 := hf1 (w.heap.size + 1) 3 (by first | omega | (simp; done) | (simp; omega)); simp [go_sem] at p3
    have p4 := hf1 (w.heap.size + 1) 4 (by first | omega | (simp; done) | (simp; omega)); simp [go_sem] at p4
    go_wp2
    exact bodyPost_ret (v := .tuple #[.agg #[.int .i64 0, .int .i64 0, .int .i64 0, .int .u64 0, .slice none 0 0], .int .i64 ee]) (by simp [results, Try.results23, go_sem, o0, o1, o2, o3, o4]) rfl ⟨rfl, by (repeat (first | exact Below.refl _ _ | (with_reducible assumption) | refine Below.drew ?_ | refine Below.drewN' ?_ _ | refine Below.alloc ?_ (by first | omega | (simp; done) | (simp; omega)) _ | refine Below.setCell ?_ (by first | omega | (simp; done) | (simp; omega)) _ | refine Below.then ?_ hb9 (by first | omega | (simp; done) | (simp; omega)) | refine Below.then ?_ hb8 (by first | omega | (simp; done) | (simp; omega)) | refine Below.then ?_ hb7 (by first | omega | (simp; done) | (simp; omega)) | refine Below.then ?_ hb6 (by first | omega | (simp; done) | (simp; omega)) | refine Below.then ?_ hb5 (by first | omega | (simp; done) | (simp; omega)) | refine Below.then ?_ hb4 (by first | omega | (simp; done) | (simp; omega)) | refine Below.then ?_ hb3 (by first | omega | (simp; done) | (simp; omega)) | refine Below.then ?_ hb2 (by first | omega | (simp; done) | (simp; omega)) | refine Below.then ?_ hb1 (by first | omega | (simp; done) | (simp; omega))))⟩
  have hr : rightP t sp ss l.length = true := by
    unfold objE at he
    by_cases hr : rightP t sp ss l.length = true
    · exact hr
    · rw [if_neg hr] at he; cases he
  have hr' := hr
  unfold rightP at hr'
  simp only [Bool.and_eq_true, decide_eq_true_eq] at hr'
  obtain ⟨b1, b2, b3, b4, _⟩ := plan_ok hr'.1
  have ho : ¬ (at_ < 3 + 2 * t ∨ szP t sp ≤ at_) := by
    intro ho
    unfold objE standE at he
    rw [if_pos hr, if_pos ho] at he
    cases he
  rw [he] at hR
  obtain ⟨i, rfl, h0, h1, hi, hw⟩ := at_word hr'.1 hr'.2 ho
  have hz : sizeO t sp ss l[i] i ≠ 0 := by
    intro hz
    unfold objE standE at he
    rw [if_pos hr, if_neg ho, hw, if_pos hz] at he
    cases he
  have hZ := fun W (h : RIn W la l a ss) => r7Size_calls la lc l h.rng h.len t sp a c ss i h.fit hr'.1 h0 h1 hi W h.wds h.sh
  obtain ⟨s2, s10, _⟩ := size_two hz
  have hin := obj_in b1 b3 h0 h1 hz
  obtain ⟨n, hnn⟩ : ∃ n : Nat, sizeO t sp ss l[i] i = (n : Int) := ⟨(sizeO t sp ss l[i] i).toNat, by omega⟩
  have hil : i + n ≤ l.length := by have := hr'.2; unfold szP at hin; omega
  have hi1 : i + 1 < l.length := by omega
  have f1 : rdF t sp ss l i = fldsO l i (n - 2) := by unfold rdF; rw [if_pos he, hw, hnn]; rfl
  have f2 : rdA t sp ss l i = i := by unfold rdA; rw [if_pos he]
  have f3 : rdS t sp ss l i = hShape l[i] := by unfold rdS; rw [if_pos he, hw]
  have f4 : rdM t sp ss l i = hMark l[i] := by unfold rdM; rw [if_pos he, hw]
  have f5 : rdL t sp ss l i = l[i + 1] := by
    unfold rdL
    rw [if_pos he]
    unfold wordAt
    rw [show ((i : Int) + 1).toNat = i + 1 by omega, List.getD_eq_getElem?_getD, List.getElem?_eq_getElem hi1]
    rfl
  have hlen := flds_len (l := l) (i := i) (k := n - 2) (by omega)
  refine Calls.mono (R := fun e w' => ∃ fa fc, e = .returned (.tuple #[objV i (hShape l[i]) (hMark l[i]) l[i + 1] fa (n - 2) fc, .int .i64 0]) ∧ WdsOf w' fa (fldsO l i (n - 2)) ∧ FreshA w.heap.size fa ∧ Below w.heap.size w w') ?_ fun e w' hh => by
    unfold ReadPost
    rw [f1, f2, f3, f4, f5, he, hlen]
    exact hh
  have hrn := h.rng l[i] (List.getElem_mem hi)
  have hl4 := h.len
  have OF := Lib.hid (fun W => refOf_calls l[i] hrn.1 hrn.2 W)
  rw [hnn] at hZ s10 s2
  obtain ⟨i0, hi0, hi0z, hi0s, hi0b⟩ := info_parts infoU64
  clear f1 f2 f3 f4 f5 hnn hz hw hr ho he
  obtain ⟨bb, o, rfl, hbb, hcx⟩ := u64_at h.wds i hi
  obtain ⟨bb', o', e', hbb', hcy⟩ := u64_at h.wds (i + 1) hi1
  obtain ⟨rfl, rfl⟩ : bb = bb' ∧ o = o' := by simpa using e'
  have hall : ∀ j (hj : j < l.length), w.cell? ⟨bb, o + j, none⟩ = some (.int .u64 l[j]) := fun j hj => by
    obtain ⟨b2, o2, e2, _, hc⟩ := u64_at h.wds j hj
    obtain ⟨rfl, rfl⟩ : bb = b2 ∧ o = o2 := by simpa using e2
    exact hc
  have HALL := Lib.hid hall
  have HR := Lib.hid hR
  have HZ := Lib.hid hZ
  have HW := Lib.hid (hrn)
  clear hR hZ h hall e' hr'
  unfold szP at h1 hin
  have i1 : (i : Int) < (l.length : Int) := by omega
  have i2 : (i : Int) + 1 < (l.length : Int) := by omega
  unfold objV
  go_enter Try.func23, Try.ntmps23
  go_wp2_with fail
  refine (HR.out _ ((HH.out.alloc _).alloc _)).mono ?_; rintro e1 w1 ⟨rfl, hb1⟩; obtain ⟨hc1, hf1⟩ := bcell hb1; have hz1 := hb1.size; (try simp at hz1)
  have o0 := hc1 (w.heap.size + 1) 0 (by first | omega | (simp; done) | (simp; omega)); simp [go_sem] at o0
  have o1 := hc1 (w.heap.size + 1) 1 (by first | omega | (simp; done) | (simp; omega)); simp [go_sem] at o1
  have o2 := hc1 (w.heap.size + 1) 2 (by first | omega | (simp; done) | (simp; omega)); simp [go_sem] at o2
  have o3 := hc1 (w.heap.size + 1) 3 (by first | omega | (simp; done) | (simp; omega)); simp [go_sem] at o3
  have o4 := hc1 (w.heap.size + 1) 4 (by first | omega | (simp; done) | (simp; omega)); simp [go_sem] at o4
  have p0 := hf1 (w.heap.size + 1) 0 (by first | omega | (simp; done) | (simp; omega)); simp [go_sem] at p0
  have p1 := hf1 (w.heap.size + 1) 1 (by first | omega | (simp; done) | (simp; omega)); simp [go_sem] at p1
  have p2 := hf1 (w.heap.size + 1) 2 (by first | omega | (simp; done) | (simp; omega)); simp [go_sem] at p2
  have p3 := hf1 (w.heap.size + 1) 3 (by first | omega | (simp; done) | (simp; omega)); simp [go_sem] at p3
  have p4 := hf1 (w.heap.size + 1) 4 (by first | omega | (simp; done) | (simp; omega)); simp [go_sem] at p4
  have q0 := hc1 w.heap.size 0 (by first | omega | (simp; done) | (simp; omega)); simp [go_sem] at q0
  have q1 := hc1 w.heap.size 1 (by first | omega | (simp; done) | (simp; omega)); simp [go_sem] at q1
  have q2 := hc1 w.heap.size 2 (by first | omega | (simp; done) | (simp; omega)); simp [go_sem] at q2
  have hb01 : Below w.heap.size w w1 := by (repeat (first | exact Below.refl _ _ | (with_reducible assumption) | refine Below.drew ?_ | refine Below.drewN' ?_ _ | refine Below.alloc ?_ (by first | omega | (simp; done) | (simp; omega)) _ | refine Below.setCell ?_ (by first | omega | (simp; done) | (simp; omega)) _ | refine Below.then ?_ hb9 (by first | omega | (simp; done) | (simp; omega)) | refine Below.then ?_ hb8 (by first | omega | (simp; done) | (simp; omega)) | refine Below.then ?_ hb7 (by first | omega | (simp; done) | (simp; omega)) | refine Below.then ?_ hb6 (by first | omega | (simp; done) | (simp; omega)) | refine Below.then ?_ hb5 (by first | omega | (simp; done) | (simp; omega)) | refine Below.then ?_ hb4 (by first | omega | (simp; done) | (simp; omega)) | refine Below.then ?_ hb3 (by first | omega | (simp; done) | (simp; omega)) | refine Below.then ?_ hb2 (by first | omega | (simp; done) | (simp; omega)) | refine Below.then ?_ hb1 (by first | omega | (simp; done) | (simp; omega))))
  have hA1 := (hb01.cell (p := ⟨bb, o + i, none⟩) hbb).trans hcx
  clear hc1 hf1
  go_wp2_with fail
  refine (OF.out _).mono ?_; rintro e2 w2 ⟨rfl, hb2⟩; have hz2 := hb2.size; (try simp at hz2)
  have l1a : w.heap.size < w1.heap.size := by first | omega | (simp; done) | (simp; omega)
  replace q0 := hold_cell (w2 := w2) q0 (by (repeat (first | exact Below.refl _ _ | (with_reducible assumption) | refine Below.drew ?_ | refine Below.drewN' ?_ _ | refine Below.alloc ?_ (by first | omega | (simp; done) | (simp; omega)) _ | refine Below.setCell ?_ (by first | omega | (simp; done) | (simp; omega)) _ | refine Below.then ?_ hb9 (by first | omega | (simp; done) | (simp; omega)) | refine Below.then ?_ hb8 (by first | omega | (simp; done) | (simp; omega)) | refine Below.then ?_ hb7 (by first | omega | (simp; done) | (simp; omega)) | refine Below.then ?_ hb6 (by first | omega | (simp; done) | (simp; omega)) | refine Below.then ?_ hb5 (by first | omega | (simp; done) | (simp; omega)) | refine Below.then ?_ hb4 (by first | omega | (simp; done) | (simp; omega)) | refine Below.then ?_ hb3 (by first | omega | (simp; done) | (simp; omega)) | refine Below.then ?_ hb2 (by first | omega | (simp; done) | (simp; omega)) | refine Below.then ?_ hb1 (by first | omega | (simp; done) | (simp; omega))))) (by first | omega | (simp; done) | (simp; omega))
  replace q1 := hold_cell (w2 := w2) q1 (by (repeat (first | exact Below.refl _ _ | (with_reducible assumption) | refine Below.drew ?_ | refine Below.drewN' ?_ _ | refine Below.alloc ?_ (by first | omega | (simp; done) | (simp; omega)) _ | refine Below.setCell ?_ (by first | omega | (simp; done) | (simp; omega)) _ | refine Below.then ?_ hb9 (by first | omega | (simp; done) | (simp; omega)) | refine Below.then ?_ hb8 (by first | omega | (simp; done) | (simp; omega)) | refine Below.then ?_ hb7 (by first | omega | (simp; done) | (simp; omega)) | refine Below.then ?_ hb6 (by first | omega | (simp; done) | (simp; omega)) | refine Below.then ?_ hb5 (by first | omega | (simp; done) | (simp; omega)) | refine Below.then ?_ hb4 (by first | omega | (simp; done) | (simp; omega)) | refine Below.then ?_ hb3 (by first | omega | (simp; done) | (simp; omega)) | refine Below.then ?_ hb2 (by first | omega | (simp; done) | (simp; omega)) | refine Below.then ?_ hb1 (by first | omega | (simp; done) | (simp; omega))))) (by first | omega | (simp; done) | (simp; omega))
  replace q2 := hold_cell (w2 := w2) q2 (by (repeat (first | exact Below.refl _ _ | (with_reducible assumption) | refine Below.drew ?_ | refine Below.drewN' ?_ _ | refine Below.alloc ?_ (by first | omega | (simp; done) | (simp; omega)) _ | refine Below.setCell ?_ (by first | omega | (simp; done) | (simp; omega)) _ | refine Below.then ?_ hb9 (by first | omega | (simp; done) | (simp; omega)) | refine Below.then ?_ hb8 (by first | omega | (simp; done) | (simp; omega)) | refine Below.then ?_ hb7 (by first | omega | (simp; done) | (simp; omega)) | refine Below.then ?_ hb6 (by first | omega | (simp; done) | (simp; omega)) | refine Below.then ?_ hb5 (by first | omega | (simp; done) | (simp; omega)) | refine Below.then ?_ hb4 (by first | omega | (simp; done) | (simp; omega)) | refine Below.then ?_ hb3 (by first | omega | (simp; done) | (simp; omega)) | refine Below.then ?_ hb2 (by first | omega | (simp; done) | (simp; omega)) | refine Below.then ?_ hb1 (by first | omega | (simp; done) | (simp; omega))))) (by first | omega | (simp; done) | (simp; omega))
  have l2a : w.heap.size < w2.heap.size := by first | omega | (simp; done) | (simp; omega)
  have hb02 : Below w.heap.size w w2 := Below.then hb01 hb2 (by omega)
  go_wp2_with fail
  refine (HZ.out _ (((HH.out.below hb02).alloc _))).mono ?_; rintro e3 w3 ⟨rfl, hb3⟩; obtain ⟨hc3, hf3⟩ := bcell hb3; have hz3 := hb3.size; (try simp at hz3)
  have x0 := hc3 w2.heap.size 0 (by first | omega | (simp; done) | (simp; omega)); simp [go_sem] at x0
  have x1 := hc3 w2.heap.size 1 (by first | omega | (simp; done) | (simp; omega)); simp [go_sem] at x1
  have hl3 : w2.heap.size + 1 ≤ w3.heap.size := by omega
  have hb23 : Below w2.heap.size w2 w3 := ((Below.refl _ _).alloc (Nat.le_refl _) _).trans (hb3.mono (by simp))
  have hb03 : Below w.heap.size w w3 := Below.then hb02 hb23 (by omega)
  have y1 := (hb03.cell (p := ⟨bb, o + (i + 1), none⟩) hbb).trans hcy
  have k13 : ∀ j, w3.cell? ⟨w.heap.size + 1, j, none⟩ = w1.cell? ⟨w.heap.size + 1, j, none⟩ := fun j => (hb23.cell (p := ⟨w.heap.size + 1, j, none⟩) (by show w.heap.size + 1 < _; omega)).trans (hb2.cell (p := ⟨w.heap.size + 1, j, none⟩) (by show w.heap.size + 1 < _; omega))
  have j13 : ∀ j, w3.frozen? ⟨w.heap.size + 1, j, none⟩ = w1.frozen? ⟨w.heap.size + 1, j, none⟩ := fun j => (hb23.frozen (p := ⟨w.heap.size + 1, j, none⟩) (by show w.heap.size + 1 < _; omega)).trans (hb2.frozen (p := ⟨w.heap.size + 1, j, none⟩) (by show w.heap.size + 1 < _; omega))
  replace o0 := (k13 0).trans o0
  replace o1 := (k13 1).trans o1
  replace o2 := (k13 2).trans o2
  replace o3 := (k13 3).trans o3
  replace o4 := (k13 4).trans o4
  replace p0 := (j13 0).trans p0
  replace p1 := (j13 1).trans p1
  replace p2 := (j13 2).trans p2
  replace p3 := (j13 3).trans p3
  replace p4 := (j13 4).trans p4
  have l3a : w.heap.size < w3.heap.size := by first | omega | (simp; done) | (simp; omega)
  have l3b : w.heap.size + 1 < w3.heap.size := by first | omega | (simp; done) | (simp; omega)
  have l3c : bb < w3.heap.size := by first | omega | (simp; done) | (simp; omega)
  clear k13 j13 hc3 hf3 hb23 hb2 hb3 hb01 hA1 hcx hcy q0 q1 q2
  have keepS := Lib.hid (show ∀ A B' : World, (A.cell? ⟨bb, o + (i + 1), none⟩ = some (.int .u64 (l[i + 1]'hi1)) ∧ A.cell? ⟨w2.heap.size, 0, none⟩ = some (.int .i64 (hShape l[i])) ∧ A.cell? ⟨w2.heap.size, 1, none⟩ = some (.int .i64 (hMark l[i])) ∧ w2.heap.size + 1 ≤ A.heap.size) → Below (w2.heap.size + 1) A B' → (B'.cell? ⟨bb, o + (i + 1), none⟩ = some (.int .u64 (l[i + 1]'hi1)) ∧ B'.cell? ⟨w2.heap.size, 0, none⟩ = some (.int .i64 (hShape l[i])) ∧ B'.cell? ⟨w2.heap.size, 1, none⟩ = some (.int .i64 (hMark l[i])) ∧ w2.heap.size + 1 ≤ B'.heap.size) from fun A B' hc hb => ⟨(hb.cell (p := ⟨bb, o + (i + 1), none⟩) (by show bb < _; omega)).trans hc.1, (hb.cell (p := ⟨w2.heap.size, 0, none⟩) (Nat.lt_succ_self _)).trans hc.2.1, (hb.cell (p := ⟨w2.heap.size, 1, none⟩) (Nat.lt_succ_self _)).trans hc.2.2.1, Nat.le_trans hc.2.2.2 hb.size⟩)
  have keepP := Lib.hid (show ∀ (A : World) (j : Nat) (v : Value), (A.cell? ⟨bb, o + (i + 1), none⟩ = some (.int .u64 (l[i + 1]'hi1)) ∧ A.cell? ⟨w2.heap.size, 0, none⟩ = some (.int .i64 (hShape l[i])) ∧ A.cell? ⟨w2.heap.size, 1, none⟩ = some (.int .i64 (hMark l[i])) ∧ w2.heap.size + 1 ≤ A.heap.size) → ((A.setCell ⟨w.heap.size + 1, j, none⟩ v).cell? ⟨bb, o + (i + 1), none⟩ = some (.int .u64 (l[i + 1]'hi1)) ∧ (A.setCell ⟨w.heap.size + 1, j, none⟩ v).cell? ⟨w2.heap.size, 0, none⟩ = some (.int .i64 (hShape l[i])) ∧ (A.setCell ⟨w.heap.size + 1, j, none⟩ v).cell? ⟨w2.heap.size, 1, none⟩ = some (.int .i64 (hMark l[i])) ∧ w2.heap.size + 1 ≤ (A.setCell ⟨w.heap.size + 1, j, none⟩ v).heap.size) from fun A j v hc => ⟨(cell_blk _ _ _ _ _ _ (by omega)).trans hc.1, (cell_blk _ _ _ _ _ _ (by omega)).trans hc.2.1, (cell_blk _ _ _ _ _ _ (by omega)).trans hc.2.2.1, by rw [setCell_size]; exact hc.2.2.2⟩)
  have j0 : (0 : Int) ≤ (i : Int) := by omega
  have j1 : (0 : Int) ≤ (i : Int) + 2 := by omega
  have j2 : (i : Int) + 2 ≤ (i : Int) + (n : Int) := by omega
  have j3 : (i : Int) + (n : Int) ≤ (lc : Int) := by omega
  have j4 : IntKind.i64.wrap ((i : Int) + 1) = (i : Int) + 1 := IntWalk.i64_in _ (by omega)
  have j5 : IntKind.i64.wrap ((i : Int) + 2) = (i : Int) + 2 := IntWalk.i64_in _ (by omega)
  have j6 : IntKind.i64.wrap ((i : Int) + (n : Int)) = (i : Int) + (n : Int) := IntWalk.i64_in _ (by omega)
  have j7 : (0 : Int) ≤ (i : Int) + 1 := by omega
  have j8 : ((i : Int) + 1).toNat = i + 1 := by omega
  have j9 : ((i : Int) + 2).toNat = i + 2 := by omega
  have ja : ((i : Int) + (n : Int)).toNat = i + n := by omega
  by_cases hcap : lc = i + 2
  · have j3' : (i : Int) + (n : Int) ≤ (i : Int) + 2 := by omega
    have j3q : ((i + 2 : Nat) : Int) = (i : Int) + 2 := by omega
    have HLN := Lib.hid (show ((fldsO l i (n - 2)).map (fun x => Value.int .u64 x)).length = (i + n - (i + 2)) * 1 by rw [List.length_map, hlen]; omega)
    have HNW := Lib.hid (show ∀ (j : Nat) (u : Value), ((fldsO l i (n - 2)).map (fun x => Value.int .u64 x))[j]? = some u → w3.drew.cell? ((⟨bb, o, none⟩ : Addr).add j) = some u from fun j u hj => by
      exfalso
      obtain ⟨hjl, -⟩ := List.getElem?_eq_some_iff.1 hj
      rw [List.length_map, hlen] at hjl
      omega)
    have hsz63 : 0 + (i + n - (i + 2)) ≤ maxLen := by unfold maxLen; omega
    have hszB : (0 + (i + n - (i + 2))) * 8 ≤ 140737488355328 := by omega
    have HGR := Lib.hid (show ∀ A B' : World, w2.heap.size + 1 ≤ A.heap.size → A.grownBy B' (Value.ownBlock (.slice none 0 0)) → Below (w2.heap.size + 1) A B' from fun A B' hA hg => (Below.refl _ _).grown hg hA (fun j ej => by cases ej))
    go_wp2_with fail
    go_region_held3 (fun w' => (w'.cell? ⟨bb, o + (i + 1), none⟩ = some (.int .u64 (l[i + 1]'hi1)) ∧ w'.cell? ⟨w2.heap.size, 0, none⟩ = some (.int .i64 (hShape l[i])) ∧ w'.cell? ⟨w2.heap.size, 1, none⟩ = some (.int .i64 (hMark l[i])) ∧ w2.heap.size + 1 ≤ w'.heap.size)) (first | exact keepS.out w3 _ ⟨y1, x0, x1, hl3⟩ (Below.refl _ _).drew | exact keepS.out _ _ (by assumption) hB4 | exact keepP.out _ _ _ (keepP.out _ _ _ (keepP.out _ _ _ (keepP.out _ _ _ (keepP.out _ _ _ (by assumption)))))) ((refine step_append_any _ (by rfl) _ _ _ (by rfl) (w2.heap.size + 1) 50 i0 _ 1 8 Try.underlying25 hi0 hi0z hi0s hi0b rfl (by omega) (.slice none 0 0) 0 [] (by rfl) (World.ownsRow_nil _ _ _ _) ⟨bb, o, none⟩ (i + n - (i + 2)) _ ((fldsO l i (n - 2)).map (fun x => Value.int .u64 x)) (by rfl) HLN.out HNW.out (fun u hu => by obtain ⟨x, _, rfl⟩ := List.mem_map.1 hu; rfl) hsz63 hszB hl3 ?_; intro fa fc w4 hown4 hgrow; have hB4 := HGR.out w3.drew w4 hl3 hgrow; have hf4 := fun j => hB4.frozen (p := ⟨w.heap.size + 1, j, none⟩) (by show w.heap.size + 1 < _; omega); have p0 := (hf4 0).trans p0; have p1 := (hf4 1).trans p1; have p2 := (hf4 2).trans p2; have p3 := (hf4 3).trans p3; have p4 := (hf4 4).trans p4; clear hf4; have hc4 := fun j => hB4.cell (p := ⟨w.heap.size + 1, j, none⟩) (by show w.heap.size + 1 < _; omega); have o0 := (hc4 0).trans o0; have o1 := (hc4 1).trans o1; have o2 := (hc4 2).trans o2; have o3 := (hc4 3).trans o3; have o4 := (hc4 4).trans o4; clear hc4))
    go_wp2
    generalize hW : ((((w4.setCell _ _).setCell _ _).setCell _ _).setCell _ _).setCell _ _ = W
    have E0 : W.cell? ⟨w.heap.size + 1, 0, none⟩ = some (.int .i64 i) := by rw [← hW]; simp [go_sem, o0, o1, o2, o3, o4]
    have E1 : W.cell? ⟨w.heap.size + 1, 1, none⟩ = some (.int .i64 (hShape l[i])) := by rw [← hW]; simp [go_sem, o0, o1, o2, o3, o4]
    have E2 : W.cell? ⟨w.heap.size + 1, 2, none⟩ = some (.int .i64 (hMark l[i])) := by rw [← hW]; simp [go_sem, o0, o1, o2, o3, o4]
    have E3 : W.cell? ⟨w.heap.size + 1, 3, none⟩ = some (.int .u64 l[i + 1]) := by rw [← hW]; simp [go_sem, o0, o1, o2, o3, o4]
    have E4 : W.cell? ⟨w.heap.size + 1, 4, none⟩ = some (.slice fa (0 + (i + n - (i + 2))) fc) := by rw [← hW]; simp [go_sem, o0, o1, o2, o3, o4]
    have hn2 : 0 + (i + n - (i + 2)) = n - 2 := by omega
    rw [hn2] at E4 hown4
    rw [List.nil_append] at hown4
    have hb04 : Below w.heap.size w w4 := hb03.drew.trans (hB4.mono (by omega))
    have hbW : Below w.heap.size w W := by
      rw [← hW]
      exact ((((hb04.setCell (by show w.heap.size ≤ w.heap.size + 1; omega) _).setCell (by show w.heap.size ≤ w.heap.size + 1; omega) _).setCell (by show w.heap.size ≤ w.heap.size + 1; omega) _).setCell (by show w.heap.size ≤ w.heap.size + 1; omega) _).setCell (by show w.heap.size ≤ w.heap.size + 1; omega) _
    have howW : WdsOf W fa (fldsO l i (n - 2)) := by
      refine owns_wds (B := w2.heap.size + 1) (e := 50) (fc := fc) (n := n - 2) ?_
      rw [← hW]
      exact owns_off (by omega) (owns_off (by omega) (owns_off (by omega) (owns_off (by omega) (owns_off (by omega) hown4))))
    have hfr : FreshA w.heap.size fa := fun ad e => by
      have h1 := (hown4.lt ad.block (by rw [e]; rfl)).1
      omega
    clear hW
    exact bodyPost_ret (v := .tuple #[.agg #[.int .i64 i, .int .i64 (hShape l[i]), .int .i64 (hMark l[i]), .int .u64 l[i + 1], .slice fa (n - 2) fc], .int .i64 0]) (by simp [results, Try.results23, go_sem, E0, E1, E2, E3, E4]) rfl ⟨fa, fc, rfl, howW, hfr, hbW⟩
  · have HLN := Lib.hid (show ((fldsO l i (n - 2)).map (fun x => Value.int .u64 x)).length = (i + n - (i + 2)) * 1 by rw [List.length_map, hlen]; omega)
    have HNW := Lib.hid (show ∀ (j : Nat) (u : Value), ((fldsO l i (n - 2)).map (fun x => Value.int .u64 x))[j]? = some u → w3.drew.cell? ((⟨bb, o + (i + 2), none⟩ : Addr).add j) = some u from fun j u hj => by
      obtain ⟨hjl, rfl⟩ := List.getElem?_eq_some_iff.1 hj
      rw [List.length_map, hlen] at hjl
      have ea : (⟨bb, o + (i + 2), none⟩ : Addr).add j = ⟨bb, o + (i + 2 + j), none⟩ := by unfold Addr.add; split <;> simp_all [Nat.add_assoc]
      rw [ea, List.getElem_map]
      have e3 : (fldsO l i (n - 2))[j]'(by rw [hlen]; exact hjl) = l[i + 2 + j]'(by omega) := by
        unfold fldsO
        rw [List.getElem_take, List.getElem_drop]
      rw [e3]
      exact (hb03.cell (p := ⟨bb, o + (i + 2 + j), none⟩) hbb).trans (HALL.out (i + 2 + j) (by omega)))
    have hsz63 : 0 + (i + n - (i + 2)) ≤ maxLen := by unfold maxLen; omega
    have hszB : (0 + (i + n - (i + 2))) * 8 ≤ 140737488355328 := by omega
    have HGR := Lib.hid (show ∀ A B' : World, w2.heap.size + 1 ≤ A.heap.size → A.grownBy B' (Value.ownBlock (.slice none 0 0)) → Below (w2.heap.size + 1) A B' from fun A B' hA hg => (Below.refl _ _).grown hg hA (fun j ej => by cases ej))
    go_wp2_with fail
    go_region_held3 (fun w' => (w'.cell? ⟨bb, o + (i + 1), none⟩ = some (.int .u64 (l[i + 1]'hi1)) ∧ w'.cell? ⟨w2.heap.size, 0, none⟩ = some (.int .i64 (hShape l[i])) ∧ w'.cell? ⟨w2.heap.size, 1, none⟩ = some (.int .i64 (hMark l[i])) ∧ w2.heap.size + 1 ≤ w'.heap.size)) (first | exact keepS.out w3 _ ⟨y1, x0, x1, hl3⟩ (Below.refl _ _).drew | exact keepS.out _ _ (by assumption) hB4 | exact keepP.out _ _ _ (keepP.out _ _ _ (keepP.out _ _ _ (keepP.out _ _ _ (keepP.out _ _ _ (by assumption)))))) ((refine step_append_any _ (by rfl) _ _ _ (by rfl) (w2.heap.size + 1) 50 i0 _ 1 8 Try.underlying25 hi0 hi0z hi0s hi0b rfl (by omega) (.slice none 0 0) 0 [] (by rfl) (World.ownsRow_nil _ _ _ _) ⟨bb, o + (i + 2), none⟩ (i + n - (i + 2)) (lc - (i + 2)) ((fldsO l i (n - 2)).map (fun x => Value.int .u64 x)) (by rfl) HLN.out HNW.out (fun u hu => by obtain ⟨x, _, rfl⟩ := List.mem_map.1 hu; rfl) hsz63 hszB hl3 ?_; intro fa fc w4 hown4 hgrow; have hB4 := HGR.out w3.drew w4 hl3 hgrow; have hf4 := fun j => hB4.frozen (p := ⟨w.heap.size + 1, j, none⟩) (by show w.heap.size + 1 < _; omega); have p0 := (hf4 0).trans p0; have p1 := (hf4 1).trans p1; have p2 := (hf4 2).trans p2; have p3 := (hf4 3).trans p3; have p4 := (hf4 4).trans p4; clear hf4; have hc4 := fun j => hB4.cell (p := ⟨w.heap.size + 1, j, none⟩) (by show w.heap.size + 1 < _; omega); have o0 := (hc4 0).trans o0; have o1 := (hc4 1).trans o1; have o2 := (hc4 2).trans o2; have o3 := (hc4 3).trans o3; have o4 := (hc4 4).trans o4; clear hc4))
    go_wp2
    generalize hW : ((((w4.setCell _ _).setCell _ _).setCell _ _).setCell _ _).setCell _ _ = W
    have E0 : W.cell? ⟨w.heap.size + 1, 0, none⟩ = some (.int .i64 i) := by rw [← hW]; simp [go_sem, o0, o1, o2, o3, o4]
    have E1 : W.cell? ⟨w.heap.size + 1, 1, none⟩ = some (.int .i64 (hShape l[i])) := by rw [← hW]; simp [go_sem, o0, o1, o2, o3, o4]
    have E2 : W.cell? ⟨w.heap.size + 1, 2, none⟩ = some (.int .i64 (hMark l[i])) := by rw [← hW]; simp [go_sem, o0, o1, o2, o3, o4]
    have E3 : W.cell? ⟨w.heap.size + 1, 3, none⟩ = some (.int .u64 l[i + 1]) := by rw [← hW]; simp [go_sem, o0, o1, o2, o3, o4]
    have E4 : W.cell? ⟨w.heap.size + 1, 4, none⟩ = some (.slice fa (0 + (i + n - (i + 2))) fc) := by rw [← hW]; simp [go_sem, o0, o1, o2, o3, o4]
    have hn2 : 0 + (i + n - (i + 2)) = n - 2 := by omega
    rw [hn2] at E4 hown4
    rw [List.nil_append] at hown4
    have hb04 : Below w.heap.size w w4 := hb03.drew.trans (hB4.mono (by omega))
    have hbW : Below w.heap.size w W := by
      rw [← hW]
      exact ((((hb04.setCell (by show w.heap.size ≤ w.heap.size + 1; omega) _).setCell (by show w.heap.size ≤ w.heap.size + 1; omega) _).setCell (by show w.heap.size ≤ w.heap.size + 1; omega) _).setCell (by show w.heap.size ≤ w.heap.size + 1; omega) _).setCell (by show w.heap.size ≤ w.heap.size + 1; omega) _
    have howW : WdsOf W fa (fldsO l i (n - 2)) := by
      refine owns_wds (B := w2.heap.size + 1) (e := 50) (fc := fc) (n := n - 2) ?_
      rw [← hW]
      exact owns_off (by omega) (owns_off (by omega) (owns_off (by omega) (owns_off (by omega) (owns_off (by omega) hown4))))
    have hfr : FreshA w.heap.size fa := fun ad e => by
      have h1 := (hown4.lt ad.block (by rw [e]; rfl)).1
      omega
    clear hW
    exact bodyPost_ret (v := .tuple #[.agg #[.int .i64 i, .int .i64 (hShape l[i]), .int .i64 (hMark l[i]), .int .u64 l[i + 1], .slice fa (n - 2) fc], .int .i64 0]) (by simp [results, Try.results23, go_sem, E0, E1, E2, E3, E4]) rfl ⟨fa, fc, rfl, howW, hfr, hbW⟩
end Go.Proofs.Ytiodkcecpnomcaa
