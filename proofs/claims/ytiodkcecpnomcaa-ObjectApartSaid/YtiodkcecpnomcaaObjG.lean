/- The layer 'object': Read, where an object stands. -/
import Derived.Test.YtiodkcecpnomcaaObjF
import Derived.Test.YtiodkcecpnomcaaRegZ
import Derived.Deep.AppendLies
import Derived.Deep.DrawnRows
namespace Go.Proofs.Ytiodkcecpnomcaa
open Go.RowKit
set_option linter.unusedVariables false
set_option linter.unusedSimpArgs false
attribute [local go_sem ↓] Go.wp_at_zero Go.wp_at_succ

theorem infoU64 : (Try.prog.info? 50).map (fun i => (i.zero, i.size, i.bytes)) = some (some (.int .u64 0), 1, 8) := by kernel_rfl
/-- a slice that lies in new blocks -/
def FreshA (n : Nat) (fa : Option Addr) : Prop := ∀ ad, fa = some ad → n ≤ ad.block
/-- the words of an object, from the third one on -/
def fldsO (l : List Int) (i k : Nat) : List Int := (l.drop (i + 2)).take k
theorem flds_len {l : List Int} {i k : Nat} (h : i + 2 + k ≤ l.length) : (fldsO l i k).length = k := by
  unfold fldsO
  rw [List.length_take, List.length_drop]
  omega
theorem flds_succ {l : List Int} {i k : Nat} (h : i + 2 + k < l.length) : fldsO l i (k + 1) = fldsO l i k ++ [l[i + 2 + k]] := by
  unfold fldsO
  rw [List.take_succ_eq_append_getElem (by rw [List.length_drop]; omega), List.getElem_drop]

theorem grown_of_below {w w' : World} (h : Below w.heap.size w w') : w.grownBy w' none := ⟨h.os, h.tape, h.output, h.size, fun k hk _ => h.block k hk⟩
theorem owns_slice {w : World} {B : Nat} {e : TypeId} {v : Value} {n : Nat} {xs : List Value} (h : w.ownsRow B e 1 v n xs) : ∃ fa fc, v = .slice fa n fc := by
  rcases h.2 with ⟨hv, h0⟩ | ⟨g, cap, cur, hv, _⟩
  · exact ⟨none, 0, by rw [hv, h0]⟩
  · exact ⟨_, cap, hv⟩
theorem owns_wds {w : World} {B : Nat} {e : TypeId} {fa : Option Addr} {fc n : Nat} {l : List Int} (h : w.ownsRow B e 1 (.slice fa n fc) n (l.map (fun x => Value.int .u64 x))) : WdsOf w fa l := by
  rcases h.2 with ⟨hv, h0⟩ | ⟨g, cap, cur, hv, hb, hg, _⟩
  · left
    have := h.1
    rw [h0, Nat.zero_mul] at this
    exact List.length_eq_zero_iff.1 this
  · have e1 : fa = some ⟨g, 0, none⟩ := by injection hv
    right
    refine ⟨g, 0, e1, (Array.getElem?_eq_some_iff.1 hg).1, fun i hi => ?_⟩
    have := h.cells (g := g) (by rw [e1]; rfl) i _ (List.getElem?_eq_getElem hi)
    have ea : (⟨g, 0, none⟩ : Addr).add i = ⟨g, 0 + i, none⟩ := by unfold Addr.add; split <;> simp_all
    rwa [ea] at this

set_option maxRecDepth 100000 in
set_option maxHeartbeats 1600000 in
theorem read_ok (p b : Nat) (l : List Int) (t sp : Int) (a : Option Addr) (c : Nat) (ss : List ByteArray) (i n : Nat) (hi : i < l.length) (h0 : 3 + 2 * t ≤ i) (h1 : (i : Int) < szP t sp) (hz : 0 < sizeO t sp ss l[i] i) (hn : sizeO t sp ss l[i] i = n) (h2n : 2 ≤ n) (hin : i + n ≤ l.length) (w : World) (h : PIn w p b l t sp a ss) :
    Calls Try.prog 18 #[.pointer (some ⟨p, 0, none⟩), .agg #[.int .i64 t, .int .i64 sp, .slice a ss.length c], .int .i64 (i : Int)] w fun e w' =>
      ∃ fa fc, e = .returned (.tuple #[objV i (hShape l[i]) (hMark l[i]) (l[i + 1]'(by omega)) fa (n - 2) fc, .int .i64 0]) ∧ WdsOf w' fa (fldsO l i (n - 2)) ∧ FreshA w.heap.size fa ∧ Below w.heap.size w w' := by
  have hi1' : i + 1 < l.length := by omega
  have hl4 := h.ar.len
  have H := Lib.hid (fun W (h : PIn W p b l t sp a ss) => h.of c W)
  have S := fun B W hh => stands_ok p b l t sp a c ss B i h.n h.plan h0 h1 hi hz W hh
  rw [hn] at S
  have HPr := h.ar.rng
  have L1 := fun B W (hh : HIn W p b l B a ss) => objLoad_calls p b l (i + 1) hi1' B W hh.ar hh.ld
  simp only [Int.natCast_add, Int.natCast_one] at L1
  have L1 := Lib.hid L1
  have L0 := Lib.hid (fun B W (hh : HIn W p b l B a ss) => objLoad_calls p b l i hi B W hh.ar hh.ld)
  have hr := HPr l[i] (List.getElem_mem hi)
  have OF := Lib.hid (fun W => of_calls l[i] hr.1 hr.2 W)
  have HP := Lib.hid h
  clear h
  unfold heapV at H S
  have S := Lib.hid S
  have HPr := Lib.hid HPr
  unfold objV
  go_enter_defers Try.func18, Try.ntmps18
  go_wp2_with fail
  refine (H.out _ (((HP.out.alloc _).alloc _).alloc _)).mono ?_
  rintro e1 w1 ⟨rfl, hi1, hb1⟩
  obtain ⟨hc1, hf1⟩ := bcell hb1
  have hz1 := hb1.size
  (try simp at hz1)
  have o0 := hc1 (w.heap.size + 1) 0 (by first | omega | (simp; done) | (simp; omega)); simp [go_sem] at o0
  have o1 := hc1 (w.heap.size + 1) 1 (by first | omega | (simp; done) | (simp; omega)); simp [go_sem] at o1
  have o2 := hc1 (w.heap.size + 1) 2 (by first | omega | (simp; done) | (simp; omega)); simp [go_sem] at o2
  have o3 := hc1 (w.heap.size + 1) 3 (by first | omega | (simp; done) | (simp; omega)); simp [go_sem] at o3
  have o4 := hc1 (w.heap.size + 1) 4 (by first | omega | (simp; done) | (simp; omega)); simp [go_sem] at o4
  have p0 := hf1 (w.heap.size + 1) 0 (by first | omega | (simp; done) | (simp; omega)); simp [go_sem] at p0
  have p1 := hf1 (w.heap.size + 1) 1 (by first | omega | (simp; done) | (simp; omega)); simp [go_sem] at p1
  have p2 := hf1 (w.heap.size + 1) 2 (by first | omega | (simp; done) | (simp; omega)); simp [go_sem] at p2
  have p3 := hf1 (w.heap.size + 1) 3 (by first | omega | (simp; done) | (simp; omega)); simp [go_sem] at p3
  have p4 := hf1 (w.heap.size + 1) 4 (by first | omega | (simp; done) | (simp; omega)); simp [go_sem] at p4
  have e0 := hc1 (w.heap.size + 2) 0 (by first | omega | (simp; done) | (simp; omega)); simp [go_sem] at e0
  have z0 := hf1 (w.heap.size + 2) 0 (by first | omega | (simp; done) | (simp; omega)); simp [go_sem] at z0
  have hi1 : HIn w1 p b l (w.heap.size + 1 + 1 + 1) a ss := by simpa using hi1
  clear hc1 hf1
  go_wp2_with fail
  refine (S.out _ _ (hi1.alloc _)).mono ?_
  rintro e2 w2 ⟨rfl, hb2⟩
  have hz2 := hb2.size
  (try simp at hz2)
  have hi2 := (hi1.alloc _).below hb2
  obtain ⟨hc2, hf2⟩ := bcell hb2
  have a3 := hc2 w1.heap.size 3 (by first | omega | (simp; done) | (simp; omega)); simp [go_sem] at a3
  clear hc2 hf2
  have hb12 : Below w1.heap.size w1 w2 := ((Below.refl _ _).alloc (Nat.le_refl _) _).trans (hb2.mono (by simp))
  go_wp2_with fail
  refine (L1.out _ _ hi2).mono ?_
  rintro e3 w3 ⟨rfl, hb3⟩
  have hz3 := hb3.size
  have hi3 := hi2.below hb3
  replace a3 := hold_cell (w2 := w3) a3 (by (repeat (first | exact Below.refl _ _ | (with_reducible assumption) | refine Below.drew ?_ | refine Below.drewN' ?_ _ | refine Below.alloc ?_ (by first | omega | (simp; done) | (simp; omega)) _ | refine Below.setCell ?_ (by first | omega | (simp; done) | (simp; omega)) _ | refine Below.then ?_ hb9 (by first | omega | (simp; done) | (simp; omega)) | refine Below.then ?_ hb8 (by first | omega | (simp; done) | (simp; omega)) | refine Below.then ?_ hb7 (by first | omega | (simp; done) | (simp; omega)) | refine Below.then ?_ hb6 (by first | omega | (simp; done) | (simp; omega)) | refine Below.then ?_ hb5 (by first | omega | (simp; done) | (simp; omega)) | refine Below.then ?_ hb4 (by first | omega | (simp; done) | (simp; omega)) | refine Below.then ?_ hb3 (by first | omega | (simp; done) | (simp; omega)) | refine Below.then ?_ hb2 (by first | omega | (simp; done) | (simp; omega)) | refine Below.then ?_ hb1 (by first | omega | (simp; done) | (simp; omega))))) (by first | omega | (simp; done) | (simp; omega))
  have lh3 : w1.heap.size < w3.heap.size := by first | omega | (simp; done) | (simp; omega)
  go_wp2_with fail
  refine (L0.out _ _ (hi3.alloc _)).mono ?_
  rintro e4 w4 ⟨rfl, hb4⟩
  have hz4 := hb4.size
  (try simp at hz4)
  have hi4 := (hi3.alloc _).below hb4
  have hO4 : w4.heap[w3.heap.size]? = some (.cells #[.int .i64 i, .int .i64 0, .int .i64 0, .int .u64 l[i + 1], .slice none 0 0] 52 (0, 0)) := (hb4.block w3.heap.size (by simp)).trans (MapKept.heap_alloc w3 _).1
  have hb34 : Below w3.heap.size w3 w4 := ((Below.refl _ _).alloc (Nat.le_refl _) _).trans (hb4.mono (by simp))
  clear hb4
  go_wp2_with fail
  refine (OF.out _).mono ?_
  rintro e5 w5 ⟨rfl, hb5⟩
  have hz5 := hb5.size
  have hi5 := hi4.below hb5
  have hO5 := (hb5.block w3.heap.size (by omega)).trans hO4
  have hb35 : Below w3.heap.size w3 w5 := hb34.trans (hb5.mono (by omega))
  clear hb5 hO4
  have q0 : w5.cell? ⟨w3.heap.size, 0, none⟩ = some (.int .i64 i) := by simp [World.cell?, hO5]
  have q1 : w5.cell? ⟨w3.heap.size, 1, none⟩ = some (.int .i64 0) := by simp [World.cell?, hO5]
  have q2 : w5.cell? ⟨w3.heap.size, 2, none⟩ = some (.int .i64 0) := by simp [World.cell?, hO5]
  have q3 : w5.cell? ⟨w3.heap.size, 3, none⟩ = some (.int .u64 l[i + 1]) := by simp [World.cell?, hO5]
  have q4 : w5.cell? ⟨w3.heap.size, 4, none⟩ = some (.slice none 0 0) := by simp [World.cell?, hO5]
  have z1 : w5.frozen? ⟨w3.heap.size, 1, none⟩ = false := by simp [World.frozen?, hO5]
  have z2 : w5.frozen? ⟨w3.heap.size, 2, none⟩ = false := by simp [World.frozen?, hO5]
  have hb13 : Below w1.heap.size w1 w3 := hb12.trans (hb3.mono (by omega))
  go_wp2_with fail
  generalize hW6 : (w5.setCell _ _).setCell _ _ = w6
  have hb36 : Below w3.heap.size w3 w6 := by rw [← hW6]; exact (hb35.setCell (Nat.le_refl _) _).setCell (Nat.le_refl _) _
  have hO6 : w6.heap[w3.heap.size]? = some (.cells #[.int .i64 i, .int .i64 (hShape l[i]), .int .i64 (hMark l[i]), .int .u64 l[i + 1], .slice none 0 0] 52 (0, 0)) := by
    rw [← hW6]
    simp [World.setCell, Array.getElem?_modify, hO5]
  have hz6 : w5.heap.size ≤ w6.heap.size := by rw [← hW6]; simp [World.setCell]
  clear hW6 q0 q1 q2 q3 q4 z1 z2 hO5 hb35 hi5 hi4 hb34 hb12
  obtain ⟨i0, hi0, hi0z, hi0s, hi0b⟩ := info_parts infoU64
  go_loopw [11] (fun iv wr => ∃ (k : Nat) (out : Value), k ≤ n - 2 ∧ iv = .int .i64 ((k : Int) + 2) ∧ Below w3.heap.size w3 wr ∧ wr.heap[w3.heap.size]? = some (.cells #[.int .i64 i, .int .i64 (hShape l[i]), .int .i64 (hMark l[i]), .int .u64 l[i + 1], out] 52 (0, 0)) ∧ wr.ownsRow (w3.heap.size + 1) 50 1 out k ((fldsO l i k).map (fun x => Value.int .u64 x))) (fun iv _ => n - (intOf iv).toNat)
  case atStart => exact ⟨0, .slice none 0 0, Nat.zero_le _, rfl, hb36, hO6, World.ownsRow_nil _ _ _ _⟩
  case round =>
    obtain ⟨k, out, hk, rfl, hBr, hOr, hown⟩ := hrel
    have hzr := hBr.size
    have hir := hi3.below hBr
    clear hb36 hO6
    obtain ⟨fa, fc, rfl⟩ := owns_slice hown
    by_cases hlt : k < n - 2
    · have hik : i + 2 + k < l.length := by omega
      have LK := fun B W (hh : HIn W p b l B a ss) => objLoad_calls p b l (i + 2 + k) hik B W hh.ar hh.ld
      have hix : ((i + 2 + k : Nat) : Int) = (i : Int) + ((k : Int) + 2) := by omega
      rw [hix] at LK
      have LK := Lib.hid LK
      have HF := Lib.hid (flds_succ hik)
      have c4 : wr.cell? ⟨w3.heap.size, 4, none⟩ = some (.slice fa k fc) := by simp [World.cell?, hOr]
      have ar := (hb3.cell (p := ⟨w1.heap.size, 3, none⟩) (by show w1.heap.size < _; omega))
      replace a3 := (hBr.cell (p := ⟨w1.heap.size, 3, none⟩) lh3).trans a3
      clear ar hix
      have keepS := Lib.hid (show ∀ A B' : World, (A.cell? ⟨w3.heap.size, 4, none⟩ = some (.slice fa k fc) ∧ A.cell? ⟨w1.heap.size, 3, none⟩ = some (.func (.func 56) #[] #[.pointer (some ⟨w.heap.size + 1 + 1 + 1, 0, none⟩)]) ∧ w3.heap.size + 1 ≤ A.heap.size ∧ Below w3.heap.size w3 A) → Below (w3.heap.size + 1) A B' → (B'.cell? ⟨w3.heap.size, 4, none⟩ = some (.slice fa k fc) ∧ B'.cell? ⟨w1.heap.size, 3, none⟩ = some (.func (.func 56) #[] #[.pointer (some ⟨w.heap.size + 1 + 1 + 1, 0, none⟩)]) ∧ w3.heap.size + 1 ≤ B'.heap.size ∧ Below w3.heap.size w3 B') from fun A B' hc hb => ⟨(hb.cell (p := ⟨w3.heap.size, 4, none⟩) (Nat.lt_succ_self _)).trans hc.1, (hb.cell (p := ⟨w1.heap.size, 3, none⟩) (Nat.lt_succ_of_lt lh3)).trans hc.2.1, Nat.le_trans hc.2.2.1 hb.size, hc.2.2.2.trans (hb.mono (Nat.le_succ _))⟩)
      have hinS := Lib.hid (show ∀ A : World, (A.cell? ⟨w3.heap.size, 4, none⟩ = some (.slice fa k fc) ∧ A.cell? ⟨w1.heap.size, 3, none⟩ = some (.func (.func 56) #[] #[.pointer (some ⟨w.heap.size + 1 + 1 + 1, 0, none⟩)]) ∧ w3.heap.size + 1 ≤ A.heap.size ∧ Below w3.heap.size w3 A) → HIn A p b l (w.heap.size + 1 + 1 + 1) a ss from fun A hc => hi3.below hc.2.2.2)
      have leS := Lib.hid (show ∀ A : World, (A.cell? ⟨w3.heap.size, 4, none⟩ = some (.slice fa k fc) ∧ A.cell? ⟨w1.heap.size, 3, none⟩ = some (.func (.func 56) #[] #[.pointer (some ⟨w.heap.size + 1 + 1 + 1, 0, none⟩)]) ∧ w3.heap.size + 1 ≤ A.heap.size ∧ Below w3.heap.size w3 A) → w3.heap.size + 1 ≤ A.heap.size from fun A hc => hc.2.2.1)
      have hwr : IntKind.i64.wrap ((i : Int) + ((k : Int) + 2)) = (i : Int) + ((k : Int) + 2) := IntWalk.i64_in _ (by omega)
      have hzO : w3.heap.size + 1 ≤ wr.heap.size := (Array.getElem?_eq_some_iff.1 hOr).1
      have HOW := Lib.hid (show ∀ A : World, Below wr.heap.size wr A → A.ownsRow (w3.heap.size + 1) 50 1 (.slice fa k fc) k ((fldsO l i k).map (fun x => Value.int .u64 x)) from fun A hb => hown.kept (grown_of_below hb) (Classical.em _))
      have HGR := Lib.hid (show ∀ A B' : World, w3.heap.size + 1 ≤ A.heap.size → A.grownBy B' (Value.ownBlock (.slice fa k fc)) → Below (w3.heap.size + 1) A B' from fun A B' hA hg => (Below.refl _ _).grown hg hA (fun j ej => (hown.lt j ej).1))
      have hsz63 : k + 1 ≤ maxLen := by unfold maxLen; omega
      have hszB : (k + 1) * 8 ≤ 140737488355328 := by omega
      go_wp2_with fail
      refine wp_region_noPanic ?_
      refine wp_region_Z 11 (fun w' => w'.cell? ⟨w3.heap.size, 4, none⟩ = some (.slice fa k fc) ∧ w'.cell? ⟨w1.heap.size, 3, none⟩ = some (.func (.func 56) #[] #[.pointer (some ⟨w.heap.size + 1 + 1 + 1, 0, none⟩)]) ∧ w3.heap.size + 1 ≤ w'.heap.size ∧ Below w3.heap.size w3 w') (by kernel_rfl) ?hS0 (fun hHeld => ?_)
      case hS0 => exact keepS.out wr _ ⟨c4, a3, hzO, hBr⟩ (Below.refl _ _).drew
      (refine wpAnyZ_take (i := 0) (oi := ?oiz0) (v := ?vz0) ?hiz0 ?hsz0 ?hfz0 ?hrz0 ?hwz0 ?hQz0 ?hSz0 ?hyz0 ?hz0)
      (case hiz0 => rfl)
      (case hsz0 => kernel_rfl)
      (case hfz0 => kernel_rfl)
      (case hrz0 => kernel_rfl)
      (case hwz0 => kernel_rfl)
      (case hQz0 => first | exact fun _ _ _ h => h | exact fun _ _ _ h => (nomatch h.1))
      (case hSz0 => assumption)
      (case hyz0 => (refine Or.inl ⟨by rfl, ?_⟩; intro W hW; (try dsimp only at hW); go_simp; try with_reducible rfl))
      (try simp only [List.getElem_toArray, List.getElem_cons_succ, List.getElem_cons_zero, Act.put, List.setIfInBounds_toArray, List.set_cons_zero, List.set_cons_succ])
      (refine wpAnyZ_take (i := 1) (oi := ?oiz1) (v := ?vz1) ?hiz1 ?hsz1 ?hfz1 ?hrz1 ?hwz1 ?hQz1 ?hSz1 ?hyz1 ?hz1)
      (case hiz1 => rfl)
      (case hsz1 => kernel_rfl)
      (case hfz1 => kernel_rfl)
      (case hrz1 => kernel_rfl)
      (case hwz1 => kernel_rfl)
      (case hQz1 => first | exact fun _ _ _ h => h | exact fun _ _ _ h => (nomatch h.1))
      (case hSz1 => assumption)
      (case hyz1 => (refine Or.inl ⟨by rfl, ?_⟩; intro W hW; (try dsimp only at hW); go_simp; try with_reducible rfl))
      (try simp only [List.getElem_toArray, List.getElem_cons_succ, List.getElem_cons_zero, Act.put, List.setIfInBounds_toArray, List.set_cons_zero, List.set_cons_succ])
      (refine wpAnyZ_take (i := 2) (oi := ?oiz2) (v := ?vz2) ?hiz2 ?hsz2 ?hfz2 ?hrz2 ?hwz2 ?hQz2 ?hSz2 ?hyz2 ?hz2)
      (case hiz2 => rfl)
      (case hsz2 => kernel_rfl)
      (case hfz2 => kernel_rfl)
      (case hrz2 => kernel_rfl)
      (case hwz2 => kernel_rfl)
      (case hQz2 => first | exact fun _ _ _ h => h | exact fun _ _ _ h => (nomatch h.1))
      (case hSz2 => assumption)
      (case hyz2 => (refine Or.inl ⟨by rfl, ?_⟩; intro W hW; (try dsimp only at hW); go_simp; try with_reducible rfl))
      (try simp only [List.getElem_toArray, List.getElem_cons_succ, List.getElem_cons_zero, Act.put, List.setIfInBounds_toArray, List.set_cons_zero, List.set_cons_succ])
      (refine wpAnyZ_take (i := 3) (oi := ?oiz3) (v := ?vz3) ?hiz3 ?hsz3 ?hfz3 ?hrz3 ?hwz3 ?hQz3 ?hSz3 ?hyz3 ?hz3)
      (case hiz3 => rfl)
      (case hsz3 => kernel_rfl)
      (case hfz3 => kernel_rfl)
      (case hrz3 => kernel_rfl)
      (case hwz3 => kernel_rfl)
      (case hQz3 => first | exact fun _ _ _ h => h | exact fun _ _ _ h => (nomatch h.1))
      (case hSz3 => assumption)
      (case hyz3 => (refine Or.inl ⟨by rfl, ?_⟩; intro W hW; (try dsimp only at hW); go_simp; try with_reducible rfl))
      (try simp only [List.getElem_toArray, List.getElem_cons_succ, List.getElem_cons_zero, Act.put, List.setIfInBounds_toArray, List.set_cons_zero, List.set_cons_succ])
      (refine wpAnyZ_take (i := 4) (oi := ?oiz4) (v := ?vz4) ?hiz4 ?hsz4 ?hfz4 ?hrz4 ?hwz4 ?hQz4 ?hSz4 ?hyz4 ?hz4)
      (case hiz4 => rfl)
      (case hsz4 => kernel_rfl)
      (case hfz4 => kernel_rfl)
      (case hrz4 => kernel_rfl)
      (case hwz4 => kernel_rfl)
      (case hQz4 => first | exact fun _ _ _ h => h | exact fun _ _ _ h => (nomatch h.1))
      (case hSz4 => assumption)
      (case hyz4 => (refine Or.inl ⟨by rfl, ?_⟩; intro W hW; (try dsimp only at hW); go_simp; try with_reducible rfl))
      (try simp only [List.getElem_toArray, List.getElem_cons_succ, List.getElem_cons_zero, Act.put, List.setIfInBounds_toArray, List.set_cons_zero, List.set_cons_succ])
      (refine wpAnyZ_take (i := 5) (oi := ?oiz5) (v := ?vz5) ?hiz5 ?hsz5 ?hfz5 ?hrz5 ?hwz5 ?hQz5 ?hSz5 ?hyz5 ?hz5)
      (case hiz5 => rfl)
      (case hsz5 => kernel_rfl)
      (case hfz5 => kernel_rfl)
      (case hrz5 => kernel_rfl)
      (case hwz5 => kernel_rfl)
      (case hQz5 => first | exact fun _ _ _ h => h | exact fun _ _ _ h => (nomatch h.1))
      (case hSz5 => assumption)
      (case hyz5 => (refine Or.inl ⟨by rfl, ?_⟩; intro W hW; (try dsimp only at hW); go_simp; try with_reducible rfl))
      (try simp only [List.getElem_toArray, List.getElem_cons_succ, List.getElem_cons_zero, Act.put, List.setIfInBounds_toArray, List.set_cons_zero, List.set_cons_succ])
      (refine wpAnyZ_take (i := 6) (oi := ?oiz6) (v := ?vz6) ?hiz6 ?hsz6 ?hfz6 ?hrz6 ?hwz6 ?hQz6 ?hSz6 ?hyz6 ?hz6)
      (case hiz6 => rfl)
      (case hsz6 => kernel_rfl)
      (case hfz6 => kernel_rfl)
      (case hrz6 => kernel_rfl)
      (case hwz6 => kernel_rfl)
      (case hQz6 => first | exact fun _ _ _ h => h | exact fun _ _ _ h => (nomatch h.1))
      (case hSz6 => assumption)
      (case hyz6 => (refine Or.inl ⟨by rfl, ?_⟩; intro W hW; (try dsimp only at hW); go_simp; try with_reducible rfl))
      (try simp only [List.getElem_toArray, List.getElem_cons_succ, List.getElem_cons_zero, Act.put, List.setIfInBounds_toArray, List.set_cons_zero, List.set_cons_succ])
      refine wpAnyZ_one (i := 7) (by kernel_rfl) rfl (fun K hK => ?_)
      go_simp
      refine (LK.out _ _ (hinS.out _ (by assumption))).mono ?_; rintro e7 w7 ⟨rfl, hb7⟩; have hz7 := hb7.size; (try simp at hz7)
      refine hK.out _ _ ?_ (fun hHeld => ?_)
      · exact keepS.out _ _ (by assumption) (hb7.mono (leS.out _ (by assumption)))
      clear hK K
      (try simp only [List.getElem_toArray, List.getElem_cons_succ, List.getElem_cons_zero, Act.put, List.setIfInBounds_toArray, List.set_cons_zero, List.set_cons_succ])
      refine wpAnyZ_one (i := 8) (by kernel_rfl) rfl (fun K hK => ?_)
      go_simp
      refine hK.out _ _ ?_ (fun hHeld => ?_)
      · exact keepS.out _ _ (by assumption) ((Below.refl _ _).alloc (leS.out _ (by assumption)) _)
      clear hK K
      (try simp only [List.getElem_toArray, List.getElem_cons_succ, List.getElem_cons_zero, Act.put, List.setIfInBounds_toArray, List.set_cons_zero, List.set_cons_succ])
      refine wpAnyZ_one (i := 9) (by kernel_rfl) rfl (fun K hK => ?_)
      refine step_append_lies _ (by rfl) _ _ _ (by rfl) (w3.heap.size + 1) 50 i0 _ 1 8 Try.underlying25 hi0 hi0z hi0s hi0b rfl (by omega) (.slice fa k fc) k _ (by rfl) ((HOW.out _ ((Below.refl wr.heap.size wr).drew.trans hb7)).alloc _) ⟨w7.heap.size, 0, none⟩ 1 1 [.int .u64 l[i + 2 + k]] (by rfl) (by rfl) (cell_one_new _ _ _) (fun x hx => by simp at hx; subst hx; rfl) (by omega) hsz63 hszB (by simp; omega) _ rfl ?_
      intro g cap w9 hown9 hgrow hat hlt9
      have hS8 := hHeld
      refine hK.out _ _ ?_ (fun hHeld => ?_)
      · exact keepS.out _ _ hS8 (HGR.out _ _ (leS.out _ hS8) hgrow)
      clear hK K
      (try simp only [List.getElem_toArray, List.getElem_cons_succ, List.getElem_cons_zero, Act.put, List.setIfInBounds_toArray, List.set_cons_zero, List.set_cons_succ])
      (refine wpAnyZ_take (i := 10) (oi := ?oiz10) (v := ?vz10) ?hiz10 ?hsz10 ?hfz10 ?hrz10 ?hwz10 ?hQz10 ?hSz10 ?hyz10 ?hz10)
      (case hiz10 => rfl)
      (case hsz10 => kernel_rfl)
      (case hfz10 => kernel_rfl)
      (case hrz10 => kernel_rfl)
      (case hwz10 => kernel_rfl)
      (case hQz10 => first | exact fun _ _ _ h => h | exact fun _ _ _ h => (nomatch h.1))
      (case hSz10 => assumption)
      (case hyz10 => (refine Or.inl ⟨by rfl, ?_⟩; intro W hW; (try dsimp only at hW); go_simp; try with_reducible rfl))
      (try simp only [List.getElem_toArray, List.getElem_cons_succ, List.getElem_cons_zero, Act.put, List.setIfInBounds_toArray, List.set_cons_zero, List.set_cons_succ])
      have hO9 : w9.heap[w3.heap.size]? = some (.cells #[.int .i64 i, .int .i64 (hShape l[i]), .int .i64 (hMark l[i]), .int .u64 l[i + 1], .slice fa k fc] 52 (0, 0)) := ((HGR.out _ _ (leS.out _ hS8) hgrow).block w3.heap.size (by omega)).trans ((Below.heap_alloc _ _ _ (by omega)).trans ((hb7.block w3.heap.size (by show w3.heap.size < wr.heap.size; omega)).trans hOr))
      have z4 : w9.frozen? ⟨w3.heap.size, 4, none⟩ = false := by simp [World.frozen?, hO9]
      have y4 : w9.cell? ⟨w3.heap.size, 4, none⟩ = some (.slice fa k fc) := by simp [World.cell?, hO9]
      refine wpAnyZ_end (by kernel_rfl) rfl (fun K hK => ?_)
      go_simp
      refine hK.out _ _ ?_
      clear hK K
      refine wpAnyZ_done (by kernel_rfl) ?_ _
      refine NoPanic.normal ?_
      have hg9 : w3.heap.size + 1 ≤ g := (hown9.lt g rfl).1
      have hb39 : Below w3.heap.size w3 w9 := hHeld.2.2.2
      generalize hW10 : w9.setCell ⟨w3.heap.size, 4, none⟩ (.slice (some ⟨g, 0, none⟩) (k + 1) cap) = w10
      have hbA : Below w3.heap.size w3 w10 := by rw [← hW10]; exact hb39.setCell (Nat.le_refl _) _
      have hOA : w10.heap[w3.heap.size]? = some (.cells #[.int .i64 i, .int .i64 (hShape l[i]), .int .i64 (hMark l[i]), .int .u64 l[i + 1], .slice (some ⟨g, 0, none⟩) (k + 1) cap] 52 (0, 0)) := by
        rw [← hW10]
        simp [World.setCell, Array.getElem?_modify, hO9]
      have hownA : w10.ownsRow (w3.heap.size + 1) 50 1 (.slice (some ⟨g, 0, none⟩) (k + 1) cap) (k + 1) ((fldsO l i (k + 1)).map (fun x => Value.int .u64 x)) := by
        rw [HF.out, List.map_append, ← hW10]
        refine hown9.kept (row := some w3.heap.size) ⟨rfl, rfl, rfl, by simp [World.setCell], fun j hj hne => Below.heap_setCell _ _ _ _ (fun e => hne (by rw [e]))⟩ (.inr ?_)
        intro e
        have e' : g = w3.heap.size := Option.some.inj e
        omega
      clear hW10 hHeld hO9 z4 y4 hown9 hgrow hat hlt9 hS8 hown hOr keepS hinS leS HOW HGR
      go_wp2
      go_roundw
      case rel => exact ⟨k + 1, _, by omega, by go_num, hbA, hOA, hownA⟩
      case measure => simp [intOf]; omega
    · obtain rfl : k = n - 2 := by omega
      have hb1r : Below w1.heap.size w1 wr := hb13.trans (hBr.mono (by omega))
      have kc := fun B o (hB : B < w1.heap.size) => hb1r.cell (p := ⟨B, o, none⟩) hB
      have kf := fun B o (hB : B < w1.heap.size) => hb1r.frozen (p := ⟨B, o, none⟩) hB
      replace o0 := (kc (w.heap.size + 1) 0 (by omega)).trans o0
      replace o1 := (kc (w.heap.size + 1) 1 (by omega)).trans o1
      replace o2 := (kc (w.heap.size + 1) 2 (by omega)).trans o2
      replace o3 := (kc (w.heap.size + 1) 3 (by omega)).trans o3
      replace o4 := (kc (w.heap.size + 1) 4 (by omega)).trans o4
      replace p0 := (kf (w.heap.size + 1) 0 (by omega)).trans p0
      replace p1 := (kf (w.heap.size + 1) 1 (by omega)).trans p1
      replace p2 := (kf (w.heap.size + 1) 2 (by omega)).trans p2
      replace p3 := (kf (w.heap.size + 1) 3 (by omega)).trans p3
      replace p4 := (kf (w.heap.size + 1) 4 (by omega)).trans p4
      replace e0 := (kc (w.heap.size + 1 + 1) 0 (by omega)).trans e0
      replace z0 := (kf (w.heap.size + 1 + 1) 0 (by omega)).trans z0
      clear kc kf
      have q0 : wr.cell? ⟨w3.heap.size, 0, none⟩ = some (.int .i64 i) := by simp [World.cell?, hOr]
      have q1 : wr.cell? ⟨w3.heap.size, 1, none⟩ = some (.int .i64 (hShape l[i])) := by simp [World.cell?, hOr]
      have q2 : wr.cell? ⟨w3.heap.size, 2, none⟩ = some (.int .i64 (hMark l[i])) := by simp [World.cell?, hOr]
      have q3 : wr.cell? ⟨w3.heap.size, 3, none⟩ = some (.int .u64 l[i + 1]) := by simp [World.cell?, hOr]
      have q4 : wr.cell? ⟨w3.heap.size, 4, none⟩ = some (.slice fa (n - 2) fc) := by simp [World.cell?, hOr]
      go_wp2_with fail
      generalize hW : (((((wr.setCell _ _).setCell _ _).setCell _ _).setCell _ _).setCell _ _).setCell _ _ = W
      have E0 : W.cell? ⟨w.heap.size + 1, 0, none⟩ = some (.int .i64 i) := by rw [← hW]; simp [go_sem, o0, o1, o2, o3, o4, e0]
      have E1 : W.cell? ⟨w.heap.size + 1, 1, none⟩ = some (.int .i64 (hShape l[i])) := by rw [← hW]; simp [go_sem, o0, o1, o2, o3, o4, e0]
      have E2 : W.cell? ⟨w.heap.size + 1, 2, none⟩ = some (.int .i64 (hMark l[i])) := by rw [← hW]; simp [go_sem, o0, o1, o2, o3, o4, e0]
      have E3 : W.cell? ⟨w.heap.size + 1, 3, none⟩ = some (.int .u64 l[i + 1]) := by rw [← hW]; simp [go_sem, o0, o1, o2, o3, o4, e0]
      have E4 : W.cell? ⟨w.heap.size + 1, 4, none⟩ = some (.slice fa (n - 2) fc) := by rw [← hW]; simp [go_sem, o0, o1, o2, o3, o4, e0]
      have E5 : W.cell? ⟨w.heap.size + 1 + 1, 0, none⟩ = some (.int .i64 0) := by rw [← hW]; simp [go_sem, o0, o1, o2, o3, o4, e0]
      have hbW : Below w.heap.size w W := by
        have hz13 := hb13.size
        have hb0 : Below w.heap.size w wr := (Below.then ((((Below.refl w.heap.size w).alloc (Nat.le_refl _) _).alloc (by simp) _).alloc (by simp; omega) _) hb1 (by simp; omega)).trans (hb1r.mono (by omega))
        rw [← hW]
        exact (((((hb0.setCell (by show w.heap.size ≤ w.heap.size + 1; omega) _).setCell (by show w.heap.size ≤ w.heap.size + 1; omega) _).setCell (by show w.heap.size ≤ w.heap.size + 1; omega) _).setCell (by show w.heap.size ≤ w.heap.size + 1; omega) _).setCell (by show w.heap.size ≤ w.heap.size + 1; omega) _).setCell (by show w.heap.size ≤ w.heap.size + 1 + 1; omega) _
      have howW : WdsOf W fa (fldsO l i (n - 2)) := by
        refine owns_wds (B := w3.heap.size + 1) (e := 50) (fc := fc) (n := n - 2) ?_
        rw [← hW]
        have st : ∀ (A : World) (B o : Nat) (v : Value), B < w3.heap.size + 1 → A.ownsRow (w3.heap.size + 1) 50 1 (.slice fa (n - 2) fc) (n - 2) ((fldsO l i (n - 2)).map (fun x => Value.int .u64 x)) → (A.setCell ⟨B, o, none⟩ v).ownsRow (w3.heap.size + 1) 50 1 (.slice fa (n - 2) fc) (n - 2) ((fldsO l i (n - 2)).map (fun x => Value.int .u64 x)) := by
          intro A B o v hB hA
          refine hA.kept (row := some B) ⟨rfl, rfl, rfl, by simp [World.setCell], fun j hj hne => Below.heap_setCell _ _ _ _ (fun e => hne (by rw [e]))⟩ ?_
          cases hx : Value.ownBlock (.slice fa (n - 2) fc) with
          | none => exact .inl rfl
          | some j =>
            right
            intro e
            injection e with e
            have := (hA.lt j hx).1
            omega
        have hz13 := hb13.size
        exact st _ _ _ _ (by omega) (st _ _ _ _ (by omega) (st _ _ _ _ (by omega) (st _ _ _ _ (by omega) (st _ _ _ _ (by omega) (st _ _ _ _ (by omega) hown)))))
      have hfr : FreshA w.heap.size fa := fun ad e => by
        have h1 := (hown.lt ad.block (by rw [e]; rfl)).1
        have h2 := hb13.size
        omega
      clear hW
      refine leaves_cons (f := 29) (args := #[.pointer (some ⟨w.heap.size + 1 + 1, 0, none⟩)]) (by simp) (by simp [go_sem]) ?_
      refine (caught_idle (w.heap.size + 1 + 1) _).mono ?_
      rintro e u' w'' ⟨rfl, rfl, rfl⟩
      simp [Leaves, settle, results, Try.results18, go_sem, E0, E1, E2, E3, E4, E5]
      exact ⟨howW, hfr, hbW⟩
end Go.Proofs.Ytiodkcecpnomcaa
