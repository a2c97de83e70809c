/- The laws of layer 'object': a heap's words as they are made. -/
import Derived.Test.YtiodkcecpnomcaaWalkC
import Derived.Test.YtiodkcecpnomcaaObjT
namespace Go.Proofs.Ytiodkcecpnomcaa
open Go.RowKit
set_option linter.unusedVariables false
set_option linter.unusedSimpArgs false
attribute [local go_sem ↓] Go.wp_at_zero Go.wp_at_succ

def madeB (t sp : Int) (ss : List ByteArray) (k : Nat) (more : Int) : Bool := planB t sp ss && decide (sp ≤ 100) && decide (k ≤ 300) && decide (-3 ≤ more) && decide (more ≤ 3)
def padTo (ws : List Int) (n : Nat) : List Int := ws.take n ++ List.replicate (n - ws.length) 0
theorem padTo_len (ws : List Int) (n : Nat) : (padTo ws n).length = n := by
  unfold padTo
  rw [List.length_append, List.length_take, List.length_replicate]
  omega
theorem padTo_rng {ws : List Int} {n : Nat} (h : ∀ x ∈ ws, 0 ≤ x ∧ x < 18446744073709551616) : ∀ x ∈ padTo ws n, 0 ≤ x ∧ x < 18446744073709551616 := by
  intro x hx
  unfold padTo at hx
  rcases List.mem_append.1 hx with h1 | h1
  · exact h x (List.mem_of_mem_take h1)
  · rw [(List.mem_replicate.1 h1).2]
    decide
def madeN (t sp more : Int) : Nat := (3 + 2 * t + 2 * sp + more).toNat
def madeL (t sp : Int) (ss : List ByteArray) (ws : List Int) (more : Int) : List Int := if madeB t sp ss ws.length more = true then padTo ws (madeN t sp more) else []
def heapA (t sp : Int) (a : Option Addr) (n c : Nat) (wa : Option Addr) (wn wc : Nat) (more : Int) : Value := .agg #[.int .i64 t, .int .i64 sp, .slice a n c, .slice wa wn wc, .int .i64 more]

theorem r7LySize_calls (t sp : Int) (a : Option Addr) (c m : Nat) (b1 : 1 ≤ t) (b2 : t ≤ 8) (b3 : 32 ≤ sp) (b4 : sp ≤ 4096) (w : World) :
    Calls Try.prog 26 #[.agg #[.int .i64 t, .int .i64 sp, .slice a m c]] w fun e w' => e = .returned (.int .i64 (3 + 2 * t + 2 * sp)) ∧ Below w.heap.size w w' := by
  go_enter Try.func26, Try.ntmps26
  go_wp2
  go_ret
  exact ⟨rfl, by (repeat (first | exact Below.refl _ _ | (with_reducible assumption) | refine Below.drew ?_ | refine Below.drewN' ?_ _ | refine Below.alloc ?_ (by first | omega | (simp; done) | (simp; omega)) _ | refine Below.setCell ?_ (by first | omega | (simp; done) | (simp; omega)) _ | refine Below.then ?_ hb9 (by first | omega | (simp; done) | (simp; omega)) | refine Below.then ?_ hb8 (by first | omega | (simp; done) | (simp; omega)) | refine Below.then ?_ hb7 (by first | omega | (simp; done) | (simp; omega)) | refine Below.then ?_ hb6 (by first | omega | (simp; done) | (simp; omega)) | refine Below.then ?_ hb5 (by first | omega | (simp; done) | (simp; omega)) | refine Below.then ?_ hb4 (by first | omega | (simp; done) | (simp; omega)) | refine Below.then ?_ hb3 (by first | omega | (simp; done) | (simp; omega)) | refine Below.then ?_ hb2 (by first | omega | (simp; done) | (simp; omega)) | refine Below.then ?_ hb1 (by first | omega | (simp; done) | (simp; omega))))⟩

set_option maxRecDepth 100000 in
set_option maxHeartbeats 3200000 in
theorem made_no (t sp : Int) (a : Option Addr) (c : Nat) (ss : List ByteArray) (wa : Option Addr) (wc wn : Nat) (more : Int) (hm : madeB t sp ss wn more = false) (hn : Fit ss) (w : World) (h : SlOf w a (strV ss)) :
    Calls Try.prog 9 #[heapA t sp a ss.length c wa wn wc more] w fun e w' => e = .returned (.slice none 0 0) ∧ Below w.heap.size w w' := by
  have HR := fun W h => lyRight_calls t sp a c ss hn W h
  have HS := Lib.hid h
  clear h
  unfold heapA
  cases hp : planB t sp ss with
  | false =>
    rw [hp] at HR
    have HR := Lib.hid HR
    clear hm hp
    go_enter Try.func9, Try.ntmps9
    go_wp2_with fail
    refine (HR.out _ (HS.out.alloc _)).mono ?_; rintro e1 w1 ⟨rfl, hb1⟩; have hz1 := hb1.size; (try simp at hz1)
    go_wp2
    go_ret
    exact ⟨rfl, by (repeat (first | exact Below.refl _ _ | (with_reducible assumption) | refine Below.drew ?_ | refine Below.drewN' ?_ _ | refine Below.alloc ?_ (by first | omega | (simp; done) | (simp; omega)) _ | refine Below.setCell ?_ (by first | omega | (simp; done) | (simp; omega)) _ | refine Below.then ?_ hb9 (by first | omega | (simp; done) | (simp; omega)) | refine Below.then ?_ hb8 (by first | omega | (simp; done) | (simp; omega)) | refine Below.then ?_ hb7 (by first | omega | (simp; done) | (simp; omega)) | refine Below.then ?_ hb6 (by first | omega | (simp; done) | (simp; omega)) | refine Below.then ?_ hb5 (by first | omega | (simp; done) | (simp; omega)) | refine Below.then ?_ hb4 (by first | omega | (simp; done) | (simp; omega)) | refine Below.then ?_ hb3 (by first | omega | (simp; done) | (simp; omega)) | refine Below.then ?_ hb2 (by first | omega | (simp; done) | (simp; omega)) | refine Below.then ?_ hb1 (by first | omega | (simp; done) | (simp; omega))))⟩
  | true =>
    obtain ⟨b1, b2, b3, b4, _⟩ := plan_ok hp
    have hrr : 100 < sp ∨ (¬ 100 < sp ∧ (300 < wn ∨ (¬ 300 < wn ∧ (more < -3 ∨ (¬ more < -3 ∧ 3 < more))))) := by
      unfold madeB at hm
      rw [hp] at hm
      simp only [Bool.true_and, Bool.and_eq_false_iff, decide_eq_false_iff_not] at hm
      omega
    rw [hp] at HR
    have HR := Lib.hid HR
    clear hm hp
    rcases hrr with h1 | ⟨h1, h2 | ⟨h2, h3 | ⟨h3, h4⟩⟩⟩
    all_goals (
      go_enter Try.func9, Try.ntmps9
      go_wp2_with fail
      refine (HR.out _ (HS.out.alloc _)).mono ?_; rintro e1 w1 ⟨rfl, hb1⟩; obtain ⟨hc1, hf1⟩ := bcell hb1; have hz1 := hb1.size; (try simp at hz1)
      have q1 := hc1 w.heap.size 1 (by first | omega | (simp; done) | (simp; omega)); simp [go_sem] at q1
      have q3 := hc1 w.heap.size 3 (by first | omega | (simp; done) | (simp; omega)); simp [go_sem] at q3
      have q4 := hc1 w.heap.size 4 (by first | omega | (simp; done) | (simp; omega)); simp [go_sem] at q4
      go_wp2
      go_ret
      exact ⟨rfl, by (repeat (first | exact Below.refl _ _ | (with_reducible assumption) | refine Below.drew ?_ | refine Below.drewN' ?_ _ | refine Below.alloc ?_ (by first | omega | (simp; done) | (simp; omega)) _ | refine Below.setCell ?_ (by first | omega | (simp; done) | (simp; omega)) _ | refine Below.then ?_ hb9 (by first | omega | (simp; done) | (simp; omega)) | refine Below.then ?_ hb8 (by first | omega | (simp; done) | (simp; omega)) | refine Below.then ?_ hb7 (by first | omega | (simp; done) | (simp; omega)) | refine Below.then ?_ hb6 (by first | omega | (simp; done) | (simp; omega)) | refine Below.then ?_ hb5 (by first | omega | (simp; done) | (simp; omega)) | refine Below.then ?_ hb4 (by first | omega | (simp; done) | (simp; omega)) | refine Below.then ?_ hb3 (by first | omega | (simp; done) | (simp; omega)) | refine Below.then ?_ hb2 (by first | omega | (simp; done) | (simp; omega)) | refine Below.then ?_ hb1 (by first | omega | (simp; done) | (simp; omega))))⟩)

set_option maxRecDepth 100000 in
set_option maxHeartbeats 3200000 in
theorem made_ok (t sp : Int) (a : Option Addr) (c : Nat) (ss : List ByteArray) (wa : Option Addr) (wc : Nat) (ws : List Int) (more : Int) (hm : madeB t sp ss ws.length more = true) (hn : Fit ss) (hwn : wa = none → ws.length = 0 ∧ wc = 0) (hr : ∀ x ∈ ws, 0 ≤ x ∧ x < 18446744073709551616) (w : World) (h : SlOf w a (strV ss)) (hw : WdsOf w wa ws) :
    Calls Try.prog 9 #[heapA t sp a ss.length c wa ws.length wc more] w fun e w' => ∃ g, e = .returned (.slice (some ⟨g, 0, none⟩) (madeN t sp more) (madeN t sp more)) ∧ WdsOf w' (some ⟨g, 0, none⟩) (padTo ws (madeN t sp more)) ∧ Below w.heap.size w w' := by
  have HR := fun W h => lyRight_calls t sp a c ss hn W h
  have hm' := hm
  unfold madeB at hm'
  simp only [Bool.and_eq_true, decide_eq_true_eq] at hm'
  obtain ⟨⟨⟨⟨hp, h1⟩, h2⟩, h3⟩, h4⟩ := hm'
  obtain ⟨b1, b2, b3, b4, _⟩ := plan_ok hp
  have hN : ((madeN t sp more : Nat) : Int) = 3 + 2 * t + 2 * sp + more := by unfold madeN; omega
  have hpl := padTo_len ws (madeN t sp more)
  generalize madeN t sp more = N at hN hpl
  have hNm : 66 ≤ N ∧ N ≤ 222 := by omega
  have MK := fun W => run_makeU64 W N (by omega)
  rw [hN] at MK
  rw [hp] at HR
  have HR := Lib.hid HR
  have HS := Lib.hid h
  have HW := Lib.hid hw
  have HRN := Lib.hid hr
  clear hm hp h hw hr
  unfold heapA
  have w1' : IntKind.i64.wrap (3 + 2 * t + 2 * sp + more) = 3 + 2 * t + 2 * sp + more := IntWalk.i64_in _ (by omega)
  go_enter Try.func9, Try.ntmps9
  go_wp2_with fail
  refine (HR.out _ (HS.out.alloc _)).mono ?_; rintro e1 w1 ⟨rfl, hb1⟩; obtain ⟨hc1, hf1⟩ := bcell hb1; have hz1 := hb1.size; (try simp at hz1)
  have q0 := hc1 w.heap.size 0 (by first | omega | (simp; done) | (simp; omega)); simp [go_sem] at q0
  have q1 := hc1 w.heap.size 1 (by first | omega | (simp; done) | (simp; omega)); simp [go_sem] at q1
  have q2 := hc1 w.heap.size 2 (by first | omega | (simp; done) | (simp; omega)); simp [go_sem] at q2
  have q3 := hc1 w.heap.size 3 (by first | omega | (simp; done) | (simp; omega)); simp [go_sem] at q3
  have q4 := hc1 w.heap.size 4 (by first | omega | (simp; done) | (simp; omega)); simp [go_sem] at q4
  have hb01 : Below w.heap.size w w1 := by (repeat (first | exact Below.refl _ _ | (with_reducible assumption) | refine Below.drew ?_ | refine Below.drewN' ?_ _ | refine Below.alloc ?_ (by first | omega | (simp; done) | (simp; omega)) _ | refine Below.setCell ?_ (by first | omega | (simp; done) | (simp; omega)) _ | refine Below.then ?_ hb9 (by first | omega | (simp; done) | (simp; omega)) | refine Below.then ?_ hb8 (by first | omega | (simp; done) | (simp; omega)) | refine Below.then ?_ hb7 (by first | omega | (simp; done) | (simp; omega)) | refine Below.then ?_ hb6 (by first | omega | (simp; done) | (simp; omega)) | refine Below.then ?_ hb5 (by first | omega | (simp; done) | (simp; omega)) | refine Below.then ?_ hb4 (by first | omega | (simp; done) | (simp; omega)) | refine Below.then ?_ hb3 (by first | omega | (simp; done) | (simp; omega)) | refine Below.then ?_ hb2 (by first | omega | (simp; done) | (simp; omega)) | refine Below.then ?_ hb1 (by first | omega | (simp; done) | (simp; omega))))
  have l1 : w.heap.size < w1.heap.size := by first | omega | (simp; done) | (simp; omega)
  go_wp2_with fail
  have keepS := Lib.hid (show ∀ A B' : World, (A.cell? ⟨w.heap.size, 0, none⟩ = some (.int .i64 t) ∧ A.cell? ⟨w.heap.size, 1, none⟩ = some (.int .i64 sp) ∧ A.cell? ⟨w.heap.size, 2, none⟩ = some (.slice a ss.length c) ∧ A.cell? ⟨w.heap.size, 3, none⟩ = some (.slice wa ws.length wc) ∧ A.cell? ⟨w.heap.size, 4, none⟩ = some (.int .i64 more) ∧ w.heap.size + 1 ≤ A.heap.size ∧ Below w.heap.size w A) → Below A.heap.size A B' → (B'.cell? ⟨w.heap.size, 0, none⟩ = some (.int .i64 t) ∧ B'.cell? ⟨w.heap.size, 1, none⟩ = some (.int .i64 sp) ∧ B'.cell? ⟨w.heap.size, 2, none⟩ = some (.slice a ss.length c) ∧ B'.cell? ⟨w.heap.size, 3, none⟩ = some (.slice wa ws.length wc) ∧ B'.cell? ⟨w.heap.size, 4, none⟩ = some (.int .i64 more) ∧ w.heap.size + 1 ≤ B'.heap.size ∧ Below w.heap.size w B') from fun A B' hc hb => ⟨hold_cell hc.1 hb (by have := hc.2.2.2.2.2.1; show w.heap.size < _; omega), hold_cell hc.2.1 hb (by have := hc.2.2.2.2.2.1; show w.heap.size < _; omega), hold_cell hc.2.2.1 hb (by have := hc.2.2.2.2.2.1; show w.heap.size < _; omega), hold_cell hc.2.2.2.1 hb (by have := hc.2.2.2.2.2.1; show w.heap.size < _; omega), hold_cell hc.2.2.2.2.1 hb (by have := hc.2.2.2.2.2.1; show w.heap.size < _; omega), Nat.le_trans hc.2.2.2.2.2.1 hb.size, Below.then hc.2.2.2.2.2.2 hb (by have := hc.2.2.2.2.2.1; omega)⟩)
  have LS := Lib.hid (fun W => r7LySize_calls t sp a c ss.length b1 b2 b3 b4 W)
  have hl1 : w.heap.size + 1 ≤ w1.heap.size := by omega
  clear hc1 hf1
  go_region_held3 (fun w' => (w'.cell? ⟨w.heap.size, 0, none⟩ = some (.int .i64 t) ∧ w'.cell? ⟨w.heap.size, 1, none⟩ = some (.int .i64 sp) ∧ w'.cell? ⟨w.heap.size, 2, none⟩ = some (.slice a ss.length c) ∧ w'.cell? ⟨w.heap.size, 3, none⟩ = some (.slice wa ws.length wc) ∧ w'.cell? ⟨w.heap.size, 4, none⟩ = some (.int .i64 more) ∧ w.heap.size + 1 ≤ w'.heap.size ∧ Below w.heap.size w w')) (first | exact keepS.out w1 _ ⟨q0, q1, q2, q3, q4, hl1, hb01⟩ (Below.refl _ _).drew | exact keepS.out _ _ (by assumption) hb2 | exact keepS.out _ _ (by assumption) ((Below.refl _ _).alloc (Nat.le_refl _) _)) (first | (go_at_call 26; refine (LS.out _).mono ?_; rintro e2 w2 ⟨rfl, hb2⟩; have hz2 := hb2.size; (try simp at hz2)))
  have hS3 : ((w2.alloc (Obj.cells (u64s (List.replicate N 0)) 50)).cell? ⟨w.heap.size, 0, none⟩ = some (.int .i64 t) ∧ (w2.alloc (Obj.cells (u64s (List.replicate N 0)) 50)).cell? ⟨w.heap.size, 1, none⟩ = some (.int .i64 sp) ∧ (w2.alloc (Obj.cells (u64s (List.replicate N 0)) 50)).cell? ⟨w.heap.size, 2, none⟩ = some (.slice a ss.length c) ∧ (w2.alloc (Obj.cells (u64s (List.replicate N 0)) 50)).cell? ⟨w.heap.size, 3, none⟩ = some (.slice wa ws.length wc) ∧ (w2.alloc (Obj.cells (u64s (List.replicate N 0)) 50)).cell? ⟨w.heap.size, 4, none⟩ = some (.int .i64 more) ∧ w.heap.size + 1 ≤ (w2.alloc (Obj.cells (u64s (List.replicate N 0)) 50)).heap.size ∧ Below w.heap.size w (w2.alloc (Obj.cells (u64s (List.replicate N 0)) 50))) := by assumption
  have hg3 : (w2.alloc (Obj.cells (u64s (List.replicate N 0)) 50)).heap[w2.heap.size]? = some (.cells (u64s (List.replicate N 0)) 50 (0, 0)) := (MapKept.heap_alloc w2 _).1
  generalize hW3 : w2.alloc (Obj.cells (u64s (List.replicate N 0)) 50) = w3 at hg3 hS3 ⊢
  have hz3 : w.heap.size ≤ w2.heap.size := by omega
  obtain ⟨-, -, -, r3, -, -, hb03⟩ := hS3
  clear hW3 keepS LS MK HR q0 q1 q2 q3 q4
  rcases wds_cases (show WdsOf w3 wa ws from SlOf.below HW.out hb03) with rfl | ⟨b', o', rfl, hb', hnews⟩
  · have hpd : u64s (List.replicate N 0) = u64s (padTo [] N) := by unfold padTo; simp
    rw [hpd] at hg3
    cases wa with
    | none =>
      obtain ⟨-, rfl⟩ := hwn rfl
      have hcp := run_copy_nil (P := Try.prog) w3 25 25 3 50 ⟨w2.heap.size, 0, none⟩ N N Try.underlying25 rfl
      go_wp2
      go_ret
      refine ⟨w2.heap.size, rfl, .inr ⟨w2.heap.size, 0, rfl, (Array.getElem?_eq_some_iff.1 hg3).1, fun i hi => ?_⟩, hb03⟩
      have hv : (padTo [] N)[i]? = some ((padTo [] N)[i]'(by simpa using hi)) := List.getElem?_eq_getElem _
      simp [World.cell?, hg3, u64s, hv]
    | some ad =>
      have hcp := run_copy_row (P := Try.prog) w3 25 25 3 50 w2.heap.size 0 N N ad 0 wc (u64s (padTo [] N)) 50 [] Try.underlying25 rfl hg3 (by simp) (fun j v hv => by cases hv) (by simp) (fun v hv => by cases hv)
      have e5 : ((u64s (padTo [] N)).toList.take 0 ++ [] ++ (u64s (padTo [] N)).toList.drop (0 + ([] : List Value).length)).toArray = u64s (padTo [] N) := by simp
      rw [e5] at hcp
      have hg4 := setRow_heap w3 w2.heap.size _ (u64s (padTo [] N)) _ _ hg3
      have hb4 := below_setRow hb03 hz3 (u64s (padTo [] N))
      generalize w3.setRow w2.heap.size (u64s (padTo [] N)) = w4 at hcp hg4 hb4
      go_wp2
      go_ret
      refine ⟨w2.heap.size, rfl, .inr ⟨w2.heap.size, 0, rfl, (Array.getElem?_eq_some_iff.1 hg4).1, fun i hi => ?_⟩, hb4⟩
      have hv : (padTo [] N)[i]? = some ((padTo [] N)[i]'(by simpa using hi)) := List.getElem?_eq_getElem _
      simp [World.cell?, hg4, u64s, hv]
  · have hcl : ((ws.take N).map (fun x => Value.int .u64 x)).length = Nat.min ws.length N := by rw [List.length_map, List.length_take]; exact Nat.min_comm _ _
    have hcp := run_copy_row (P := Try.prog) w3 25 25 3 50 w2.heap.size 0 N N ⟨b', o', none⟩ ws.length wc (u64s (List.replicate N 0)) 50 ((ws.take N).map (fun x => Value.int .u64 x)) Try.underlying25 rfl hg3 hcl (fun j v hv => hnews j v (by
      obtain ⟨hj, rfl⟩ := List.getElem?_eq_some_iff.1 hv
      rw [List.length_map, List.length_take] at hj
      rw [List.getElem_map, List.getElem_take, List.getElem?_map, List.getElem?_eq_getElem (by omega)]
      rfl)) (by rw [hcl, u64s_size, List.length_replicate, Nat.zero_add]; exact Nat.min_le_right _ _) (fun v hv => by obtain ⟨x, _, rfl⟩ := List.mem_map.1 hv; rfl)
    have e5 : ((u64s (List.replicate N 0)).toList.take 0 ++ (ws.take N).map (fun x => Value.int .u64 x) ++ (u64s (List.replicate N 0)).toList.drop (0 + ((ws.take N).map (fun x => Value.int .u64 x)).length)).toArray = u64s (padTo ws N) := by
      have e6 : N - (0 + Nat.min ws.length N) = N - ws.length := by
        show N - (0 + min ws.length N) = N - ws.length
        omega
      rw [hcl]
      unfold padTo u64s
      rw [List.take_zero, List.nil_append, List.map_append]
      congr 1
      congr 1
      rw [List.toList_toArray, List.map_replicate, List.map_replicate, List.drop_replicate, e6]
    rw [e5] at hcp
    have hg4 := setRow_heap w3 w2.heap.size _ (u64s (padTo ws N)) _ _ hg3
    have hb4 := below_setRow hb03 hz3 (u64s (padTo ws N))
    generalize w3.setRow w2.heap.size (u64s (padTo ws N)) = w4 at hcp hg4 hb4
    go_wp2
    go_ret
    refine ⟨w2.heap.size, rfl, .inr ⟨w2.heap.size, 0, rfl, (Array.getElem?_eq_some_iff.1 hg4).1, fun i hi => ?_⟩, hb4⟩
    have hv : (padTo ws N)[i]? = some ((padTo ws N)[i]'(by simpa using hi)) := List.getElem?_eq_getElem _
    simp [World.cell?, hg4, u64s, hv]
end Go.Proofs.Ytiodkcecpnomcaa
