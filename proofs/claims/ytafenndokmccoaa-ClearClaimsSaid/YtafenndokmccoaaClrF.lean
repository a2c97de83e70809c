/- The layer 'wipe': machines are made. The law: a machine that is alone on an arena. -/
import Derived.Test.YtafenndokmccoaaClrE
namespace Go.Proofs.Ytafenndokmccoaa
open Go.RowKit
set_option linter.unusedVariables false
set_option linter.unusedSimpArgs false

/-- an error, unless there may be such a machine -/
def cnE (t sp : Int) (ss : List ByteArray) (fr hi : Int) : Int := if planB t sp ss = true ∧ 0 ≤ hi ∧ hi ≤ sp then (if fr = 0 ∨ fr = 1 then 0 else 4) else 2
theorem wNew_bad (t sp : Int) (a : Option Addr) (c : Nat) (ss : List ByteArray) (hn : ss.length ≤ maxLen) (fr hi : Int) (hx : ¬ (planB t sp ss = true ∧ 0 ≤ hi ∧ hi ≤ sp)) (w : World) (h : SlOf w a (strV ss)) :
    Calls Try.prog 12 #[.agg #[.int .i64 t, .int .i64 sp, .slice a ss.length c], .int .i64 fr, .int .i64 hi] w fun e w' => e = .returned (.tuple #[.pointer none, .int .i64 2]) ∧ Below w.heap.size w w' := by
  have HC := fun W h => layCheck_calls t sp a c ss hn W h
  have HS := Lib.hid h
  unfold planE at HC
  cases hp : planB t sp ss with
  | false =>
    rw [hp] at HC
    simp only [Bool.false_eq_true, if_false] at HC
    have HC := Lib.hid HC
    clear hp h hx
    go_enter Try.func12, Try.ntmps12
    go_wp2_with fail
    refine wp_scope_once 0 rfl ?_
    go_wp2_with fail
    refine (HC.out _ (HS.out.alloc _)).mono ?_; rintro e1 w1 ⟨rfl, hb1⟩; have hz1 := hb1.size; (try simp at hz1)
    go_wp2
    go_step3
    refine ⟨rfl, ?_⟩
    go_wp2
    rw [Exit.noGoto_ret]
    go_ret2
    exact ⟨rfl, by (repeat (first | exact Below.refl _ _ | (with_reducible assumption) | refine Below.drew ?_ | refine Below.drewN' ?_ _ | refine Below.alloc ?_ (by first | omega | (simp; done) | (simp; omega)) _ | refine Below.setCell ?_ (by first | omega | (simp; done) | (simp; omega)) _ | refine Below.then ?_ hb9 (by first | omega | (simp; done) | (simp; omega)) | refine Below.then ?_ hb8 (by first | omega | (simp; done) | (simp; omega)) | refine Below.then ?_ hb7 (by first | omega | (simp; done) | (simp; omega)) | refine Below.then ?_ hb6 (by first | omega | (simp; done) | (simp; omega)) | refine Below.then ?_ hb5 (by first | omega | (simp; done) | (simp; omega)) | refine Below.then ?_ hb4 (by first | omega | (simp; done) | (simp; omega)) | refine Below.then ?_ hb3 (by first | omega | (simp; done) | (simp; omega)) | refine Below.then ?_ hb2 (by first | omega | (simp; done) | (simp; omega)) | refine Below.then ?_ hb1 (by first | omega | (simp; done) | (simp; omega))))⟩
  | true =>
    rw [hp] at HC
    simp only [if_true] at HC
    have HC := Lib.hid HC
    have hy : hi < 0 ∨ (¬ hi < 0 ∧ sp < hi) := by
      rw [hp] at hx
      have : ¬ (0 ≤ hi ∧ hi ≤ sp) := fun x => hx ⟨rfl, x⟩
      omega
    clear hp h hx
    rcases hy with h1 | ⟨h1, h2⟩
    all_goals
      go_enter Try.func12, Try.ntmps12
      go_wp2_with fail
      refine wp_scope_once 0 rfl ?_
      go_wp2_with fail
      refine (HC.out _ (HS.out.alloc _)).mono ?_; rintro e1 w1 ⟨rfl, hb1⟩; obtain ⟨hc1, hf1⟩ := bcell hb1; have hz1 := hb1.size; (try simp at hz1)
      have q1 := hc1 w.heap.size 1 (by first | omega | (simp; done) | (simp; omega)); simp [go_sem] at q1
      go_wp2
      go_step3
      refine ⟨rfl, ?_⟩
      go_wp2
      rw [Exit.noGoto_ret]
      go_ret2
      exact ⟨rfl, by (repeat (first | exact Below.refl _ _ | (with_reducible assumption) | refine Below.drew ?_ | refine Below.drewN' ?_ _ | refine Below.alloc ?_ (by first | omega | (simp; done) | (simp; omega)) _ | refine Below.setCell ?_ (by first | omega | (simp; done) | (simp; omega)) _ | refine Below.then ?_ hb9 (by first | omega | (simp; done) | (simp; omega)) | refine Below.then ?_ hb8 (by first | omega | (simp; done) | (simp; omega)) | refine Below.then ?_ hb7 (by first | omega | (simp; done) | (simp; omega)) | refine Below.then ?_ hb6 (by first | omega | (simp; done) | (simp; omega)) | refine Below.then ?_ hb5 (by first | omega | (simp; done) | (simp; omega)) | refine Below.then ?_ hb4 (by first | omega | (simp; done) | (simp; omega)) | refine Below.then ?_ hb3 (by first | omega | (simp; done) | (simp; omega)) | refine Below.then ?_ hb2 (by first | omega | (simp; done) | (simp; omega)) | refine Below.then ?_ hb1 (by first | omega | (simp; done) | (simp; omega))))⟩
theorem wNew_from (t sp : Int) (a : Option Addr) (c : Nat) (ss : List ByteArray) (hn : ss.length ≤ maxLen) (fr hi : Int) (hp : planB t sp ss = true) (h0 : 0 ≤ hi) (h1 : hi ≤ sp) (hf : ¬ (fr = 0 ∨ fr = 1)) (w : World) (h : SlOf w a (strV ss)) :
    Calls Try.prog 12 #[.agg #[.int .i64 t, .int .i64 sp, .slice a ss.length c], .int .i64 fr, .int .i64 hi] w fun e w' => e = .returned (.tuple #[.pointer none, .int .i64 4]) ∧ Below w.heap.size w w' := by
  have HC := fun W h => layCheck_calls t sp a c ss hn W h
  have HB := fun W h => layBase_calls t sp a c ss fr hn W h
  have HS := Lib.hid h
  have e1 : planE t sp ss = 0 := by unfold planE; rw [if_pos hp]
  have e2 : placeE t sp ss fr 2 = 4 := by unfold placeE; rw [if_pos hp, if_pos (by omega)]
  have e3 : ∀ v, placeV t sp ss fr 2 v = 0 := fun v => by unfold placeV; rw [if_neg (by omega)]
  rw [e1] at HC
  rw [e2, e3] at HB
  have HC := Lib.hid HC
  have HB := Lib.hid HB
  have h2 : ¬ hi < 0 := by omega
  have h3 : ¬ sp < hi := by omega
  clear hp h e1 e2 e3 hf h0 h1
  go_enter Try.func12, Try.ntmps12
  go_wp2_with fail
  refine wp_scope_once 0 rfl ?_
  go_wp2_with fail
  refine (HC.out _ (HS.out.alloc _)).mono ?_; rintro e1 w1 ⟨rfl, hb1⟩; obtain ⟨hc1, hf1⟩ := bcell hb1; have hz1 := hb1.size; (try simp at hz1)
  have q0 := hc1 w.heap.size 0 (by first | omega | (simp; done) | (simp; omega)); simp [go_sem] at q0
  have q1 := hc1 w.heap.size 1 (by first | omega | (simp; done) | (simp; omega)); simp [go_sem] at q1
  have q2 := hc1 w.heap.size 2 (by first | omega | (simp; done) | (simp; omega)); simp [go_sem] at q2
  have hb01 : Below w.heap.size w w1 := by (repeat (first | exact Below.refl _ _ | (with_reducible assumption) | refine Below.drew ?_ | refine Below.drewN' ?_ _ | refine Below.alloc ?_ (by first | omega | (simp; done) | (simp; omega)) _ | refine Below.setCell ?_ (by first | omega | (simp; done) | (simp; omega)) _ | refine Below.then ?_ hb9 (by first | omega | (simp; done) | (simp; omega)) | refine Below.then ?_ hb8 (by first | omega | (simp; done) | (simp; omega)) | refine Below.then ?_ hb7 (by first | omega | (simp; done) | (simp; omega)) | refine Below.then ?_ hb6 (by first | omega | (simp; done) | (simp; omega)) | refine Below.then ?_ hb5 (by first | omega | (simp; done) | (simp; omega)) | refine Below.then ?_ hb4 (by first | omega | (simp; done) | (simp; omega)) | refine Below.then ?_ hb3 (by first | omega | (simp; done) | (simp; omega)) | refine Below.then ?_ hb2 (by first | omega | (simp; done) | (simp; omega)) | refine Below.then ?_ hb1 (by first | omega | (simp; done) | (simp; omega))))
  go_wp2_with fail
  refine (HB.out _ (HS.out.below hb01)).mono ?_; rintro e2 w2 ⟨rfl, hb2⟩; have hz2 := hb2.size; (try simp at hz2)
  go_wp2
  go_step3
  refine ⟨rfl, ?_⟩
  go_wp2
  rw [Exit.noGoto_ret]
  go_ret2
  exact ⟨rfl, by (repeat (first | exact Below.refl _ _ | (with_reducible assumption) | refine Below.drew ?_ | refine Below.drewN' ?_ _ | refine Below.alloc ?_ (by first | omega | (simp; done) | (simp; omega)) _ | refine Below.setCell ?_ (by first | omega | (simp; done) | (simp; omega)) _ | refine Below.then ?_ hb9 (by first | omega | (simp; done) | (simp; omega)) | refine Below.then ?_ hb8 (by first | omega | (simp; done) | (simp; omega)) | refine Below.then ?_ hb7 (by first | omega | (simp; done) | (simp; omega)) | refine Below.then ?_ hb6 (by first | omega | (simp; done) | (simp; omega)) | refine Below.then ?_ hb5 (by first | omega | (simp; done) | (simp; omega)) | refine Below.then ?_ hb4 (by first | omega | (simp; done) | (simp; omega)) | refine Below.then ?_ hb3 (by first | omega | (simp; done) | (simp; omega)) | refine Below.then ?_ hb2 (by first | omega | (simp; done) | (simp; omega)) | refine Below.then ?_ hb1 (by first | omega | (simp; done) | (simp; omega))))⟩
set_option maxRecDepth 100000 in
set_option maxHeartbeats 800000 in
theorem wNew_ok (P : CPar) (hP : CPOk P) (hp : planB P.t P.sp P.ss = true) (hn : P.ss.length ≤ maxLen) (a : Option Addr) (c : Nat) (w : World) (h : SlOf w a (strV P.ss)) :
    Calls Try.prog 12 #[.agg #[.int .i64 P.t, .int .i64 P.sp, .slice a P.ss.length c], .int .i64 P.fr, .int .i64 P.hi] w fun e w' =>
      ∃ p, e = .returned (.tuple #[.pointer (some ⟨p, 0, none⟩), .int .i64 0]) ∧ w.heap.size ≤ p ∧ Wm w' (fun k => w.heap.size ≤ k ∧ k < w'.heap.size) p P a c ⟨0, P.hi, 0, 0⟩ (.slice none 0 0) [] ∧ Below w.heap.size w w' := by
  have HC := fun W h => layCheck_calls P.t P.sp a c P.ss hn W h
  have HB := fun W h => layBase_calls P.t P.sp a c P.ss P.fr hn W h
  have HB1 := fun W h => layBase_calls P.t P.sp a c P.ss (1 - P.fr) hn W h
  have HS := Lib.hid h
  have hf := hP.f
  have h0 := hP.h0
  have h1 := hP.h1
  have e1 : planE P.t P.sp P.ss = 0 := by unfold planE; rw [if_pos hp]
  have e2 : ∀ x, x = 0 ∨ x = 1 → placeE P.t P.sp P.ss x 2 = 0 := fun x hx => by unfold placeE; rw [if_pos hp, if_neg (by omega)]
  have e3 : ∀ x v, x = 0 ∨ x = 1 → placeV P.t P.sp P.ss x 2 v = v := fun x v hx => by unfold placeV; rw [if_pos (e2 x hx)]
  rw [e1] at HC
  rw [e2 _ hf, e3 _ _ hf] at HB
  rw [e2 _ (by omega), e3 _ _ (by omega)] at HB1
  have hlen : 0 < P.ss.length := by have := (table_len (plan_ok hp).2.2.2.2).1; omega
  have hfar : ∀ ad, a = some ad → ad.block < w.heap.size := fun ad e => by
    rcases h with h | ⟨b, o, ha, hlt, _⟩
    · have := congrArg List.length h
      rw [strV_len, List.length_nil] at this
      omega
    · rw [e] at ha
      have : ad = ⟨b, o, none⟩ := Option.some.inj ha
      rw [this]; exact hlt
  have HC := Lib.hid HC
  have HB := Lib.hid (show ∀ W, SlOf W a (strV P.ss) → Calls Try.prog 50 #[.agg #[.int .i64 P.t, .int .i64 P.sp, .slice a P.ss.length c], .int .i64 P.fr] W fun e w' => e = .returned (.tuple #[.int .i64 (cBase P P.fr), .int .i64 0]) ∧ Below W.heap.size W w' from HB)
  have HB1 := Lib.hid (show ∀ W, SlOf W a (strV P.ss) → Calls Try.prog 50 #[.agg #[.int .i64 P.t, .int .i64 P.sp, .slice a P.ss.length c], .int .i64 (1 - P.fr)] W fun e w' => e = .returned (.tuple #[.int .i64 (cBase P (1 - P.fr)), .int .i64 0]) ∧ Below W.heap.size W w' from HB1)
  have hI := cInv_start hP
  have HFin : ∀ (w3 w' : World), Below w.heap.size w w3 → Below w3.heap.size w3 w' → w'.heap[w3.heap.size]? = some (.cells (mcA P a c (nxBegin w3.heap.size) (.slice none 0 0) false 0) 74 (0, 0)) → Wm w' (fun k => w.heap.size ≤ k ∧ k < w'.heap.size) w3.heap.size P a c ⟨0, P.hi, 0, 0⟩ (.slice none 0 0) [] ∧ Below w.heap.size w w' := by
    intro w3 w' hb3 hb' hm
    have hbw : Below w.heap.size w w' := Below.then hb3 hb' hb3.size
    exact ⟨⟨⟨_, hm, rfl⟩, World.ownsRow_nil _ _ _ _, (fun g hg => by cases hg), hI, fun _ => rfl, ⟨hb3.size, blk_lt hm⟩, fun k hk => hk.2, HS.out.below hbw, fun ad e => ⟨(fun hk => by have := hfar ad e; omega), Nat.lt_of_lt_of_le (hfar ad e) hbw.size⟩, rfl, (fun x hx => by cases hx)⟩, hbw⟩
  have HFin := Lib.hid HFin
  have h2 : ¬ P.hi < 0 := by omega
  have h3 : ¬ P.sp < P.hi := by omega
  have hw : IntKind.i64.wrap (1 - P.fr) = 1 - P.fr := IntWalk.i64_in _ (by omega)
  have hmf : ∀ (fn : Fn) (first cap : Array Value) (w : World), (Instr.makeFunc fn first cap).run Try.prog w = .ok (.func fn first cap) w := fun _ _ _ _ => rfl
  clear hp h e1 e2 e3 hI hfar
  go_enter Try.func12, Try.ntmps12
  go_wp2_with fail
  refine wp_scope_once 0 rfl ?_
  go_wp2_with fail
  refine (HC.out _ (HS.out.alloc _)).mono ?_; rintro e1 w1 ⟨rfl, hb1⟩; obtain ⟨hc1, hf1⟩ := bcell hb1; have hz1 := hb1.size; (try simp at hz1)
  have q0 := hc1 w.heap.size 0 (by first | omega | (simp; done) | (simp; omega)); simp [go_sem] at q0
  have q1 := hc1 w.heap.size 1 (by first | omega | (simp; done) | (simp; omega)); simp [go_sem] at q1
  have q2 := hc1 w.heap.size 2 (by first | omega | (simp; done) | (simp; omega)); simp [go_sem] at q2
  have hb01 : Below w.heap.size w w1 := by (repeat (first | exact Below.refl _ _ | (with_reducible assumption) | refine Below.drew ?_ | refine Below.drewN' ?_ _ | refine Below.alloc ?_ (by first | omega | (simp; done) | (simp; omega)) _ | refine Below.setCell ?_ (by first | omega | (simp; done) | (simp; omega)) _ | refine Below.then ?_ hb9 (by first | omega | (simp; done) | (simp; omega)) | refine Below.then ?_ hb8 (by first | omega | (simp; done) | (simp; omega)) | refine Below.then ?_ hb7 (by first | omega | (simp; done) | (simp; omega)) | refine Below.then ?_ hb6 (by first | omega | (simp; done) | (simp; omega)) | refine Below.then ?_ hb5 (by first | omega | (simp; done) | (simp; omega)) | refine Below.then ?_ hb4 (by first | omega | (simp; done) | (simp; omega)) | refine Below.then ?_ hb3 (by first | omega | (simp; done) | (simp; omega)) | refine Below.then ?_ hb2 (by first | omega | (simp; done) | (simp; omega)) | refine Below.then ?_ hb1 (by first | omega | (simp; done) | (simp; omega))))
  have l1 : w.heap.size < w1.heap.size := by omega
  clear hc1 hf1
  go_wp2_with fail
  refine (HB.out _ (HS.out.below hb01)).mono ?_; rintro e2 w2 ⟨rfl, hb2⟩; have hz2 := hb2.size; (try simp at hz2)
  replace q0 := hold_cell (w2 := w2) q0 (by (repeat (first | exact Below.refl _ _ | (with_reducible assumption) | refine Below.drew ?_ | refine Below.drewN' ?_ _ | refine Below.alloc ?_ (by first | omega | (simp; done) | (simp; omega)) _ | refine Below.setCell ?_ (by first | omega | (simp; done) | (simp; omega)) _ | refine Below.then ?_ hb9 (by first | omega | (simp; done) | (simp; omega)) | refine Below.then ?_ hb8 (by first | omega | (simp; done) | (simp; omega)) | refine Below.then ?_ hb7 (by first | omega | (simp; done) | (simp; omega)) | refine Below.then ?_ hb6 (by first | omega | (simp; done) | (simp; omega)) | refine Below.then ?_ hb5 (by first | omega | (simp; done) | (simp; omega)) | refine Below.then ?_ hb4 (by first | omega | (simp; done) | (simp; omega)) | refine Below.then ?_ hb3 (by first | omega | (simp; done) | (simp; omega)) | refine Below.then ?_ hb2 (by first | omega | (simp; done) | (simp; omega)) | refine Below.then ?_ hb1 (by first | omega | (simp; done) | (simp; omega))))) (by first | omega | (simp; done) | (simp; omega))
  replace q1 := hold_cell (w2 := w2) q1 (by (repeat (first | exact Below.refl _ _ | (with_reducible assumption) | refine Below.drew ?_ | refine Below.drewN' ?_ _ | refine Below.alloc ?_ (by first | omega | (simp; done) | (simp; omega)) _ | refine Below.setCell ?_ (by first | omega | (simp; done) | (simp; omega)) _ | refine Below.then ?_ hb9 (by first | omega | (simp; done) | (simp; omega)) | refine Below.then ?_ hb8 (by first | omega | (simp; done) | (simp; omega)) | refine Below.then ?_ hb7 (by first | omega | (simp; done) | (simp; omega)) | refine Below.then ?_ hb6 (by first | omega | (simp; done) | (simp; omega)) | refine Below.then ?_ hb5 (by first | omega | (simp; done) | (simp; omega)) | refine Below.then ?_ hb4 (by first | omega | (simp; done) | (simp; omega)) | refine Below.then ?_ hb3 (by first | omega | (simp; done) | (simp; omega)) | refine Below.then ?_ hb2 (by first | omega | (simp; done) | (simp; omega)) | refine Below.then ?_ hb1 (by first | omega | (simp; done) | (simp; omega))))) (by first | omega | (simp; done) | (simp; omega))
  replace q2 := hold_cell (w2 := w2) q2 (by (repeat (first | exact Below.refl _ _ | (with_reducible assumption) | refine Below.drew ?_ | refine Below.drewN' ?_ _ | refine Below.alloc ?_ (by first | omega | (simp; done) | (simp; omega)) _ | refine Below.setCell ?_ (by first | omega | (simp; done) | (simp; omega)) _ | refine Below.then ?_ hb9 (by first | omega | (simp; done) | (simp; omega)) | refine Below.then ?_ hb8 (by first | omega | (simp; done) | (simp; omega)) | refine Below.then ?_ hb7 (by first | omega | (simp; done) | (simp; omega)) | refine Below.then ?_ hb6 (by first | omega | (simp; done) | (simp; omega)) | refine Below.then ?_ hb5 (by first | omega | (simp; done) | (simp; omega)) | refine Below.then ?_ hb4 (by first | omega | (simp; done) | (simp; omega)) | refine Below.then ?_ hb3 (by first | omega | (simp; done) | (simp; omega)) | refine Below.then ?_ hb2 (by first | omega | (simp; done) | (simp; omega)) | refine Below.then ?_ hb1 (by first | omega | (simp; done) | (simp; omega))))) (by first | omega | (simp; done) | (simp; omega))
  have hb02 : Below w.heap.size w w2 := Below.then hb01 hb2 (by omega)
  have l2 : w.heap.size < w2.heap.size := by omega
  go_wp2_with fail
  refine (HB1.out _ (HS.out.below hb02)).mono ?_; rintro e3 w3 ⟨rfl, hb3⟩; have hz3 := hb3.size; (try simp at hz3)
  replace q0 := hold_cell (w2 := w3) q0 (by (repeat (first | exact Below.refl _ _ | (with_reducible assumption) | refine Below.drew ?_ | refine Below.drewN' ?_ _ | refine Below.alloc ?_ (by first | omega | (simp; done) | (simp; omega)) _ | refine Below.setCell ?_ (by first | omega | (simp; done) | (simp; omega)) _ | refine Below.then ?_ hb9 (by first | omega | (simp; done) | (simp; omega)) | refine Below.then ?_ hb8 (by first | omega | (simp; done) | (simp; omega)) | refine Below.then ?_ hb7 (by first | omega | (simp; done) | (simp; omega)) | refine Below.then ?_ hb6 (by first | omega | (simp; done) | (simp; omega)) | refine Below.then ?_ hb5 (by first | omega | (simp; done) | (simp; omega)) | refine Below.then ?_ hb4 (by first | omega | (simp; done) | (simp; omega)) | refine Below.then ?_ hb3 (by first | omega | (simp; done) | (simp; omega)) | refine Below.then ?_ hb2 (by first | omega | (simp; done) | (simp; omega)) | refine Below.then ?_ hb1 (by first | omega | (simp; done) | (simp; omega))))) (by first | omega | (simp; done) | (simp; omega))
  replace q1 := hold_cell (w2 := w3) q1 (by (repeat (first | exact Below.refl _ _ | (with_reducible assumption) | refine Below.drew ?_ | refine Below.drewN' ?_ _ | refine Below.alloc ?_ (by first | omega | (simp; done) | (simp; omega)) _ | refine Below.setCell ?_ (by first | omega | (simp; done) | (simp; omega)) _ | refine Below.then ?_ hb9 (by first | omega | (simp; done) | (simp; omega)) | refine Below.then ?_ hb8 (by first | omega | (simp; done) | (simp; omega)) | refine Below.then ?_ hb7 (by first | omega | (simp; done) | (simp; omega)) | refine Below.then ?_ hb6 (by first | omega | (simp; done) | (simp; omega)) | refine Below.then ?_ hb5 (by first | omega | (simp; done) | (simp; omega)) | refine Below.then ?_ hb4 (by first | omega | (simp; done) | (simp; omega)) | refine Below.then ?_ hb3 (by first | omega | (simp; done) | (simp; omega)) | refine Below.then ?_ hb2 (by first | omega | (simp; done) | (simp; omega)) | refine Below.then ?_ hb1 (by first | omega | (simp; done) | (simp; omega))))) (by first | omega | (simp; done) | (simp; omega))
  replace q2 := hold_cell (w2 := w3) q2 (by (repeat (first | exact Below.refl _ _ | (with_reducible assumption) | refine Below.drew ?_ | refine Below.drewN' ?_ _ | refine Below.alloc ?_ (by first | omega | (simp; done) | (simp; omega)) _ | refine Below.setCell ?_ (by first | omega | (simp; done) | (simp; omega)) _ | refine Below.then ?_ hb9 (by first | omega | (simp; done) | (simp; omega)) | refine Below.then ?_ hb8 (by first | omega | (simp; done) | (simp; omega)) | refine Below.then ?_ hb7 (by first | omega | (simp; done) | (simp; omega)) | refine Below.then ?_ hb6 (by first | omega | (simp; done) | (simp; omega)) | refine Below.then ?_ hb5 (by first | omega | (simp; done) | (simp; omega)) | refine Below.then ?_ hb4 (by first | omega | (simp; done) | (simp; omega)) | refine Below.then ?_ hb3 (by first | omega | (simp; done) | (simp; omega)) | refine Below.then ?_ hb2 (by first | omega | (simp; done) | (simp; omega)) | refine Below.then ?_ hb1 (by first | omega | (simp; done) | (simp; omega))))) (by first | omega | (simp; done) | (simp; omega))
  have hb03 : Below w.heap.size w w3 := Below.then hb02 hb3 (by omega)
  have l3 : w.heap.size < w3.heap.size := by omega
  go_wp2
  simp only [Exit.jump]
  go_ret2
  obtain ⟨k1, k2⟩ := HFin.out w3 _ hb03 ((Below.refl _ _).alloc (Nat.le_refl _) _) (MapKept.heap_alloc w3 _).1
  exact ⟨w3.heap.size, rfl, hb03.size, k1, k2⟩

theorem Ar.only {S : Nat → Prop} {W W' : World} {p b : Nat} {l : List Int} (h : Ar W p b l) (hO : Only S W W') (hp : ¬ S p) (hb : ¬ S b) : Ar W' p b l :=
  ⟨hO.blk hp h.box, hO.blk hb h.words, h.rng, h.pos, h.len⟩
theorem Only.trans2 {S T : Nat → Prop} {a b c : World} (h : Only S a b) (k : Only T b c) (hT : ∀ i, i < a.heap.size → T i → S i) : Only S a c :=
  ⟨k.os.trans h.os, k.tape.trans h.tape, k.output.trans h.output, Nat.le_trans h.size k.size, fun i hi hs => (k.block i (Nat.lt_of_lt_of_le hi h.size) (fun t => hs (hT i hi t))).trans (h.block i hi hs)⟩
theorem cAlone_go {P : CPar} {f n : Nat} {s : CSt} {w : Int} {l : List Int} (h : (cNext P s w).is = true) : cAlone P (f + 1) n s w l = cAlone P f (n + 1) (cNext P s w).st (acDo l (cNext P s w).k (cNext P s w).a (cNext P s w).o (cNext P s w).n).1 (acDo l (cNext P s w).k (cNext P s w).a (cNext P s w).o (cNext P s w).n).2 := by
  rw [cAlone, if_pos h]
theorem cAlone_end {P : CPar} {f n : Nat} {s : CSt} {w : Int} {l : List Int} (h : (cNext P s w).is = false) : cAlone P (f + 1) n s w l = ((cNext P s w).st.err, n, (cNext P s w).st.pl == 6, l) := by
  rw [cAlone, if_neg (by rw [h]; decide)]

set_option maxRecDepth 100000 in
set_option maxHeartbeats 1600000 in
theorem alone_calls (D : Nat → Prop) (p : Nat) (P : CPar) (hP : CPOk P) (hn : P.ss.length ≤ maxLen) (a : Option Addr) (c : Nat) (s : CSt) (la : Value) (lm : List Int) (hlm : lm.length ≤ 10000) (pa b : Nat) (l : List Int) (hlen : 3 + 2 * P.t + 2 * P.sp = l.length) (w : World) (h : Wm w D p P a c s la lm) (hA : Ar w pa b l) (hpa : ¬ D pa) (hb : ¬ D b) (hab : ∀ ad, a = some ad → ad.block ≠ b) :
    Calls Try.prog 30 #[.pointer (some ⟨pa, 0, none⟩), .pointer (some ⟨p, 0, none⟩)] w fun e w' =>
      e = .returned (.tuple #[.int .i64 (cAlone P 2000 0 s 0 l).1, .int .i64 (cAlone P 2000 0 s 0 l).2.1, .bool (cAlone P 2000 0 s 0 l).2.2.1]) ∧ Only (fun k => D k ∨ k = b) w w' ∧ Ar w' pa b (cAlone P 2000 0 s 0 l).2.2.2 := by
  have lpa := hA.pb
  have lb := hA.bb
  have hpb := hA.ne
  have HX := Lib.hid (fun (D' : Nat → Prop) (s' : CSt) (la' : Value) (lm' : List Int) (hl' : lm'.length ≤ 1000000) (x : Int) (h0 : 0 ≤ x) (h1 : x < 18446744073709551616) (W : World) (hW : Wm W D' p P a c s' la' lm') => wNext_calls D' p P hP hn a c s' la' lm' hl' x h0 h1 W hW)
  have HDo := Lib.hid (fun (l' : List Int) (k x o n : Int) h0 h1 hk W hW => arDo_calls pa b l' k x o n h0 h1 hk W hW)
  have HM := Lib.hid h
  have HAr := Lib.hid hA
  have hD0 : ∀ k, D k → k < w.heap.size := h.dl
  obtain ⟨R, hR⟩ : ∃ R, cAlone P 2000 0 s 0 l = R := ⟨_, rfl⟩
  rw [hR]
  have HR := Lib.hid hR
  clear hR h hA
  go_enter Try.func30, Try.ntmps30
  go_wp2
  go_loopw [7, 8] (fun wv nv wr => ∃ (n : Nat) (s' : CSt) (x : Int) (l' : List Int) (la' : Value) (lm' : List Int) (D' : Nat → Prop), nv = .int .i64 n ∧ wv = .int .u64 x ∧ n ≤ 2000 ∧ 0 ≤ x ∧ x < 18446744073709551616 ∧ lm'.length ≤ 10000 + n ∧ Wm wr D' p P a c s' la' lm' ∧ Ar wr pa b l' ∧ l'.length = l.length ∧ (∀ k, D' k → D k ∨ w.heap.size ≤ k) ∧ Only (fun k => D k ∨ k = b) w wr ∧ cAlone P (2000 - n) n s' x l' = R) (fun _ nv _ => 2000 - (intOf nv).toNat)
  case atStart => exact ⟨0, s, 0, l, la, lm, D, rfl, rfl, by omega, by omega, by omega, by omega, HM.out, HAr.out, rfl, fun k hk => .inl hk, Only.refl _ _, HR.out⟩
  case round =>
    obtain ⟨n, s', x, l', la', lm', D', rfl, rfl, hn2, x0, x1, hlm', hM, hAr, hll, hDD, hO, hRR⟩ := hrel
    have hDb : ¬ D' b := fun hk => by
      rcases hDD b hk with hk | hk
      · exact hb hk
      · omega
    have hDpa : ¬ D' pa := fun hk => by
      rcases hDD pa hk with hk | hk
      · exact hpa hk
      · omega
    by_cases hlt : n < 2000
    · obtain ⟨f, hf⟩ : ∃ f, 2000 - n = f + 1 := ⟨2000 - n - 1, by omega⟩
      rw [hf] at hRR
      have hinv := hM.inv
      have hacc := cNext_acc hP hinv (ans := x) ⟨x0, x1⟩
      have her := (cNext_inv hinv (ans := x) ⟨x0, x1⟩).er
      have hX := HX.out D' s' la' lm' (by omega) x x0 x1 wr hM
      cases his : (cNext P s' x).is with
      | false =>
        rw [cAlone_end his] at hRR
        rw [his] at hX
        generalize cNext P s' x = r at hX her hRR hacc
        have HXX := Lib.hid hX
        have HRR := Lib.hid hRR
        have n1 : (n : Int) < 2000 := by omega
        have HOO := Lib.hid hO
        have HArr := Lib.hid hAr
        have HDD := Lib.hid hDD
        clear hX hRR hO hAr hM hf hinv his hacc
        unfold accV at HXX
        go_wp2_with fail
        refine HXX.out.mono ?_
        rintro e1 w1 ⟨rfl, hO1, la1, hM1⟩
        obtain ⟨nx1, mb1, _⟩ := hM1.mb
        go_wp2_with fail
        refine (wOut_calls p P a c nx1 la1 _ _ (fun e => her (by simpa using e)) _ (blk_alloc mb1 _)).mono ?_
        rintro e2 w2 ⟨rfl, hb2⟩
        have hOf : Only (fun k => D k ∨ k = b) w w2 := ((HOO.out.trans2 hO1 fun k hk hk' => by
          rcases HDD.out k hk' with h | h
          · exact .inl h
          · omega).alloc _).then hb2
        have hA2 : Ar w2 pa b l' := ((HArr.out.only hO1 hDpa hDb).alloc _).below hb2
        clear HXX hM1 mb1 hO1 hb2
        go_wp2
        refine bodyPost_ret (v := .tuple #[.int .i64 r.st.err, .int .i64 (n : Int), .bool (r.st.pl == 6)]) (by simp [results, Try.results30, go_sem]) rfl ⟨by rw [← HRR.out], hOf, by rw [← HRR.out]; exact hA2⟩
      | true =>
        have hac := hacc his
        rw [cAlone_go his] at hRR
        rw [his] at hX
        have hst := hM.inv
        have hrn := fun (L : List Int) (hL : ∀ x ∈ L, 0 ≤ x ∧ x < 18446744073709551616) => cDo_rng hac hL
        have hDoc := fun W hW => HDo.out l' (cNext P s' x).k (cNext P s' x).a (cNext P s' x).o (cNext P s' x).n (by have := hac.at0; omega) (by have := hac.at1; omega) (by
          rcases hac.kind with ⟨h1, h2, h3⟩ | ⟨h1, h2, h3⟩ | ⟨h1, _, _, h2, h3⟩
          · exact .inl ⟨h1, h2, h3⟩
          · exact .inr (.inl ⟨h1, h2, by omega, by omega⟩)
          · exact .inr (.inr ⟨h1, h2, h3⟩)) W hW
        have hdl := cDo_len l' (cNext P s' x).k (cNext P s' x).a (cNext P s' x).o (cNext P s' x).n
        have hdr := hrn l' hAr.rng
        generalize cNext P s' x = r at hX her hRR hdl hDoc hdr
        unfold accV at hX hDoc
        obtain ⟨d1, d2⟩ : ∃ d, acDo l' r.k r.a r.o r.n = d := ⟨_, rfl⟩
        rw [d2] at hRR hdl hDoc hdr
        obtain ⟨y, l2⟩ := d1
        dsimp only at hRR hdl hDoc hdr
        have HXX := Lib.hid hX
        have HRR := Lib.hid hRR
        have HDC := Lib.hid hDoc
        have n1 : (n : Int) < 2000 := by omega
        have HOO := Lib.hid hO
        have HArr := Lib.hid hAr
        have HDD := Lib.hid hDD
        have HDL := Lib.hid hdl
        clear hX hRR hO hAr hM hinv hacc hac hrn hDoc d2 hst his hDD hdl
        go_wp2_with fail
        refine HXX.out.mono ?_
        rintro e1 w1 ⟨rfl, hO1, la1, hM1⟩
        have HM1 := Lib.hid hM1
        clear hM1
        go_wp2_with fail
        have hA1 : Ar (w1.alloc (.cells #[.int .i64 r.k, .int .i64 r.a, .int .u64 r.o, .int .u64 r.n] 44)) pa b l' := (HArr.out.only hO1 hDpa hDb).alloc _
        refine (HDC.out _ hA1).mono ?_
        rintro e2 w2 ⟨rfl, hO2, hA2⟩
        have hOw := hO1.size
        have hz2 := hO2.size
        have hzz : (w1.alloc (.cells #[.int .i64 r.k, .int .i64 r.a, .int .u64 r.o, .int .u64 r.n] 44)).heap.size = w1.heap.size + 1 := by simp
        have hM2 : Wm w2 (fun k => (D' k ∨ wr.heap.size ≤ k) ∧ k < w1.heap.size) p P a c r.st la1 (if s'.pl = 6 then lm' else lm' ++ [x]) := ((HM1.out.below ((Below.refl _ _).alloc (Nat.le_refl _) _)).only hO2 (fun k hk e => by
          subst e
          rcases hk.1 with h | h
          · exact hDb h
          · have := HOO.out.size; omega) (fun ad e => hab ad e))
        have hOf : Only (fun k => D k ∨ k = b) w w2 := ((HOO.out.trans2 hO1 fun k hk hk' => by
          rcases HDD.out k hk' with h | h
          · exact .inl h
          · omega).alloc _).trans2 hO2 (fun k _ hk => .inr hk)
        have HM2 := Lib.hid hM2
        have HOf := Lib.hid hOf
        have HA2 := Lib.hid hA2
        clear hM2 hOf hA2 hA1 hO2 hO1 HM1
        go_wp2
        go_roundw
        case rel =>
          refine ⟨n + 1, r.st, y, l2, la1, _, _, by go_num, rfl, by omega, hdr.2.1, hdr.2.2, ?_, HM2.out, HA2.out, by rw [HDL.out]; exact hll, fun k hk => ?_, HOf.out, ?_⟩
          · split
            · omega
            · rw [List.length_append, List.length_singleton]; omega
          · rcases hk.1 with h | h
            · exact HDD.out k h
            · right; have := HOO.out.size; omega
          · rw [show 2000 - (n + 1) = f by omega]; exact HRR.out
        case measure => simp [intOf]; omega
    · obtain rfl : n = 2000 := by omega
      rw [Nat.sub_self] at hRR
      have HRR := Lib.hid hRR
      have HOO := Lib.hid hO
      have HArr := Lib.hid hAr
      clear hRR hO hAr hM
      go_wp2
      refine bodyPost_ret (v := .tuple #[.int .i64 0, .int .i64 2000, .bool false]) (by simp [results, Try.results30, go_sem]) rfl ⟨by rw [← HRR.out]; rfl, HOO.out, by rw [← HRR.out]; exact HArr.out⟩
end Go.Proofs.Ytafenndokmccoaa
