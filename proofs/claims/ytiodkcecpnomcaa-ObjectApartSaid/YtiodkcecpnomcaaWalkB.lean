/- The layer 'object': Walk. -/
import Derived.Test.YtiodkcecpnomcaaWalkA
import Derived.Test.YtiodkcecpnomcaaConcat
import Derived.RecoverIn
namespace Go.Proofs.Ytiodkcecpnomcaa
open Go.RowKit Go.Shelf
set_option linter.unusedVariables false
set_option linter.unusedSimpArgs false
attribute [local go_sem] Oper.semAt_some

theorem caught_idleIn (n b : Nat) (w : World) :
    CallsDIn Fence.wide n Try.prog 29 #[.pointer (some ⟨b, 0, none⟩)] .returning w fun e u' w' => e = .returned (.tuple #[]) ∧ u' = .returning ∧ w' = w := by
  refine callsDIn_of_wpSIn Try.func29 rfl trivial fun c₀ cs hu => ?_
  apply wpSIn_seq
  apply wpSIn_region
  simp [wpOpsSIn, go_sem, recoverD, hu, Try.ntmps29, Exit.thenS]
  generalize hQ : bodyPostS _ _ _ _ _ = Q
  refine wpSIn_of_wpIn rfl (wpIn_wide.2 ?_)
  simp [Array.replicate]
  go_wp2
  rw [← hQ]
  cases c₀
  simp_all [bodyPostS, results, Try.results29]

theorem infoInt : (Try.prog.info? 3).map (fun i => (i.zero, i.size, i.bytes)) = some (some (.int .i64 0), 1, 8) := by kernel_rfl
def IntsOf (W : World) (a : Option Addr) (l : List Int) : Prop := SlOf W a (l.map (fun x => Value.int .i64 x))
theorem owns_ints {w : World} {B : Nat} {e : TypeId} {fa : Option Addr} {fc n : Nat} {l : List Int} (h : w.ownsRow B e 1 (.slice fa n fc) n (l.map (fun x => Value.int .i64 x))) : IntsOf w fa l := by
  rcases h.2 with ⟨hv, h0⟩ | ⟨g, cap, cur, hv, hb, hg, _⟩
  · left
    have := h.1
    rw [h0, Nat.zero_mul] at this
    exact List.length_eq_zero_iff.1 this
  · have e1 : fa = some ⟨g, 0, none⟩ := by injection hv
    right
    refine ⟨g, 0, e1, (Array.getElem?_eq_some_iff.1 hg).1, fun i hi => ?_⟩
    have := h.cells (g := g) (by rw [e1]; rfl) i _ (List.getElem?_eq_getElem hi)
    rwa [add_nospot] at this

set_option maxRecDepth 100000 in
set_option maxHeartbeats 800000 in
/-- where 'of' gives up -/
theorem walk_of (pa : Option Addr) (t sp : Int) (a : Option Addr) (c n : Nat) (s f u m : Int) (w : World) (h : ∀ W, Below w.heap.size w W → Calls Try.prog 30 #[.pointer pa, .agg #[.int .i64 t, .int .i64 sp, .slice a n c]] W fun e w' => e = .panicked (up m) ∧ Below W.heap.size W w') :
    Calls Try.prog 15 #[.pointer pa, .agg #[.int .i64 t, .int .i64 sp, .slice a n c], .int .i64 s, .int .i64 f, .int .i64 u] w fun e w' => e = .returned (.tuple #[.slice none 0 0, .int .i64 m]) ∧ Below w.heap.size w w' := by
  have H := Lib.hid h
  clear h
  go_enter_defers Try.func15, Try.ntmps15
  go_wp2_with fail
  refine (H.out _ ?hbel).mono ?_
  case hbel => (repeat (first | exact Below.refl _ _ | (with_reducible assumption) | refine Below.drew ?_ | refine Below.drewN' ?_ _ | refine Below.alloc ?_ (by first | omega | (simp; done) | (simp; omega)) _ | refine Below.setCell ?_ (by first | omega | (simp; done) | (simp; omega)) _ | refine Below.then ?_ hb9 (by first | omega | (simp; done) | (simp; omega)) | refine Below.then ?_ hb8 (by first | omega | (simp; done) | (simp; omega)) | refine Below.then ?_ hb7 (by first | omega | (simp; done) | (simp; omega)) | refine Below.then ?_ hb6 (by first | omega | (simp; done) | (simp; omega)) | refine Below.then ?_ hb5 (by first | omega | (simp; done) | (simp; omega)) | refine Below.then ?_ hb4 (by first | omega | (simp; done) | (simp; omega)) | refine Below.then ?_ hb3 (by first | omega | (simp; done) | (simp; omega)) | refine Below.then ?_ hb2 (by first | omega | (simp; done) | (simp; omega)) | refine Below.then ?_ hb1 (by first | omega | (simp; done) | (simp; omega))))
  rintro e1 w1 ⟨rfl, hb1⟩
  obtain ⟨hc1, hf1⟩ := bcell hb1
  have hz1 := hb1.size
  (try simp at hz1)
  have r0 := hc1 (w.heap.size + 1) 0 (by first | omega | (simp; done) | (simp; omega)); simp [go_sem] at r0
  have e0 := hc1 (w.heap.size + 2) 0 (by first | omega | (simp; done) | (simp; omega)); simp [go_sem] at e0
  have z0 := hf1 (w.heap.size + 2) 0 (by first | omega | (simp; done) | (simp; omega)); simp [go_sem] at z0
  go_wp2
  refine leaves_cons (f := 29) (args := #[.pointer (some ⟨w.heap.size + 1 + 1, 0, none⟩)]) (by simp) (by simp [go_sem]) ?_
  refine (caught_up (w.heap.size + 1 + 1) 0 m [] w1 e0 z0).mono ?_
  rintro e u' w'' ⟨rfl, rfl, rfl⟩
  have e1 := cell_put w1 ⟨w.heap.size + 1 + 1, 0, none⟩ (.int .i64 m) (by rw [e0]; rfl)
  have k1 : ∀ o, (w1.setCell ⟨w.heap.size + 1 + 1, 0, none⟩ (.int .i64 m)).cell? ⟨w.heap.size + 1, o, none⟩ = w1.cell? ⟨w.heap.size + 1, o, none⟩ := fun o => cell_blk _ _ _ _ _ _ (by omega)
  simp [Leaves, settle, results, Try.results15, go_sem, e1, k1, r0]
  (repeat (first | exact Below.refl _ _ | (with_reducible assumption) | refine Below.drew ?_ | refine Below.drewN' ?_ _ | refine Below.alloc ?_ (by first | omega | (simp; done) | (simp; omega)) _ | refine Below.setCell ?_ (by first | omega | (simp; done) | (simp; omega)) _ | refine Below.then ?_ hb9 (by first | omega | (simp; done) | (simp; omega)) | refine Below.then ?_ hb8 (by first | omega | (simp; done) | (simp; omega)) | refine Below.then ?_ hb7 (by first | omega | (simp; done) | (simp; omega)) | refine Below.then ?_ hb6 (by first | omega | (simp; done) | (simp; omega)) | refine Below.then ?_ hb5 (by first | omega | (simp; done) | (simp; omega)) | refine Below.then ?_ hb4 (by first | omega | (simp; done) | (simp; omega)) | refine Below.then ?_ hb3 (by first | omega | (simp; done) | (simp; omega)) | refine Below.then ?_ hb2 (by first | omega | (simp; done) | (simp; omega)) | refine Below.then ?_ hb1 (by first | omega | (simp; done) | (simp; omega))))

/-- are the numbers in range -/
def walkB (sp s f u : Int) : Bool := decide (0 ≤ s ∧ s ≤ 1) && decide (0 ≤ f) && decide (u ≤ sp) && decide (f ≤ u)

set_option maxRecDepth 100000 in
set_option maxHeartbeats 1600000 in
theorem walk_range (p b : Nat) (l : List Int) (t sp : Int) (a : Option Addr) (c : Nat) (ss : List ByteArray) (s f u : Int) (hr : walkB sp s f u = false) (w : World) (h : PIn w p b l t sp a ss) :
    Calls Try.prog 15 #[.pointer (some ⟨p, 0, none⟩), .agg #[.int .i64 t, .int .i64 sp, .slice a ss.length c], .int .i64 s, .int .i64 f, .int .i64 u] w fun e w' => e = .returned (.tuple #[.slice none 0 0, .int .i64 4]) ∧ Below w.heap.size w w' := by
  have H := Lib.hid (fun W (h : PIn W p b l t sp a ss) => h.of c W)
  have BS := fun W hh => layBase_calls t sp a c ss s h.n W hh
  have hE : placeE t sp ss s 2 = if s < 0 ∨ 2 ≤ s then 4 else 0 := by unfold placeE; rw [if_pos h.plan]
  rw [hE] at BS
  generalize placeV t sp ss s 2 (3 + 2 * t + s * sp) = bv at BS
  have BS := Lib.hid BS
  have M4 := Lib.hid (fun W => must_no 4 W)
  have HP := Lib.hid h
  clear h hE
  unfold heapV at H
  have hrr : (s < 0 ∨ 2 ≤ s) ∨ (¬ (s < 0 ∨ 2 ≤ s) ∧ (f < 0 ∨ (¬ f < 0 ∧ (sp < u ∨ (¬ sp < u ∧ ¬ f ≤ u))))) := by
    unfold walkB at hr
    simp only [Bool.and_eq_false_iff, decide_eq_false_iff_not] at hr
    omega
  clear hr
  go_enter_defers Try.func15, Try.ntmps15
  go_wp2_with fail
  refine (H.out _ (((HP.out.alloc _).alloc _).alloc _)).mono ?_
  rintro e1 w1 ⟨rfl, hi1, hb1⟩
  obtain ⟨hc1, hf1⟩ := bcell hb1
  have hz1 := hb1.size
  (try simp at hz1)
  have hi1 : HIn w1 p b l (w.heap.size + 1 + 1 + 1) a ss := by simpa using hi1
  have p0 := hc1 w.heap.size 0 (by first | omega | (simp; done) | (simp; omega)); simp [go_sem] at p0
  have p1 := hc1 w.heap.size 1 (by first | omega | (simp; done) | (simp; omega)); simp [go_sem] at p1
  have p2 := hc1 w.heap.size 2 (by first | omega | (simp; done) | (simp; omega)); simp [go_sem] at p2
  have r0 := hc1 (w.heap.size + 1) 0 (by first | omega | (simp; done) | (simp; omega)); simp [go_sem] at r0
  have e0 := hc1 (w.heap.size + 2) 0 (by first | omega | (simp; done) | (simp; omega)); simp [go_sem] at e0
  have z0 := hf1 (w.heap.size + 2) 0 (by first | omega | (simp; done) | (simp; omega)); simp [go_sem] at z0
  have la : w.heap.size < w1.heap.size := by first | omega | (simp; done) | (simp; omega)
  have hb01 : Below w.heap.size w w1 := by (repeat (first | exact Below.refl _ _ | (with_reducible assumption) | refine Below.drew ?_ | refine Below.drewN' ?_ _ | refine Below.alloc ?_ (by first | omega | (simp; done) | (simp; omega)) _ | refine Below.setCell ?_ (by first | omega | (simp; done) | (simp; omega)) _ | refine Below.then ?_ hb9 (by first | omega | (simp; done) | (simp; omega)) | refine Below.then ?_ hb8 (by first | omega | (simp; done) | (simp; omega)) | refine Below.then ?_ hb7 (by first | omega | (simp; done) | (simp; omega)) | refine Below.then ?_ hb6 (by first | omega | (simp; done) | (simp; omega)) | refine Below.then ?_ hb5 (by first | omega | (simp; done) | (simp; omega)) | refine Below.then ?_ hb4 (by first | omega | (simp; done) | (simp; omega)) | refine Below.then ?_ hb3 (by first | omega | (simp; done) | (simp; omega)) | refine Below.then ?_ hb2 (by first | omega | (simp; done) | (simp; omega)) | refine Below.then ?_ hb1 (by first | omega | (simp; done) | (simp; omega))))
  clear hc1 hf1
  go_wp2_with fail
  refine (BS.out _ (hi1.alloc _).sh).mono ?_
  rintro e2 w2 ⟨rfl, hb2⟩
  have hb12 : Below w1.heap.size w1 w2 := ((Below.refl _ _).alloc (Nat.le_refl _) _).trans (hb2.mono (by simp))
  have hz2 := hb12.size
  have q := fun B o (hB : B < w1.heap.size) => hb12.cell (p := ⟨B, o, none⟩) hB
  replace p1 := (q w.heap.size 1 la).trans p1
  replace r0 := (q (w.heap.size + 1) 0 (by omega)).trans r0
  replace e0 := (q (w.heap.size + 1 + 1) 0 (by omega)).trans e0
  replace z0 := (hb12.frozen (p := ⟨w.heap.size + 1 + 1, 0, none⟩) (by show w.heap.size + 1 + 1 < _; omega)).trans z0
  have hb02 := hb01.trans (hb12.mono (by omega))
  clear q hb2
  have fin : ∀ w3, Below w2.heap.size w2 w3 → w3.cell? ⟨w.heap.size + 1, 0, none⟩ = some (.slice none 0 0) ∧ w3.cell? ⟨w.heap.size + 1 + 1, 0, none⟩ = some (.int .i64 0) ∧ w3.frozen? ⟨w.heap.size + 1 + 1, 0, none⟩ = false ∧ Below w.heap.size w w3 := fun w3 hb => ⟨(hb.cell (p := ⟨w.heap.size + 1, 0, none⟩) (by show w.heap.size + 1 < _; omega)).trans r0, (hb.cell (p := ⟨w.heap.size + 1 + 1, 0, none⟩) (by show w.heap.size + 1 + 1 < _; omega)).trans e0, (hb.frozen (p := ⟨w.heap.size + 1 + 1, 0, none⟩) (by show w.heap.size + 1 + 1 < _; omega)).trans z0, hb02.trans (hb.mono (by omega))⟩
  have FIN := Lib.hid fin
  clear fin
  rcases hrr with hs | ⟨hs, hf | ⟨hf, hu | ⟨hu, hfu⟩⟩⟩
  all_goals (
    go_wp2_with fail
    (try rw [decide_eq_false (show ¬ f ≤ u by omega)])
    refine (M4.out _).mono ?_
    rintro e3 w3 ⟨rfl, hb3⟩
    obtain ⟨r3, e3, z3, hb03⟩ := FIN.out w3 hb3
    go_wp2
    refine leaves_cons (f := 29) (args := #[.pointer (some ⟨w.heap.size + 1 + 1, 0, none⟩)]) (by simp) (by simp [go_sem]) ?_
    refine (caught_up (w.heap.size + 1 + 1) 0 4 [] w3 e3 z3).mono ?_
    rintro e u' w'' ⟨rfl, rfl, rfl⟩
    have e1 := cell_put w3 ⟨w.heap.size + 1 + 1, 0, none⟩ (.int .i64 4) (by rw [e3]; rfl)
    have k1 : ∀ o, (w3.setCell ⟨w.heap.size + 1 + 1, 0, none⟩ (.int .i64 4)).cell? ⟨w.heap.size + 1, o, none⟩ = w3.cell? ⟨w.heap.size + 1, o, none⟩ := fun o => cell_blk _ _ _ _ _ _ (by omega)
    simp [Leaves, settle, results, Try.results15, go_sem, e1, k1, r3]
    exact hb03.setCell (by show w.heap.size ≤ w.heap.size + 1 + 1; omega) _)

theorem heapAll_calls (t sp : Int) (a : Option Addr) (n c B : Nat) (f u : Int) (w : World) :
    Calls Try.prog 36 #[.agg #[.int .i64 t, .int .i64 sp, .slice a n c, .func (.func 56) #[] #[.pointer (some ⟨B, 0, none⟩)]], .int .i64 f, .int .i64 u] w fun e w' =>
      e = .returned (.func (.func 62) #[] #[.pointer (some ⟨w.heap.size + 1, 0, none⟩), .pointer (some ⟨w.heap.size + 1 + 1, 0, none⟩), .pointer (some ⟨w.heap.size, 0, none⟩)]) ∧
      ((w.alloc (.cells #[.int .i64 t, .int .i64 sp, .slice a n c, .func (.func 56) #[] #[.pointer (some ⟨B, 0, none⟩)]] 79)).alloc (.cells #[.int .i64 f] 3)).alloc (.cells #[.int .i64 u] 3) = w' := by
  have hmf : ∀ (fn : Fn) (first cap : Array Value) (w : World), (Instr.makeFunc fn first cap).run Try.prog w = .ok (.func fn first cap) w := fun _ _ _ _ => rfl
  go_enter Try.func36, Try.ntmps36
  go_wp2
  go_ret
  exact ⟨rfl, rfl⟩

theorem owns_off2 {A : World} {N B o : Nat} {v : Value} {e : TypeId} {fa : Option Addr} {n fc : Nat} {xs : List Value} (hB : B < N) (hA : A.ownsRow N e 1 (.slice fa n fc) n xs) : (A.setCell ⟨B, o, none⟩ v).ownsRow N e 1 (.slice fa n fc) n xs := by
  refine hA.kept (row := some B) ⟨rfl, rfl, rfl, by simp [World.setCell], fun j hj hne => Below.heap_setCell _ _ _ _ (fun e => hne (by rw [e]))⟩ ?_
  cases hx : Value.ownBlock (.slice fa n fc) with
  | none => exact .inl rfl
  | some j =>
    right
    intro e
    injection e with e
    have := (hA.lt j hx).1
    omega
/-- all but one block stays, below a bound -/
structure KeepO (w : World) (R : Nat) (W : World) : Prop where
  os : W.os = w.os
  tape : W.tape = w.tape
  output : W.output = w.output
  keep : KeepR w.heap.size R w W
/-- what a walk's body keeps: the list told so far -/
def WalkI (w : World) (R : Nat) (pre : List Int) (W : World) : Prop :=
  (∃ out, W.heap[R]? = some (.cells #[out] 40 (0, 0)) ∧ W.ownsRow w.heap.size 3 1 out pre.length (pre.map (fun x => Value.int .i64 x))) ∧ KeepO w R W
theorem walkI_own {w : World} {R : Nat} (hR : R < w.heap.size) : OwnFrom w.heap.size (WalkI w R) := by
  intro s W W' row ⟨⟨out, hb, ho⟩, hk⟩ hg hr
  have ne : ∀ k, k < w.heap.size → some k ≠ row := fun k hk' e => by
    have := (hr k e.symm).1
    omega
  refine ⟨⟨out, (hg.block R (Nat.lt_of_lt_of_le hR hk.keep.1) (ne R hR)).trans hb, ho.kept hg ?_⟩, ⟨hg.os.trans hk.os, hg.tape.trans hk.tape, hg.output.trans hk.output, Nat.le_trans hk.keep.1 hg.size, fun k hk' hne => (hg.block k (Nat.lt_of_lt_of_le hk' hk.keep.1) (ne k hk')).trans (hk.keep.2 k hk' hne)⟩⟩
  cases hx : out.ownBlock with
  | none => exact .inl rfl
  | some g =>
    right
    intro e
    obtain ⟨_, o, hg1, hg2⟩ := hr g e.symm
    rcases ho.2 with ⟨hv, _⟩ | ⟨g', cap, cur, hv, _, hgg, _⟩
    · rw [hv] at hx; cases hx
    · rw [hv] at hx
      have : g' = g := Option.some.inj hx
      subst this
      rw [hgg] at hg1
      injection hg1 with hg1
      rw [← hg1] at hg2
      cases hg2

set_option maxRecDepth 100000 in
set_option maxHeartbeats 3200000 in
theorem walk_ok (p b : Nat) (l : List Int) (t sp : Int) (a : Option Addr) (c : Nat) (ss : List ByteArray) (s f u : Int) (hr : walkB sp s f u = true) (w : World) (h : PIn w p b l t sp a ss) :
    Calls Try.prog 15 #[.pointer (some ⟨p, 0, none⟩), .agg #[.int .i64 t, .int .i64 sp, .slice a ss.length c], .int .i64 s, .int .i64 f, .int .i64 u] w fun e w' =>
      ∃ fa fc, e = .returned (.tuple #[.slice fa (walkL t sp ss l (3 + 2 * t + s * sp + u) (3 + 2 * t + s * sp + f)).length fc, .int .i64 0]) ∧ IntsOf w' fa (walkL t sp ss l (3 + 2 * t + s * sp + u) (3 + 2 * t + s * sp + f)) ∧ Below w.heap.size w w' := by
  have H := Lib.hid (fun W (h : PIn W p b l t sp a ss) => h.of c W)
  obtain ⟨b1, b2, b3, b4, _⟩ := plan_ok h.plan
  have hr' := hr
  unfold walkB at hr'
  simp only [Bool.and_eq_true, decide_eq_true_eq] at hr'
  obtain ⟨⟨⟨⟨s0, s1⟩, f0⟩, u1⟩, fu⟩ := hr'
  have hm : 0 ≤ s * sp ∧ s * sp ≤ sp := by
    have : s = 0 ∨ s = 1 := by omega
    rcases this with rfl | rfl
    · omega
    · omega
  have BS := fun W hh => layBase_calls t sp a c ss s h.n W hh
  have hE : placeE t sp ss s 2 = 0 := by unfold placeE; rw [if_pos h.plan, if_neg (by omega)]
  have hV : placeV t sp ss s 2 (3 + 2 * t + s * sp) = 3 + 2 * t + s * sp := by unfold placeV; rw [if_pos hE]
  rw [hE, hV] at BS
  have ST := fun R F U Hb B x0 un W => heapAll_stops 4 (by omega) R F U Hb p b l t sp a c ss B x0 un h.n h.plan h.len (w := W)
  generalize hbv : 3 + 2 * t + s * sp = bv at BS
  have hbv0 : 3 + 2 * t ≤ bv ∧ bv ≤ 3 + 2 * t + sp := by omega
  have hlen := walkL_len (t := t) (sp := sp) (ss := ss) (l := l) (until_ := bv + u) ((bv + u) - (bv + f)).toNat (bv + f)
  have hlw : (walkL t sp ss l (bv + u) (bv + f)).length ≤ 4096 := by
    have : (walkL t sp ss l (bv + u) (bv + f)).length ≤ ((bv + u) - (bv + f)).toNat := hlen
    omega
  have ha : ∀ ad, a = some ad → ad.block < w.heap.size := by
    intro ad e
    rcases h.sh with hs | ⟨b', o', rfl, hb', _⟩
    · exfalso
      have h1 : ss.length = 0 := by rw [← strV_len, hs]; rfl
      have h2 := (plan_ok h.plan).2.2.2.2
      have := (table_len h2).1
      omega
    · injection e with e
      rw [← e]
      exact hb'
  have HAB := Lib.hid ha
  have hpb := h.ar.pb
  have hbb := h.ar.bb
  have hu2 : bv + u ≤ szP t sp := by unfold szP; omega
  have BS := Lib.hid BS
  have ST := Lib.hid ST
  have MO := Lib.hid (fun W => must_ok 4 W)
  have HP := Lib.hid h
  have HLW := Lib.hid hlw
  obtain ⟨i0, hi0, hi0z, hi0s, hi0b⟩ := info_parts infoInt
  clear h hE hV hr hlen hlw ha
  unfold heapV at H
  generalize hL : walkL t sp ss l (bv + u) (bv + f) = L at HLW
  have HL := Lib.hid hL
  clear hL
  refine (callsIn_wide (n := 5)).1 ?_
  refine callsIn_of_wp_marks Try.func15 rfl trivial ?_ rfl
  simp only [Try.ntmps15, List.size_toArray, List.length_cons, List.length_nil, Nat.reduceAdd, Nat.reduceSub, Array.replicate_succ, Array.replicate_zero, List.push_toArray, List.append_toArray, List.nil_append, List.cons_append]
  gi_wp2_with fail
  refine ⟨trivial, (callsIn_wide.2 (H.out _ (((HP.out.alloc _).alloc _).alloc _))).mono ?_⟩
  rintro e1 w1 ⟨rfl, hi1, hb1⟩
  obtain ⟨hc1, hf1⟩ := bcell hb1
  have hz1 := hb1.size
  (try simp at hz1)
  have hi1 : HIn w1 p b l (w.heap.size + 1 + 1 + 1) a ss := by simpa using hi1
  have p0 := hc1 w.heap.size 0 (by first | omega | (simp; done) | (simp; omega)); simp [go_sem] at p0
  have p1 := hc1 w.heap.size 1 (by first | omega | (simp; done) | (simp; omega)); simp [go_sem] at p1
  have p2 := hc1 w.heap.size 2 (by first | omega | (simp; done) | (simp; omega)); simp [go_sem] at p2
  have r0 := hc1 (w.heap.size + 1) 0 (by first | omega | (simp; done) | (simp; omega)); simp [go_sem] at r0
  have e0 := hc1 (w.heap.size + 2) 0 (by first | omega | (simp; done) | (simp; omega)); simp [go_sem] at e0
  have z0 := hf1 (w.heap.size + 2) 0 (by first | omega | (simp; done) | (simp; omega)); simp [go_sem] at z0
  have rb : w1.heap[w.heap.size + 1]? = some (.cells #[.slice none 0 0] 40 (0, 0)) := (hb1.block (w.heap.size + 1) (by simp)).trans (by rw [Below.heap_alloc _ _ _ (by simp)]; have := World.alloc_heap_new (w.alloc (Obj.cells #[.int .i64 t, .int .i64 sp, .slice a ss.length c] 24)) (.cells #[.slice none 0 0] 40); rwa [World.size_alloc] at this)
  have la : w.heap.size < w1.heap.size := by first | omega | (simp; done) | (simp; omega)
  have lr : w.heap.size + 1 < w1.heap.size := by first | omega | (simp; done) | (simp; omega)
  have lc : w.heap.size + 1 + 1 < w1.heap.size := by first | omega | (simp; done) | (simp; omega)
  have hb01 : Below w.heap.size w w1 := by (repeat (first | exact Below.refl _ _ | (with_reducible assumption) | refine Below.drew ?_ | refine Below.drewN' ?_ _ | refine Below.alloc ?_ (by first | omega | (simp; done) | (simp; omega)) _ | refine Below.setCell ?_ (by first | omega | (simp; done) | (simp; omega)) _ | refine Below.then ?_ hb9 (by first | omega | (simp; done) | (simp; omega)) | refine Below.then ?_ hb8 (by first | omega | (simp; done) | (simp; omega)) | refine Below.then ?_ hb7 (by first | omega | (simp; done) | (simp; omega)) | refine Below.then ?_ hb6 (by first | omega | (simp; done) | (simp; omega)) | refine Below.then ?_ hb5 (by first | omega | (simp; done) | (simp; omega)) | refine Below.then ?_ hb4 (by first | omega | (simp; done) | (simp; omega)) | refine Below.then ?_ hb3 (by first | omega | (simp; done) | (simp; omega)) | refine Below.then ?_ hb2 (by first | omega | (simp; done) | (simp; omega)) | refine Below.then ?_ hb1 (by first | omega | (simp; done) | (simp; omega))))
  clear hc1 hf1
  gi_wp2_with fail
  refine ⟨trivial, (callsIn_wide.2 (BS.out _ (hi1.alloc _).sh)).mono ?_⟩
  rintro e2 w2 ⟨rfl, hb2⟩
  have hz2 := hb2.size
  (try simp at hz2)
  obtain ⟨hc2, hf2⟩ := bcell hb2
  have a0 := hc2 w1.heap.size 0 (by first | omega | (simp; done) | (simp; omega)); simp [go_sem] at a0
  have a1 := hc2 w1.heap.size 1 (by first | omega | (simp; done) | (simp; omega)); simp [go_sem] at a1
  have a2 := hc2 w1.heap.size 2 (by first | omega | (simp; done) | (simp; omega)); simp [go_sem] at a2
  have a3 := hc2 w1.heap.size 3 (by first | omega | (simp; done) | (simp; omega)); simp [go_sem] at a3
  have hb12 : Below w1.heap.size w1 w2 := ((Below.refl _ _).alloc (Nat.le_refl _) _).trans (hb2.mono (by simp))
  clear hc2 hf2 hb2
  replace p1 := (hb12.cell (p := ⟨w.heap.size, 1, none⟩) la).trans p1
  gi_wp2_with fail
  refine ⟨trivial, (callsIn_wide.2 (MO.out _)).mono ?_⟩
  rintro e3 w3 ⟨rfl, hb3⟩
  have hz3 := hb3.size
  replace a0 := hold_cell (w2 := w3) a0 (by (repeat (first | exact Below.refl _ _ | (with_reducible assumption) | refine Below.drew ?_ | refine Below.drewN' ?_ _ | refine Below.alloc ?_ (by first | omega | (simp; done) | (simp; omega)) _ | refine Below.setCell ?_ (by first | omega | (simp; done) | (simp; omega)) _ | refine Below.then ?_ hb9 (by first | omega | (simp; done) | (simp; omega)) | refine Below.then ?_ hb8 (by first | omega | (simp; done) | (simp; omega)) | refine Below.then ?_ hb7 (by first | omega | (simp; done) | (simp; omega)) | refine Below.then ?_ hb6 (by first | omega | (simp; done) | (simp; omega)) | refine Below.then ?_ hb5 (by first | omega | (simp; done) | (simp; omega)) | refine Below.then ?_ hb4 (by first | omega | (simp; done) | (simp; omega)) | refine Below.then ?_ hb3 (by first | omega | (simp; done) | (simp; omega)) | refine Below.then ?_ hb2 (by first | omega | (simp; done) | (simp; omega)) | refine Below.then ?_ hb1 (by first | omega | (simp; done) | (simp; omega))))) (by first | omega | (simp; done) | (simp; omega))
  replace a1 := hold_cell (w2 := w3) a1 (by (repeat (first | exact Below.refl _ _ | (with_reducible assumption) | refine Below.drew ?_ | refine Below.drewN' ?_ _ | refine Below.alloc ?_ (by first | omega | (simp; done) | (simp; omega)) _ | refine Below.setCell ?_ (by first | omega | (simp; done) | (simp; omega)) _ | refine Below.then ?_ hb9 (by first | omega | (simp; done) | (simp; omega)) | refine Below.then ?_ hb8 (by first | omega | (simp; done) | (simp; omega)) | refine Below.then ?_ hb7 (by first | omega | (simp; done) | (simp; omega)) | refine Below.then ?_ hb6 (by first | omega | (simp; done) | (simp; omega)) | refine Below.then ?_ hb5 (by first | omega | (simp; done) | (simp; omega)) | refine Below.then ?_ hb4 (by first | omega | (simp; done) | (simp; omega)) | refine Below.then ?_ hb3 (by first | omega | (simp; done) | (simp; omega)) | refine Below.then ?_ hb2 (by first | omega | (simp; done) | (simp; omega)) | refine Below.then ?_ hb1 (by first | omega | (simp; done) | (simp; omega))))) (by first | omega | (simp; done) | (simp; omega))
  replace a2 := hold_cell (w2 := w3) a2 (by (repeat (first | exact Below.refl _ _ | (with_reducible assumption) | refine Below.drew ?_ | refine Below.drewN' ?_ _ | refine Below.alloc ?_ (by first | omega | (simp; done) | (simp; omega)) _ | refine Below.setCell ?_ (by first | omega | (simp; done) | (simp; omega)) _ | refine Below.then ?_ hb9 (by first | omega | (simp; done) | (simp; omega)) | refine Below.then ?_ hb8 (by first | omega | (simp; done) | (simp; omega)) | refine Below.then ?_ hb7 (by first | omega | (simp; done) | (simp; omega)) | refine Below.then ?_ hb6 (by first | omega | (simp; done) | (simp; omega)) | refine Below.then ?_ hb5 (by first | omega | (simp; done) | (simp; omega)) | refine Below.then ?_ hb4 (by first | omega | (simp; done) | (simp; omega)) | refine Below.then ?_ hb3 (by first | omega | (simp; done) | (simp; omega)) | refine Below.then ?_ hb2 (by first | omega | (simp; done) | (simp; omega)) | refine Below.then ?_ hb1 (by first | omega | (simp; done) | (simp; omega))))) (by first | omega | (simp; done) | (simp; omega))
  replace a3 := hold_cell (w2 := w3) a3 (by (repeat (first | exact Below.refl _ _ | (with_reducible assumption) | refine Below.drew ?_ | refine Below.drewN' ?_ _ | refine Below.alloc ?_ (by first | omega | (simp; done) | (simp; omega)) _ | refine Below.setCell ?_ (by first | omega | (simp; done) | (simp; omega)) _ | refine Below.then ?_ hb9 (by first | omega | (simp; done) | (simp; omega)) | refine Below.then ?_ hb8 (by first | omega | (simp; done) | (simp; omega)) | refine Below.then ?_ hb7 (by first | omega | (simp; done) | (simp; omega)) | refine Below.then ?_ hb6 (by first | omega | (simp; done) | (simp; omega)) | refine Below.then ?_ hb5 (by first | omega | (simp; done) | (simp; omega)) | refine Below.then ?_ hb4 (by first | omega | (simp; done) | (simp; omega)) | refine Below.then ?_ hb3 (by first | omega | (simp; done) | (simp; omega)) | refine Below.then ?_ hb2 (by first | omega | (simp; done) | (simp; omega)) | refine Below.then ?_ hb1 (by first | omega | (simp; done) | (simp; omega))))) (by first | omega | (simp; done) | (simp; omega))
  have hb13 : Below w1.heap.size w1 w3 := hb12.trans (hb3.mono (by omega))
  gi_wp2_with fail
  refine ⟨trivial, (callsIn_wide.2 (heapAll_calls t sp a ss.length c (w.heap.size + 1 + 1 + 1) (bv + f) (bv + u) w3)).mono ?_⟩
  rintro e4 w5 ⟨rfl, hw5⟩
  have hb35 : Below w3.heap.size w3 w5 := by rw [← hw5]; (repeat (first | exact Below.refl _ _ | (with_reducible assumption) | refine Below.drew ?_ | refine Below.drewN' ?_ _ | refine Below.alloc ?_ (by first | omega | (simp; done) | (simp; omega)) _ | refine Below.setCell ?_ (by first | omega | (simp; done) | (simp; omega)) _ | refine Below.then ?_ hb9 (by first | omega | (simp; done) | (simp; omega)) | refine Below.then ?_ hb8 (by first | omega | (simp; done) | (simp; omega)) | refine Below.then ?_ hb7 (by first | omega | (simp; done) | (simp; omega)) | refine Below.then ?_ hb6 (by first | omega | (simp; done) | (simp; omega)) | refine Below.then ?_ hb5 (by first | omega | (simp; done) | (simp; omega)) | refine Below.then ?_ hb4 (by first | omega | (simp; done) | (simp; omega)) | refine Below.then ?_ hb3 (by first | omega | (simp; done) | (simp; omega)) | refine Below.then ?_ hb2 (by first | omega | (simp; done) | (simp; omega)) | refine Below.then ?_ hb1 (by first | omega | (simp; done) | (simp; omega))))
  have hz5 : w5.heap.size = w3.heap.size + 3 := by rw [← hw5]; simp
  have g0 : w5.cell? ⟨w3.heap.size, 0, none⟩ = some (.int .i64 t) := by rw [← hw5]; simp [go_sem]
  have g1 : w5.cell? ⟨w3.heap.size, 1, none⟩ = some (.int .i64 sp) := by rw [← hw5]; simp [go_sem]
  have g2 : w5.cell? ⟨w3.heap.size, 2, none⟩ = some (.slice a ss.length c) := by rw [← hw5]; simp [go_sem]
  have g3 : w5.cell? ⟨w3.heap.size, 3, none⟩ = some (.func (.func 56) #[] #[.pointer (some ⟨w.heap.size + 1 + 1 + 1, 0, none⟩)]) := by rw [← hw5]; simp [go_sem]
  have g4 : w5.cell? ⟨w3.heap.size + 1, 0, none⟩ = some (.int .i64 (bv + f)) := by rw [← hw5]; simp [go_sem]
  have g5 : w5.cell? ⟨w3.heap.size + 1 + 1, 0, none⟩ = some (.int .i64 (bv + u)) := by rw [← hw5]; simp [go_sem]
  have hb15 : Below w1.heap.size w1 w5 := hb13.trans (hb35.mono (by omega))
  have hi5 := hi1.below hb15
  have rb5 := (hb15.block (w.heap.size + 1) lr).trans rb
  have e5 := (hb15.cell (p := ⟨w.heap.size + 1 + 1, 0, none⟩) lc).trans e0
  have z5 := (hb15.frozen (p := ⟨w.heap.size + 1 + 1, 0, none⟩) lc).trans z0
  have hb05 : Below w.heap.size w w5 := hb01.trans (hb15.mono (by omega))
  have hzz : w1.heap.size ≤ w3.heap.size := by omega
  clear hw5 a0 a1 a2 a3 p0 p1 p2 hb12 hb13 hb3 r0 e0 z0 rb hb1 hb35
  have STn := ST.out (w.heap.size + 1) (w3.heap.size + 1) (w3.heap.size + 1 + 1) w3.heap.size (w.heap.size + 1 + 1 + 1) (bv + f) (bv + u) w5 (by omega) (by omega) hu2 hi5 (by omega) (by omega) (by omega) (fun ad e => by have := HAB.out ad e; omega) (by omega) (by omega) (by omega) g4 g5 g0 g1 g2 g3
  rw [HL.out] at STn
  have hRlt : w.heap.size + 1 < w5.heap.size := by omega
  gi_wp2
  generalize hA : ({ tmps := _, defers := _ } : Act) = A0
  have hput : ∀ (x : Int), ({ tmps := (A0.tmps.setIfInBounds 51 (.int .i64 x)).setIfInBounds 15 (.int .i64 x), defers := [] } : Act) = { tmps := (A0.tmps.setIfInBounds 51 (.int .i64 x)).setIfInBounds 15 (.int .i64 x), defers := [] } := fun x => rfl
  refine wpIn_rangeFunc_ownF rfl (by omega) (gf := 62) (lb := #[.pointer (some ⟨w3.heap.size + 1, 0, none⟩), .pointer (some ⟨w3.heap.size + 1 + 1, 0, none⟩), .pointer (some ⟨w3.heap.size, 0, none⟩)]) (by rw [← hA]; rfl) trivial (enters_of Try.func62 (by kernel_rfl) rfl)
    STn KeepR.trans (fun W l o o' hl ho h1 h2 => ?hKb) (Below.refl _ _) (fun _ => rfl)
    (WalkI w5 (w.heap.size + 1)) (fun _ _ _ => False) (walkI_own hRlt) (fun _ _ _ _ _ hs _ _ => hs) ⟨⟨.slice none 0 0, rb5, World.ownsRow_nil _ _ _ _⟩, rfl, rfl, rfl, Nat.le_refl _, fun _ _ _ => rfl⟩
    (fun x => { tmps := (A0.tmps.setIfInBounds 51 (.int .i64 x)).setIfInBounds 15 (.int .i64 x), defers := [] }) ?assign ?body ?done ?stop
  case hKb => exact ⟨by simp [World.putObj], fun k hk _ => World.putObj_heap_other (by omega)⟩
  case assign =>
    intro l x W K hK
    rw [← hA] at hK ⊢
    have e : (#[51] : Array Tmp).zip (walkEnc x) = #[(51, .int .i64 x)] := by unfold walkEnc; first | (simp; done) | kernel_rfl
    rw [e]
    simp only [List.setIfInBounds_toArray, List.set_cons_zero, List.set_cons_succ] at hK
    gi_wp2
    exact hK
  case body =>
    rintro lp pre x W ⟨⟨out, hb, ho⟩, hk⟩ hlen
    obtain ⟨gf, gfc, rfl⟩ := owns_slice ho
    rw [← hA]
    simp only [List.setIfInBounds_toArray, List.set_cons_zero, List.set_cons_succ]
    have hc : W.cell? ⟨w.heap.size + 1, 0, none⟩ = some (.slice gf pre.length gfc) := by simp [World.cell?, hb]
    have hz : W.frozen? ⟨w.heap.size + 1, 0, none⟩ = false := by simp [World.frozen?, hb]
    have hle := hk.keep.1
    have hRW : w.heap.size + 1 < W.heap.size := by omega
    have hLn := HLW.out
    have hbb6 : ∀ (A : World) (v' : Value) (w6 : World), A.heap[w.heap.size + 1]? = W.heap[w.heap.size + 1]? → W.heap.size ≤ A.heap.size → A.grownBy w6 (Value.ownBlock (.slice gf pre.length gfc)) → w6.heap[w.heap.size + 1]? = some (.cells #[.slice gf pre.length gfc] 40 (0, 0)) := fun A v' w6 hA1 hA2 hg =>
      (hg.block (w.heap.size + 1) (by omega) (fun e => by have := (ho.lt _ e.symm).1; omega)).trans (hA1.trans hb)
    have HB6 := Lib.hid hbb6
    have HO := Lib.hid ho
    have HK := Lib.hid hk
    have HB := Lib.hid hb
    clear hbb6 ho hk hb
    gi_wp2_with (gi_at_builtin; go_loud (refine wpListIn_append_own _ rfl _ _ 40 rfl w5.heap.size 3 i0 (.int .i64 0) 1 8 Try.underlying40 hi0 hi0z hi0s hi0b rfl (by decide) _ _ _ rfl (HO.out.alloc _) ⟨W.heap.size, 0, none⟩ 1 1 [.int .i64 x] rfl rfl (cell_one_new _ _ _) (by simp [Value.oneCell']) (by unfold maxLen; omega) (by omega) (by rw [World.size_alloc]; omega) ?_; intro v' w6 hown' hgrow hnil; obtain ⟨gn, gnc, rfl⟩ := owns_slice hown'; have hb6 := HB6.out _ (.int .i64 0) w6 (Below.heap_alloc _ _ _ hRW) (((Below.refl W.heap.size W).alloc (Nat.le_refl _) _).size) hgrow; have c6 : w6.cell? ⟨w.heap.size + 1, 0, none⟩ = some (.slice gf pre.length gfc) := (by simp [World.cell?, hb6]); have z6 : w6.frozen? ⟨w.heap.size + 1, 0, none⟩ = false := (by simp [World.frozen?, hb6])))
    have hk := HK.out
    have ho := HO.out
    refine ⟨((KeepsOthers.alloc _ _).trans (KeepsOthers.of_grownBy hgrow ?_)).trans (KeepsOthers.setCell _ _ _), ⟨?_, fun k hk1 hk2 => ?_⟩, ⟨.slice gn (pre.length + 1) gnc, ?_, ?_⟩, ?_⟩
    · intro j o ej hj
      rcases ho.2 with ⟨hv, _⟩ | ⟨g', cap, cur, hv, _, hgg, _⟩
      · rw [hv] at ej; cases ej
      · rw [hv] at ej
        have : g' = j := Option.some.inj ej
        subst this
        rw [Below.heap_alloc _ _ _ (Array.getElem?_eq_some_iff.1 hgg).1, hgg] at hj
        injection hj with hj
        rw [← hj]
        rfl
    · have := hgrow.size
      simp [World.setCell] at this ⊢
      omega
    · rw [Below.heap_setCell _ _ _ _ hk2, hgrow.block k (by simp; omega) (fun e => by have := (ho.lt _ e.symm).1; omega), Below.heap_alloc _ _ _ (by omega)]
    · simp [World.setCell, Array.getElem?_modify, hb6]
    · rw [List.length_append, List.length_singleton, List.map_append]
      refine hown'.kept (row := some (w.heap.size + 1)) ⟨rfl, rfl, rfl, by simp [World.setCell], fun j hj hne => Below.heap_setCell _ _ _ _ (fun e => hne (by rw [e]))⟩ ?_
      cases hx : Value.ownBlock (.slice gn (pre.length + 1) gnc) with
      | none => exact .inl rfl
      | some j =>
        right
        intro e
        injection e with e
        have := (hown'.lt j hx).1
        omega
    · refine ⟨hgrow.os.trans hk.os, hgrow.tape.trans hk.tape, hgrow.output.trans hk.output, ?_, fun k hk1 hk2 => ?_⟩
      · have := hgrow.size
        simp [World.setCell] at this ⊢
        omega
      · rw [Below.heap_setCell _ _ _ _ hk2, hgrow.block k (by simp; omega) (fun e => by have := (ho.lt _ e.symm).1; omega), Below.heap_alloc _ _ _ (by omega)]
        exact hk.keep.2 k hk1 hk2
  case done =>
    rintro D ys W hD rfl ⟨⟨out, hb, ho⟩, hk⟩ hK
    obtain ⟨gf, gfc, rfl⟩ := owns_slice ho
    have hc : W.cell? ⟨w.heap.size + 1, 0, none⟩ = some (.slice gf ys.length gfc) := by simp [World.cell?, hb]
    have hz : W.frozen? ⟨w.heap.size + 1, 0, none⟩ = false := by simp [World.frozen?, hb]
    have hc2 : W.cell? ⟨w.heap.size + 1 + 1, 0, none⟩ = some (.int .i64 0) := (hk.keep.cell _ 0 (by omega) (by omega)).trans e5
    have hz2 : W.frozen? ⟨w.heap.size + 1 + 1, 0, none⟩ = false := by simp only [World.frozen?, hk.keep.2 (w.heap.size + 1 + 1) (by omega) (by omega)]; exact z5
    rw [← hA]
    gi_wp2
    generalize hW2 : (W.setCell _ _).setCell _ _ = W2
    have r2 : W2.cell? ⟨w.heap.size + 1, 0, none⟩ = some (.slice gf ys.length gfc) := by rw [← hW2, cell_blk _ _ _ _ _ _ (by omega), cell_put _ _ _ (by rw [hc]; rfl)]
    have e2 : W2.cell? ⟨w.heap.size + 1 + 1, 0, none⟩ = some (.int .i64 0) := by rw [← hW2, cell_put _ _ _ (by rw [cell_blk _ _ _ _ _ _ (by omega), hc2]; rfl)]
    have hKD : W2.heap[D]? = some (.deferred (some [])) := by rw [← hW2, Below.heap_setCell _ _ _ _ (by show D ≠ w.heap.size + 1 + 1; omega), Below.heap_setCell _ _ _ _ (by show D ≠ w.heap.size + 1; omega)]; exact hK
    have b2 : Below w.heap.size w W2 := by
      rw [← hW2]
      refine Below.setCell (Below.setCell ⟨hk.os.trans hb05.os, hk.tape.trans hb05.tape, hk.output.trans hb05.output, Nat.le_trans hb05.size hk.keep.1, fun k hk1 => (hk.keep.2 k (by omega) (by omega)).trans (hb05.block k hk1)⟩ (by show w.heap.size ≤ w.heap.size + 1; omega) _) (by show w.heap.size ≤ w.heap.size + 1 + 1; omega) _
    have o2 : W2.ownsRow w5.heap.size 3 1 (.slice gf ys.length gfc) ys.length (ys.map (fun x => Value.int .i64 x)) := by rw [← hW2]; exact owns_off2 (by omega) (owns_off2 (by omega) ho)
    clear hW2
    have hd2 : D < W2.heap.size := (Array.getElem?_eq_some_iff.1 hKD).1
    refine ⟨by simp, .inl ⟨_, _, rfl, run_takeDeferred hKD, ?_⟩⟩
    refine ⟨by simp, .inr ⟨fun _ => by omega, _, _, 29, #[.pointer (some ⟨w.heap.size + 1 + 1, 0, none⟩)], rfl, by simp [invoke, go_sem], fun g hg => trivial, ?_⟩⟩
    refine (caught_idleIn _ (w.heap.size + 1 + 1) _).mono ?_
    rintro e u' w'' ⟨rfl, rfl, rfl⟩
    have r3 : (W2.putObj D (.deferred none)).cell? ⟨w.heap.size + 1, 0, none⟩ = some (.slice gf ys.length gfc) := by simp only [World.cell?, World.putObj_heap_other (show w.heap.size + 1 ≠ D by omega)]; exact r2
    have e3 : (W2.putObj D (.deferred none)).cell? ⟨w.heap.size + 1 + 1, 0, none⟩ = some (.int .i64 0) := by simp only [World.cell?, World.putObj_heap_other (show w.heap.size + 1 + 1 ≠ D by omega)]; exact e2
    have o3 : (W2.putObj D (.deferred none)).ownsRow w5.heap.size 3 1 (.slice gf ys.length gfc) ys.length (ys.map (fun x => Value.int .i64 x)) := by
      refine o2.kept (grownBy_putObj' W2 D (.deferred none)) ?_
      cases hx : Value.ownBlock (.slice gf ys.length gfc) with
      | none => exact .inl rfl
      | some g =>
        right
        intro e
        have e' : g = D := Option.some.inj e
        subst e'
        rcases o2.2 with ⟨hv, _⟩ | ⟨g', cap, cur, hv, _, hgg, _⟩
        · rw [hv] at hx; cases hx
        · rw [hv] at hx
          have : g' = g := Option.some.inj hx
          subst this
          rw [hgg] at hKD
          cases hKD
    have b3 : Below w.heap.size w (W2.putObj D (.deferred none)) := b2.trans ⟨rfl, rfl, rfl, by simp [World.putObj], fun k hk1 => World.putObj_heap_other (by omega)⟩
    simp [LeavesInM, LeavesIn, settle, results, Try.results15, go_sem, r3, e3]
    exact ⟨owns_ints o3, b3⟩
  case stop =>
    rintro D c pre W _ _ h _
    exact h.elim
end Go.Proofs.Ytiodkcecpnomcaa
