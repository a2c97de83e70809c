/- The layer 'layout': the words at the start. -/
import Derived.Test.YtiodkcecpnomcaaDoorLay2
import Derived.Test.YtiodkcecpnomcaaDoorAllF
import Derived.Test.YtiodkcecpnomcaaDoorRound
import Derived.RangeFuncFrom
import Derived.Test.YtiodkcecpnomcaaDoorHead
import Derived.Test.YtiodkcecpnomcaaDoorQPk
import Derived.Deep.RegionHeld3
namespace Go.Proofs.YtiodkcecpnomcaaDoor
open Go.RowKit Go.Shelf Go.Proofs.YtiodkcecpnomcaaDoorW.PrintWords Go.Proofs.YtiodkcecpnomcaaDoorW.PrintLast Go.Proofs.YtiodkcecpnomcaaDoorW.PrintMore
set_option linter.unusedVariables false
set_option linter.unusedSimpArgs false
attribute [local go_sem] Oper.semAt_some

def frontV (low sp : Int) : Int := 2 * (low + 8192 * sp)
def stL (t sp : Int) (s : ByteArray) : Nat → List Int
  | 0 => ((List.replicate (3 + 2 * t + 2 * sp).toNat 0).set 1 (frontV (2 + s.size) sp)).set (3 + 2 * t).toNat 6
  | k + 1 => if byteAt s k = 115 then (stL t sp s k).set (3 + 2 * t + 2 + k).toNat 4611686018427387908 else stL t sp s k

theorem wrapUU {x : Int} (h0 : 0 ≤ x) (h1 : x < 18446744073709551616) : IntKind.u64.wrap x = x := by
  simp [IntKind.wrap, IntKind.signed, IntKind.bits]; omega
theorem w64' {x : Int} (h0 : -9223372036854775808 ≤ x) (h1 : x ≤ 9223372036854775807) : wrap64 x = x := by unfold wrap64; omega
theorem packFront_calls (low sp : Int) (h0 : 0 ≤ low) (h1 : low ≤ sp) (h2 : sp ≤ 4096) (w : World) :
    Calls Tryd.prog 41 #[.agg #[.int .i64 0, .int .i64 low, .int .i64 sp, .int .i64 0]] w fun e w' => e = .returned (.tuple #[.int .u64 (frontV low sp), .int .i64 0]) ∧ Below w.heap.size w w' := by
  refine Go.Proofs.YtiodkcecpnomcaaDoorQ.Pk.pack_Front.calls 5 0 low sp 0 _ _ w ?_
  have e1 : ¬ low < 0 := by omega
  have e2 : ¬ low > 4096 := by omega
  have e3 : ¬ sp < 0 := by omega
  have e4 : ¬ sp > 4096 := by omega
  have e5 : wrap64 low = low := w64' (by omega) (by omega)
  have e6 : wrap64 (sp * 8192) = sp * 8192 := w64' (by omega) (by omega)
  have e7 : wrap64 (sp * 8192 + low) = sp * 8192 + low := w64' (by omega) (by omega)
  have e8 : wrap64 ((sp * 8192 + low) * 2) = (sp * 8192 + low) * 2 := w64' (by omega) (by omega)
  have e0 : wrap64 0 = 0 := w64' (by omega) (by omega)
  have e10 : wrap64 sp = sp := w64' (by omega) (by omega)
  have e9 : IntKind.u64.wrap ((sp * 8192 + low) * 2) = frontV low sp := by
    unfold frontV
    rw [show (sp * 8192 + low) * 2 = 2 * (low + 8192 * sp) by omega]
    exact wrapUU (by omega) (by omega)
  have w1 : Go.Proofs.YtiodkcecpnomcaaDoorQ.Pk.pack_within.f 5 1 [0] = some true := by
    simp [Go.Proofs.YtiodkcecpnomcaaDoorQ.Pk.pack_within.f, Go.Proofs.YtiodkcecpnomcaaDoorQ.Pk.pack_within.l0, rd, wrap64]
  have w2 : Go.Proofs.YtiodkcecpnomcaaDoorQ.Pk.pack_within.f 5 4096 [low, sp, 0] = some true := by
    simp [Go.Proofs.YtiodkcecpnomcaaDoorQ.Pk.pack_within.f, Go.Proofs.YtiodkcecpnomcaaDoorQ.Pk.pack_within.l0, rd, e1, e2, e3, e4, wrap64]
  unfold Go.Proofs.YtiodkcecpnomcaaDoorQ.Pk.pack_Front.f Go.Proofs.YtiodkcecpnomcaaDoorQ.Pk.pack_front_right.f
  rw [w1, w2]
  simp [e0, e10, e5, e6, e7, e8, e9, h1]

theorem scalar0_calls (w : World) : Calls Tryd.prog 44 #[.int .i64 0] w fun e w' => e = .returned (.tuple #[.int .u64 4611686018427387908, .int .i64 0]) ∧ Below w.heap.size w w' := by
  refine Go.Proofs.YtiodkcecpnomcaaDoorQ.Pk.word_Scalar.calls 0 _ _ w ?_
  have m3 : mkW 3 false 0 = 4611686018427387908 := by decide
  have m4 : mkE 3 false 0 = 0 := by decide
  simp [Go.Proofs.YtiodkcecpnomcaaDoorQ.Pk.word_Scalar.f, Go.Proofs.YtiodkcecpnomcaaDoorQ.Pk.word_Make.f, m3, m4]
theorem head0_calls (w : World) : Calls Tryd.prog 42 #[.agg #[.int .i64 0, .int .i64 0]] w fun e w' => e = .returned (.tuple #[.int .u64 6, .int .i64 0]) ∧ Below w.heap.size w w' := by
  have h := make_calls 0 0 w
  rwa [show hMakeW 0 0 = 6 by decide, show hMakeE 0 0 = 0 by decide] at h
/-- what stands in memory while the words are laid -/
structure StA (w : World) (gp gl glo go co m n c : Nat) (t sp : Int) (a : Option Addr) (lo : Int) (L : List Int) (A : World) : Prop where
  p : A.heap[gp]? = some (.cells #[.int .i64 t, .int .i64 sp, .slice a n c] 24 (0, 0))
  l : A.heap[gl]? = some (.cells #[.slice (some ⟨go, 0, none⟩) m co] 51 (0, 0))
  lo : A.heap[glo]? = some (.cells #[.int .i64 lo] 3 (0, 0))
  r : Kd.R (Kd.int .u64) 57 A w.heap.size (fun _ => True) (.slice (some ⟨go, 0, none⟩) m co) L
  b : Below w.heap.size w A
theorem StA.call {w : World} {gp gl glo go co m n c : Nat} {t sp : Int} {a : Option Addr} {lo : Int} {L : List Int} {A A' : World} (h : StA w gp gl glo go co m n c t sp a lo L A) (hb : Below A.heap.size A A') : StA w gp gl glo go co m n c t sp a lo L A' :=
  ⟨blk_below h.p hb, blk_below h.l hb, blk_below h.lo hb, Kd.R_below h.r hb, below_step h.b hb⟩
theorem StA.drew {w : World} {gp gl glo go co m n c : Nat} {t sp : Int} {a : Option Addr} {lo : Int} {L : List Int} {A : World} (h : StA w gp gl glo go co m n c t sp a lo L A) : StA w gp gl glo go co m n c t sp a lo L A.drew :=
  h.call (Below.refl _ _).drew
theorem StA.alloc {w : World} {gp gl glo go co m n c : Nat} {t sp : Int} {a : Option Addr} {lo : Int} {L : List Int} {A : World} (h : StA w gp gl glo go co m n c t sp a lo L A) (o : Obj) : StA w gp gl glo go co m n c t sp a lo L (A.alloc o) :=
  h.call (below_alloc (Below.refl _ _) o)
theorem StA.put {w : World} {gp gl glo go co m n c : Nat} {t sp : Int} {a : Option Addr} {lo : Int} {L : List Int} {A : World} (h : StA w gp gl glo go co m n c t sp a lo L A) (hg : w.heap.size ≤ go) (i : Int) (x : Int) : StA w gp gl glo go co m n c t sp a lo (L.set i.toNat x) (A.setCell ⟨go, i.toNat, none⟩ (.int .u64 x)) :=
  ⟨blk_grown h.p (Kd.R_putg h.r i x).2 (Kd.R_ne h.r h.p (by decide)), blk_grown h.l (Kd.R_putg h.r i x).2 (Kd.R_ne h.r h.l (by decide)), blk_grown h.lo (Kd.R_putg h.r i x).2 (Kd.R_ne h.r h.lo (by decide)), (Kd.R_putg h.r i x).1, below_set h.b hg⟩
theorem StA.at {w : World} {gp gl glo go co m n c : Nat} {t sp : Int} {a : Option Addr} {lo : Int} {L : List Int} {A : World} (h : StA w gp gl glo go co m n c t sp a lo L A) :
    StA w gp gl glo go co m n c t sp a lo L A ∧ A.cell? ⟨gl, 0, none⟩ = some (.slice (some ⟨go, 0, none⟩) m co) ∧ A.cell? ⟨glo, 0, none⟩ = some (.int .i64 lo) ∧ A.cell? ⟨gp, 0, none⟩ = some (.int .i64 t) ∧ A.cell? ⟨gp, 1, none⟩ = some (.int .i64 sp) ∧ A.cell? ⟨gp, 2, none⟩ = some (.slice a n c) :=
  ⟨h, (blk_cell h.l 0).trans rfl, (blk_cell h.lo 0).trans rfl, (blk_cell h.p 0).trans rfl, (blk_cell h.p 1).trans rfl, (blk_cell h.p 2).trans rfl⟩

structure StB (w : World) (gp gl glo ga go co m n c : Nat) (t sp : Int) (a : Option Addr) (lo v : Int) (L : List Int) (A : World) : Prop where
  s : StA w gp gl glo go co m n c t sp a lo L A
  q : A.heap[ga]? = some (.cells #[.int .i64 v] 3 (0, 0))
theorem StA.grown {w : World} {gp gl glo go co m n c : Nat} {t sp : Int} {a : Option Addr} {lo : Int} {L : List Int} {A A' : World} {row : Option Nat} (h : StA w gp gl glo go co m n c t sp a lo L A)
    (hg : A.grownBy A' row) (hr : ∀ r, row = some r → w.heap.size ≤ r ∧ ∃ o : Obj, A.heap[r]? = some o ∧ o.isCells = false) : StA w gp gl glo go co m n c t sp a lo L A' := by
  have ne : ∀ (g : Nat) (cs : Array Value) (ty : TypeId), A.heap[g]? = some (.cells cs ty (0, 0)) → some g ≠ row := by
    intro g cs ty hg' e
    obtain ⟨_, o, ho, hc⟩ := hr g e.symm
    rw [hg'] at ho
    cases ho
    cases hc
  refine ⟨blk_grown h.p hg (ne _ _ _ h.p), blk_grown h.l hg (ne _ _ _ h.l), blk_grown h.lo hg (ne _ _ _ h.lo), ?_, h.b.grown hg h.b.size (fun j ej => (hr j ej).1)⟩
  refine Kd.R_mono (Kd.R_move (Kd.R_bound h.r) (fun k hk => hg.block k hk.2.2.1 (fun he => ?_))) (fun _ hk => hk.1)
  obtain ⟨_, _, _, q, hq, cells, hc⟩ := hk
  exact ne _ _ _ hc he
section
variable {w : World} {gp gl glo ga go co m n c : Nat} {t sp : Int} {a : Option Addr} {lo v : Int} {L : List Int} {A A' : World}
theorem StB.call (h : StB w gp gl glo ga go co m n c t sp a lo v L A) (hb : Below A.heap.size A A') : StB w gp gl glo ga go co m n c t sp a lo v L A' := ⟨h.s.call hb, blk_below h.q hb⟩
theorem StB.drew (h : StB w gp gl glo ga go co m n c t sp a lo v L A) : StB w gp gl glo ga go co m n c t sp a lo v L A.drew := h.call (Below.refl _ _).drew
theorem StB.put (h : StB w gp gl glo ga go co m n c t sp a lo v L A) (hg : w.heap.size ≤ go) (i x : Int) : StB w gp gl glo ga go co m n c t sp a lo v (L.set i.toNat x) (A.setCell ⟨go, i.toNat, none⟩ (.int .u64 x)) :=
  ⟨h.s.put hg i x, blk_grown h.q (Kd.R_putg h.s.r i x).2 (Kd.R_ne h.s.r h.q (by decide))⟩
theorem StB.grown {row : Option Nat} (h : StB w gp gl glo ga go co m n c t sp a lo v L A) (hg : A.grownBy A' row) (hr : ∀ r, row = some r → w.heap.size ≤ r ∧ ∃ o : Obj, A.heap[r]? = some o ∧ o.isCells = false) : StB w gp gl glo ga go co m n c t sp a lo v L A' :=
  ⟨h.s.grown hg hr, blk_grown h.q hg (fun e => by obtain ⟨_, o, ho, hc⟩ := hr _ e.symm; rw [h.q] at ho; cases ho; cases hc)⟩
theorem StB.at (h : StB w gp gl glo ga go co m n c t sp a lo v L A) :
    A.cell? ⟨gl, 0, none⟩ = some (.slice (some ⟨go, 0, none⟩) m co) ∧ A.cell? ⟨glo, 0, none⟩ = some (.int .i64 lo) ∧ A.cell? ⟨ga, 0, none⟩ = some (.int .i64 v) ∧ A.cell? ⟨gp, 2, none⟩ = some (.slice a n c) :=
  ⟨h.s.at.2.1, h.s.at.2.2.1, (blk_cell h.q 0).trans rfl, h.s.at.2.2.2.2.2⟩
end

def stF (t sp : Int) (s : ByteArray) (pre : List (Fin s.size)) : List Int := pre.foldl (fun L (k : Fin s.size) => if byteAt s k.val = 115 then L.set (3 + 2 * t + 2 + ((k.val : Nat) : Int)).toNat 4611686018427387908 else L) (stL t sp s 0)
theorem stF_snoc (t sp : Int) (s : ByteArray) (pre : List (Fin s.size)) (x : Fin s.size) : stF t sp s (pre ++ [x]) = if byteAt s x.val = 115 then (stF t sp s pre).set (3 + 2 * t + 2 + ((x.val : Nat) : Int)).toNat 4611686018427387908 else stF t sp s pre := by
  unfold stF
  rw [List.foldl_append]
  rfl
theorem stF_fin (t sp : Int) (s : ByteArray) : ∀ k, k ≤ s.size → stF t sp s (finT s k) = stL t sp s k
  | 0, _ => by unfold finT stF; rfl
  | k + 1, h => by
    rw [finT_succ s k (by omega), stF_snoc, stF_fin t sp s k (by omega)]
    rfl
theorem stF_len (t sp : Int) (s : ByteArray) (pre : List (Fin s.size)) : (stF t sp s pre).length = (3 + 2 * t + 2 * sp).toNat := by
  unfold stF
  have h0 : (stL t sp s 0).length = (3 + 2 * t + 2 * sp).toNat := by simp [stL]
  generalize stL t sp s 0 = L at h0
  induction pre generalizing L with
  | nil => exact h0
  | cons x r ih =>
    rw [List.foldl_cons]
    apply ih
    split
    · rw [List.length_set]; exact h0
    · exact h0

set_option maxRecDepth 100000 in
set_option maxHeartbeats 3200000 in
theorem start_calls (t sp : Int) (a : Option Addr) (c : Nat) (ss : List ByteArray) (hn : ss.length ≤ maxLen) (w : World) (h : SlOf w a (strV ss)) (hp : planB t sp ss = true) :
    Calls Tryd.prog 25 #[.agg #[.int .i64 t, .int .i64 sp, .slice a ss.length c]] w fun e w' => ∃ v, e = .returned (.tuple #[v, .int .i64 0]) ∧
      Kd.R (Kd.int .u64) 57 w' w.heap.size (fun _ => True) v (stL t sp (ss.getD 0 ByteArray.empty) (ss.getD 0 ByteArray.empty).size) ∧ Below w.heap.size w w' := by
  obtain ⟨b1, b2, b3, b4, hT⟩ := plan_ok hp
  obtain ⟨s, hs⟩ : ∃ s, ss.getD 0 ByteArray.empty = s := ⟨_, rfl⟩
  have hsz := fun W h => laySize_calls t sp a c ss hn W h
  rw [show placeE t sp ss 0 1 = 0 by unfold placeE; rw [if_pos hp]; rfl] at hsz
  rw [show placeV t sp ss 0 1 (3 + 2 * t + 2 * sp) = 3 + 2 * t + 2 * sp by unfold placeV placeE; rw [if_pos hp]; rfl] at hsz
  have hlo := fun W h => shSize_calls a c ss 0 hn W h
  have hT' := hT
  simp only [tableB, Bool.and_eq_true, decide_eq_true_eq, List.all_eq_true] at hT'
  obtain ⟨⟨l1, l16⟩, hall⟩ := hT'
  have hof : ofE ss 0 = 0 := by unfold ofE; rw [if_pos hT, if_pos (show (0 : Int) ≤ 0 ∧ (0 : Int) < ss.length from ⟨by omega, by omega⟩)]
  have hsn : sizeN ss 0 = 2 + s.size := by unfold sizeN; rw [if_pos hof, ← hs]; rfl
  have hshp : shapeB s = true := by
    have e : ss.getD 0 ByteArray.empty = ss[0] := by simp [List.getD_eq_getElem?_getD, List.getElem?_eq_getElem (show 0 < ss.length by omega)]
    rw [← hs, e]; exact hall _ (List.getElem_mem _)
  have hs8 : s.size ≤ 8 := shape_size hshp
  rw [hof, hsn] at hlo
  have hs0 : ∀ W, SlOf W a (strV ss) → ∃ b o, a = some ⟨b, o, none⟩ ∧ b < W.heap.size ∧ W.cell? ⟨b, o, none⟩ = some (.string s) := by
    intro W hW
    rcases hW with h0 | ⟨b, o, ha, hb, hc⟩
    · rw [strV, List.map_eq_nil_iff] at h0; rw [h0] at l1; simp at l1
    · refine ⟨b, o, ha, hb, ?_⟩
      have := hc 0 (by simp [strV]; omega)
      rw [Nat.add_zero] at this
      rw [this, ← hs]
      simp [strV, List.getD_eq_getElem?_getD, List.getElem?_eq_getElem (show 0 < ss.length by omega)]
  obtain ⟨m, hm⟩ : ∃ m : Nat, (3 + 2 * t + 2 * sp).toNat = m := ⟨_, rfl⟩
  have hmi : (m : Int) = 3 + 2 * t + 2 * sp := by omega
  obtain ⟨Lz, hLz⟩ : ∃ L : List Int, List.replicate m 0 = L := ⟨_, rfl⟩
  have hLl : Lz.length = m := by rw [← hLz]; simp
  have HZ := Lib.hid hsz
  have HO := Lib.hid hlo
  have HS := Lib.hid h
  have H0 := Lib.hid hs0
  clear hsz h hlo hs0 hall
  refine (callsIn_wide (n := 5)).1 ?_
  refine callsIn_of_wp_marks Tryd.func25 rfl trivial ?_ rfl
  simp only [Tryd.ntmps25, List.size_toArray, List.length_cons, List.length_nil, Nat.reduceAdd, Nat.reduceSub, Array.replicate_succ, Array.replicate_zero, List.push_toArray, List.append_toArray, List.nil_append, List.cons_append]
  refine wpIn_wide.2 ?_
  go_wp2_with fail
  refine (HZ.out _ (HS.out.alloc _)).mono ?_; rintro e1 w1 ⟨rfl, hb1⟩; obtain ⟨hc1, hf1⟩ := bcell hb1; have hz1 := hb1.size; (try simp at hz1)
  have P1 : w1.heap[w.heap.size]? = some (.cells #[.int .i64 t, .int .i64 sp, .slice a ss.length c] 24 (0, 0)) := blk_below (blk_new w _) hb1
  have B1 : Below w.heap.size w w1 := by (repeat (first | exact Below.refl _ _ | (with_reducible assumption) | refine Below.drew ?_ | refine Below.drewN' ?_ _ | refine Below.alloc ?_ (by first | omega | (simp; done) | (simp; omega)) _ | refine Below.setCell ?_ (by first | omega | (simp; done) | (simp; omega)) _ | refine Below.then ?_ hb9 (by first | omega | (simp; done) | (simp; omega)) | refine Below.then ?_ hb8 (by first | omega | (simp; done) | (simp; omega)) | refine Below.then ?_ hb7 (by first | omega | (simp; done) | (simp; omega)) | refine Below.then ?_ hb6 (by first | omega | (simp; done) | (simp; omega)) | refine Below.then ?_ hb5 (by first | omega | (simp; done) | (simp; omega)) | refine Below.then ?_ hb4 (by first | omega | (simp; done) | (simp; omega)) | refine Below.then ?_ hb3 (by first | omega | (simp; done) | (simp; omega)) | refine Below.then ?_ hb2 (by first | omega | (simp; done) | (simp; omega)) | refine Below.then ?_ hb1 (by first | omega | (simp; done) | (simp; omega))))
  clear hc1 hf1 hz1
  go_wp2_with (first | ((with_reducible refine gate_dst (N := 21) rfl ?_); refine Kd.R_make (Kd.int .u64) _ 57 rfl (N := 21) rfl 51 _ _ rfl (3 + 2 * t + 2 * sp) rfl rfl Tryd.underlying51 (.int .u64 0) 8 Go.Proofs.YtiodkcecpnomcaaDoorQ.Pk.info57 rfl (by decide) (by omega) 0 (ok := fun _ => True) (okp := fun _ => True) rfl (fun _ hk => hk) trivial (by omega) (by omega) (Below.refl _ _) (Nat.le_refl _) ?_; intro v2 w2 hR2 hb2 hg2 hnew2; rw [hm, hLz] at hR2; replace hR2 := Kd.R_lower hR2 B1.size; obtain ⟨go, co, eo, gb, gl, cl, HG⟩ := Kd.R_form hR2 (by omega); subst eo; rw [hLl] at hR2 ⊢; clear hnew2; have P2 := blk_below P1 hb2; have B2 : Below w.heap.size w w2 := below_step B1 hb2; have lt2 := blk_lt P2; have p2s := (blk_cell P2 2).trans rfl; clear P1 B1 hb1 hb2))
  refine (HO.out _ ((HS.out.below B2).alloc _)).mono ?_
  rintro e3 w3 ⟨rfl, hb3⟩
  have P3 := blk_below (blk_alloc P2 _) hb3
  have L3 : w3.heap[w2.heap.size]? = some (.cells #[.slice (some ⟨go, 0, none⟩) m co] 51 (0, 0)) := blk_below (blk_new _ _) hb3
  have R3 := Kd.R_below (Kd.R_alloc hR2 _) hb3
  have B3 := below_step (below_alloc B2 _) hb3
  have T4 : StA w w.heap.size w2.heap.size w3.heap.size go co m ss.length c t sp a (2 + s.size) Lz (w3.alloc (.cells #[.int .i64 (2 + s.size)] 3)) :=
    ⟨blk_alloc P3 _, blk_alloc L3 _, blk_new _ _, Kd.R_alloc R3 _, below_alloc B3 _⟩
  clear P3 L3 R3 B3 hb3 P2 B2 hR2 p2s HG
  go_wp2
  refine wp_region_noPanic ?_
  generalize hW4 : w3.alloc (.cells #[.int .i64 (2 + s.size)] 3) = W4 at *
  refine wp_region_held_drew (S := fun A => A.cell? ⟨w2.heap.size, 0, none⟩ = some (.slice (some ⟨go, 0, none⟩) m co) ∧ A.cell? ⟨w3.heap.size, 0, none⟩ = some (.int .i64 (2 + s.size)) ∧ A.cell? ⟨w.heap.size, 0, none⟩ = some (.int .i64 t) ∧ A.cell? ⟨w.heap.size, 1, none⟩ = some (.int .i64 sp) ∧ A.cell? ⟨w.heap.size, 2, none⟩ = some (.slice a ss.length c)) (by kernel_rfl) ?hS0 (fun hHeld => ?_)
  case hS0 => exact T4.drew.at.2
  (refine wpAnyH_take (i := 0) (oi := ?oiz0) (v := ?vz0) ?hiz0 ?hsz0 ?hfz0 ?hrz0 ?hQz0 ?hyz0 ?hSz0 ?hz0)
  (case hiz0 => rfl)
  (case hsz0 => kernel_rfl)
  (case hfz0 => kernel_rfl)
  (case hrz0 => kernel_rfl)
  (case hQz0 => first | exact fun _ _ _ h => h | exact fun _ _ _ h => (nomatch h.1))
  (case hSz0 => assumption)
  (case hyz0 => (refine Or.inl ⟨by rfl, ?_⟩; intro W hW; (try dsimp only at hW); go_simp; try with_reducible rfl))
  (try simp only [List.getElem_toArray, List.getElem_cons_succ, List.getElem_cons_zero, Act.put, List.setIfInBounds_toArray, List.set_cons_zero, List.set_cons_succ])
  (refine wpAnyH_take (i := 1) (oi := ?oiz1) (v := ?vz1) ?hiz1 ?hsz1 ?hfz1 ?hrz1 ?hQz1 ?hyz1 ?hSz1 ?hz1)
  (case hiz1 => rfl)
  (case hsz1 => kernel_rfl)
  (case hfz1 => kernel_rfl)
  (case hrz1 => kernel_rfl)
  (case hQz1 => first | exact fun _ _ _ h => h | exact fun _ _ _ h => (nomatch h.1))
  (case hSz1 => assumption)
  (case hyz1 => (refine Or.inl ⟨by rfl, ?_⟩; intro W hW; (try dsimp only at hW); go_simp; try with_reducible rfl))
  (try simp only [List.getElem_toArray, List.getElem_cons_succ, List.getElem_cons_zero, Act.put, List.setIfInBounds_toArray, List.set_cons_zero, List.set_cons_succ])
  (refine wpAnyH_take (i := 2) (oi := ?oiz2) (v := ?vz2) ?hiz2 ?hsz2 ?hfz2 ?hrz2 ?hQz2 ?hyz2 ?hSz2 ?hz2)
  (case hiz2 => rfl)
  (case hsz2 => kernel_rfl)
  (case hfz2 => kernel_rfl)
  (case hrz2 => kernel_rfl)
  (case hQz2 => first | exact fun _ _ _ h => h | exact fun _ _ _ h => (nomatch h.1))
  (case hSz2 => assumption)
  (case hyz2 => (refine Or.inl ⟨by rfl, ?_⟩; intro W hW; (try dsimp only at hW); go_simp; try with_reducible rfl))
  (try simp only [List.getElem_toArray, List.getElem_cons_succ, List.getElem_cons_zero, Act.put, List.setIfInBounds_toArray, List.set_cons_zero, List.set_cons_succ])
  (refine wpAnyH_take (i := 3) (oi := ?oiz3) (v := ?vz3) ?hiz3 ?hsz3 ?hfz3 ?hrz3 ?hQz3 ?hyz3 ?hSz3 ?hz3)
  (case hiz3 => rfl)
  (case hsz3 => kernel_rfl)
  (case hfz3 => kernel_rfl)
  (case hrz3 => kernel_rfl)
  (case hQz3 => first | exact fun _ _ _ h => h | exact fun _ _ _ h => (nomatch h.1))
  (case hSz3 => assumption)
  (case hyz3 => (refine Or.inl ⟨by rfl, ?_⟩; intro W hW; (try dsimp only at hW); go_simp; try with_reducible rfl))
  (try simp only [List.getElem_toArray, List.getElem_cons_succ, List.getElem_cons_zero, Act.put, List.setIfInBounds_toArray, List.set_cons_zero, List.set_cons_succ])
  (refine wpAnyH_take (i := 4) (oi := ?oiz4) (v := ?vz4) ?hiz4 ?hsz4 ?hfz4 ?hrz4 ?hQz4 ?hyz4 ?hSz4 ?hz4)
  (case hiz4 => rfl)
  (case hsz4 => kernel_rfl)
  (case hfz4 => kernel_rfl)
  (case hrz4 => kernel_rfl)
  (case hQz4 => first | exact fun _ _ _ h => h | exact fun _ _ _ h => (nomatch h.1))
  (case hSz4 => assumption)
  (case hyz4 => (refine Or.inl ⟨by rfl, ?_⟩; intro W hW; (try dsimp only at hW); go_simp; try with_reducible rfl))
  (try simp only [List.getElem_toArray, List.getElem_cons_succ, List.getElem_cons_zero, Act.put, List.setIfInBounds_toArray, List.set_cons_zero, List.set_cons_succ])
  refine wpAnyH_ready (rs := [5]) (by kernel_rfl) (by simp) ?_
  refine AllReadyH.cons rfl (fun K hK => ?_) (AllReadyH.nil)
  go_simp
  refine (packFront_calls (2 + s.size) sp (by omega) (by omega) (by omega) _).mono ?_
  rintro e5 w5 ⟨rfl, hb5⟩
  have T5 := T4.drew.call hb5
  obtain ⟨zc5, zf5⟩ := Kd.R_celln 0 T5.r 1 (by omega) (by omega)
  rw [show ((1 : Int)).toNat = 1 from rfl] at zc5 zf5
  have q5 : 1 < 3 + 2 * t + 2 * sp := by omega
  refine hK.out _ _ ?_ (fun hHeld => ?_)
  · exact T5.at.2
  clear hK K
  (try simp only [List.getElem_toArray, List.getElem_cons_succ, List.getElem_cons_zero, Act.put, List.setIfInBounds_toArray, List.set_cons_zero, List.set_cons_succ])
  (refine wpAnyH_take (i := 6) (oi := ?oiz6) (v := ?vz6) ?hiz6 ?hsz6 ?hfz6 ?hrz6 ?hQz6 ?hyz6 ?hSz6 ?hz6)
  (case hiz6 => rfl)
  (case hsz6 => kernel_rfl)
  (case hfz6 => kernel_rfl)
  (case hrz6 => kernel_rfl)
  (case hQz6 => first | exact fun _ _ _ h => h | exact fun _ _ _ h => (nomatch h.1))
  (case hSz6 => assumption)
  (case hyz6 => (refine Or.inl ⟨by rfl, ?_⟩; intro W hW; (try dsimp only at hW); go_simp; try with_reducible rfl))
  (try simp only [List.getElem_toArray, List.getElem_cons_succ, List.getElem_cons_zero, Act.put, List.setIfInBounds_toArray, List.set_cons_zero, List.set_cons_succ])
  (refine wpAnyH_take (i := 7) (oi := ?oiz7) (v := ?vz7) ?hiz7 ?hsz7 ?hfz7 ?hrz7 ?hQz7 ?hyz7 ?hSz7 ?hz7)
  (case hiz7 => rfl)
  (case hsz7 => kernel_rfl)
  (case hfz7 => kernel_rfl)
  (case hrz7 => kernel_rfl)
  (case hQz7 => first | exact fun _ _ _ h => h | exact fun _ _ _ h => (nomatch h.1))
  (case hSz7 => assumption)
  (case hyz7 => (refine Or.inl ⟨by rfl, ?_⟩; intro W hW; (try dsimp only at hW); go_simp; try with_reducible rfl))
  (try simp only [List.getElem_toArray, List.getElem_cons_succ, List.getElem_cons_zero, Act.put, List.setIfInBounds_toArray, List.set_cons_zero, List.set_cons_succ])
  (refine wpAnyH_take (i := 8) (oi := ?oiz8) (v := ?vz8) ?hiz8 ?hsz8 ?hfz8 ?hrz8 ?hQz8 ?hyz8 ?hSz8 ?hz8)
  (case hiz8 => rfl)
  (case hsz8 => kernel_rfl)
  (case hfz8 => kernel_rfl)
  (case hrz8 => kernel_rfl)
  (case hQz8 => first | exact fun _ _ _ h => h | exact fun _ _ _ h => (nomatch h.1))
  (case hSz8 => assumption)
  (case hyz8 => (refine Or.inl ⟨by rfl, ?_⟩; intro W hW; (try dsimp only at hW); go_simp; try with_reducible rfl))
  (try simp only [List.getElem_toArray, List.getElem_cons_succ, List.getElem_cons_zero, Act.put, List.setIfInBounds_toArray, List.set_cons_zero, List.set_cons_succ])
  (refine wpAnyH_take (i := 9) (oi := ?oiz9) (v := ?vz9) ?hiz9 ?hsz9 ?hfz9 ?hrz9 ?hQz9 ?hyz9 ?hSz9 ?hz9)
  (case hiz9 => rfl)
  (case hsz9 => kernel_rfl)
  (case hfz9 => kernel_rfl)
  (case hrz9 => kernel_rfl)
  (case hQz9 => first | exact fun _ _ _ h => h | exact fun _ _ _ h => (nomatch h.1))
  (case hSz9 => assumption)
  (case hyz9 => (refine Or.inl ⟨by rfl, ?_⟩; intro W hW; (try dsimp only at hW); go_simp; try with_reducible rfl))
  (try simp only [List.getElem_toArray, List.getElem_cons_succ, List.getElem_cons_zero, Act.put, List.setIfInBounds_toArray, List.set_cons_zero, List.set_cons_succ])
  refine wpAnyH_ready (rs := [10]) (by kernel_rfl) (by simp) ?_
  refine AllReadyH.cons rfl (fun K hK => ?_) (AllReadyH.nil)
  go_simp
  refine hK.out _ _ ?_ (fun hHeld => ?_)
  · exact (T5.put (by omega) 1 _).at.2
  clear hK K
  (try simp only [List.getElem_toArray, List.getElem_cons_succ, List.getElem_cons_zero, Act.put, List.setIfInBounds_toArray, List.set_cons_zero, List.set_cons_succ])
  refine wpAnyH_done (by kernel_rfl) ?_ _
  refine NoPanic.normal ?_
  have T6 := T5.put gb 1 (frontV (2 + s.size) sp)
  rw [show ((1 : Int)).toNat = 1 from rfl] at T6
  generalize hW6 : w5.setCell ⟨go, 1, none⟩ (.int .u64 (frontV (2 + s.size) sp)) = W6 at *
  obtain ⟨-, -, -, r0, r1, r2⟩ := T6.at
  clear T5 T4 hW4 hb5 zc5 zf5
  have T8 : StB w w.heap.size w2.heap.size w3.heap.size (W6.heap.size + 1) go co m ss.length c t sp a (2 + s.size) (3 + 2 * t) (Lz.set 1 (frontV (2 + s.size) sp)) ((W6.alloc (.cells #[.int .i64 t, .int .i64 sp, .slice a ss.length c] 61)).alloc (.cells #[.int .i64 (3 + 2 * t)] 3)) :=
    ⟨(T6.alloc _).alloc _, by have := blk_new (W6.alloc (.cells #[.int .i64 t, .int .i64 sp, .slice a ss.length c] 61)) (.cells #[.int .i64 (3 + 2 * t)] 3); rwa [World.size_alloc] at this⟩
  clear T6
  go_wp2_with (first | (go_at_call 32; go_in))
  obtain ⟨ga, hga⟩ : ∃ g, W6.heap.size + 1 = g := ⟨_, rfl⟩
  rw [hga] at T8 ⊢
  generalize hW8 : (W6.alloc (.cells #[.int .i64 t, .int .i64 sp, .slice a ss.length c] 61)).alloc (.cells #[.int .i64 (3 + 2 * t)] 3) = W8 at *
  clear r0 r1 r2
  refine wp_region_noPanic ?_
  refine wp_region_held_drew (S := fun A => A.cell? ⟨w2.heap.size, 0, none⟩ = some (.slice (some ⟨go, 0, none⟩) m co) ∧ A.cell? ⟨w3.heap.size, 0, none⟩ = some (.int .i64 (2 + s.size)) ∧ A.cell? ⟨ga, 0, none⟩ = some (.int .i64 (3 + 2 * t)) ∧ A.cell? ⟨w.heap.size, 2, none⟩ = some (.slice a ss.length c)) (by kernel_rfl) ?hS1 (fun hHeld => ?_)
  case hS1 => exact T8.drew.at
  (refine wpAnyH_take (i := 0) (oi := ?oiy0) (v := ?vy0) ?hiy0 ?hsy0 ?hfy0 ?hry0 ?hQy0 ?hyy0 ?hSy0 ?hy0)
  (case hiy0 => rfl)
  (case hsy0 => kernel_rfl)
  (case hfy0 => kernel_rfl)
  (case hry0 => kernel_rfl)
  (case hQy0 => first | exact fun _ _ _ h => h | exact fun _ _ _ h => (nomatch h.1))
  (case hSy0 => assumption)
  (case hyy0 => (refine Or.inl ⟨by rfl, ?_⟩; intro W hW; skip; go_simp; try with_reducible rfl))
  (try simp only [List.getElem_toArray, List.getElem_cons_succ, List.getElem_cons_zero, Act.put, List.setIfInBounds_toArray, List.set_cons_zero, List.set_cons_succ])
  (refine wpAnyH_take (i := 1) (oi := ?oiy1) (v := ?vy1) ?hiy1 ?hsy1 ?hfy1 ?hry1 ?hQy1 ?hyy1 ?hSy1 ?hy1)
  (case hiy1 => rfl)
  (case hsy1 => kernel_rfl)
  (case hfy1 => kernel_rfl)
  (case hry1 => kernel_rfl)
  (case hQy1 => first | exact fun _ _ _ h => h | exact fun _ _ _ h => (nomatch h.1))
  (case hSy1 => assumption)
  (case hyy1 => (refine Or.inl ⟨by rfl, ?_⟩; intro W hW; skip; go_simp; try with_reducible rfl))
  (try simp only [List.getElem_toArray, List.getElem_cons_succ, List.getElem_cons_zero, Act.put, List.setIfInBounds_toArray, List.set_cons_zero, List.set_cons_succ])
  (refine wpAnyH_take (i := 2) (oi := ?oiy2) (v := ?vy2) ?hiy2 ?hsy2 ?hfy2 ?hry2 ?hQy2 ?hyy2 ?hSy2 ?hy2)
  (case hiy2 => rfl)
  (case hsy2 => kernel_rfl)
  (case hfy2 => kernel_rfl)
  (case hry2 => kernel_rfl)
  (case hQy2 => first | exact fun _ _ _ h => h | exact fun _ _ _ h => (nomatch h.1))
  (case hSy2 => assumption)
  (case hyy2 => (refine Or.inl ⟨by rfl, ?_⟩; intro W hW; skip; go_simp; try with_reducible rfl))
  (try simp only [List.getElem_toArray, List.getElem_cons_succ, List.getElem_cons_zero, Act.put, List.setIfInBounds_toArray, List.set_cons_zero, List.set_cons_succ])
  refine wpAnyH_ready (rs := [3]) (by kernel_rfl) (by simp) ?_
  refine AllReadyH.cons rfl (fun K hK => ?_) (AllReadyH.nil)
  go_simp
  refine (head0_calls _).mono ?_
  rintro e9 w9 ⟨rfl, hb9⟩
  have T9 := T8.drew.call hb9
  have hl9 : (Lz.set 1 (frontV (2 + s.size) sp)).length = m := by rw [List.length_set]; exact hLl
  obtain ⟨zc9, zf9⟩ := Kd.R_celln 0 T9.s.r (3 + 2 * t) (by omega) (by omega)
  have q9 : 3 + 2 * t < 3 + 2 * t + 2 * sp := by omega
  have q9' : 0 ≤ 3 + 2 * t := by omega
  refine hK.out _ _ ?_ (fun hHeld => ?_)
  · exact T9.at
  clear hK K
  (try simp only [List.getElem_toArray, List.getElem_cons_succ, List.getElem_cons_zero, Act.put, List.setIfInBounds_toArray, List.set_cons_zero, List.set_cons_succ])
  (refine wpAnyH_take (i := 4) (oi := ?oiy4) (v := ?vy4) ?hiy4 ?hsy4 ?hfy4 ?hry4 ?hQy4 ?hyy4 ?hSy4 ?hy4)
  (case hiy4 => rfl)
  (case hsy4 => kernel_rfl)
  (case hfy4 => kernel_rfl)
  (case hry4 => kernel_rfl)
  (case hQy4 => first | exact fun _ _ _ h => h | exact fun _ _ _ h => (nomatch h.1))
  (case hSy4 => assumption)
  (case hyy4 => (refine Or.inl ⟨by rfl, ?_⟩; intro W hW; skip; go_simp; try with_reducible rfl))
  (try simp only [List.getElem_toArray, List.getElem_cons_succ, List.getElem_cons_zero, Act.put, List.setIfInBounds_toArray, List.set_cons_zero, List.set_cons_succ])
  (refine wpAnyH_take (i := 5) (oi := ?oiy5) (v := ?vy5) ?hiy5 ?hsy5 ?hfy5 ?hry5 ?hQy5 ?hyy5 ?hSy5 ?hy5)
  (case hiy5 => rfl)
  (case hsy5 => kernel_rfl)
  (case hfy5 => kernel_rfl)
  (case hry5 => kernel_rfl)
  (case hQy5 => first | exact fun _ _ _ h => h | exact fun _ _ _ h => (nomatch h.1))
  (case hSy5 => assumption)
  (case hyy5 => (refine Or.inl ⟨by rfl, ?_⟩; intro W hW; skip; go_simp; try with_reducible rfl))
  (try simp only [List.getElem_toArray, List.getElem_cons_succ, List.getElem_cons_zero, Act.put, List.setIfInBounds_toArray, List.set_cons_zero, List.set_cons_succ])
  (refine wpAnyH_take (i := 6) (oi := ?oiy6) (v := ?vy6) ?hiy6 ?hsy6 ?hfy6 ?hry6 ?hQy6 ?hyy6 ?hSy6 ?hy6)
  (case hiy6 => rfl)
  (case hsy6 => kernel_rfl)
  (case hfy6 => kernel_rfl)
  (case hry6 => kernel_rfl)
  (case hQy6 => first | exact fun _ _ _ h => h | exact fun _ _ _ h => (nomatch h.1))
  (case hSy6 => assumption)
  (case hyy6 => (refine Or.inl ⟨by rfl, ?_⟩; intro W hW; skip; go_simp; try with_reducible rfl))
  (try simp only [List.getElem_toArray, List.getElem_cons_succ, List.getElem_cons_zero, Act.put, List.setIfInBounds_toArray, List.set_cons_zero, List.set_cons_succ])
  (refine wpAnyH_take (i := 7) (oi := ?oiy7) (v := ?vy7) ?hiy7 ?hsy7 ?hfy7 ?hry7 ?hQy7 ?hyy7 ?hSy7 ?hy7)
  (case hiy7 => rfl)
  (case hsy7 => kernel_rfl)
  (case hfy7 => kernel_rfl)
  (case hry7 => kernel_rfl)
  (case hQy7 => first | exact fun _ _ _ h => h | exact fun _ _ _ h => (nomatch h.1))
  (case hSy7 => assumption)
  (case hyy7 => (refine Or.inl ⟨by rfl, ?_⟩; intro W hW; skip; go_simp; try with_reducible rfl))
  (try simp only [List.getElem_toArray, List.getElem_cons_succ, List.getElem_cons_zero, Act.put, List.setIfInBounds_toArray, List.set_cons_zero, List.set_cons_succ])
  refine wpAnyH_ready (rs := [8]) (by kernel_rfl) (by simp) ?_
  refine AllReadyH.cons rfl (fun K hK => ?_) (AllReadyH.nil)
  go_simp
  refine hK.out _ _ ?_ (fun hHeld => ?_)
  · exact (T9.put gb (3 + 2 * t) _).at
  clear hK K
  (try simp only [List.getElem_toArray, List.getElem_cons_succ, List.getElem_cons_zero, Act.put, List.setIfInBounds_toArray, List.set_cons_zero, List.set_cons_succ])
  refine wpAnyH_done (by kernel_rfl) ?_ _
  refine NoPanic.normal ?_
  have T10 := T9.put gb (3 + 2 * t) 6
  generalize hW10 : w9.setCell ⟨go, (3 + 2 * t).toNat, none⟩ (.int .u64 6) = W10 at *
  obtain ⟨-, -, -, p10⟩ := T10.at
  obtain ⟨sb, so, rfl, hsb, hsc⟩ := H0.out _ (HS.out.below T10.s.b)
  have hstL : (Lz.set 1 (frontV (2 + s.size) sp)).set (3 + 2 * t).toNat 6 = stL t sp s 0 := by rw [← hLz, ← hm]; rfl
  rw [hstL] at T10
  clear T9 T8 hW8 hW10 hb9 zc9 zf9 hl9 hstL
  have l0 : 0 < ss.length := by omega
  have hstr : ∀ A, Below w.heap.size w A → A.cell? ⟨sb, so, none⟩ = some (.string s) := by
    intro A hA
    obtain ⟨b, o, e, _, hc⟩ := H0.out A (HS.out.below hA)
    cases e
    exact hc
  have HSt := Lib.hid hstr
  clear hstr
  go_wp2_with fail
  refine (all_calls s _).mono ?_
  rintro e11 w11 ⟨rfl, rfl⟩
  go_wp2
  have hbx : (W10.alloc (.cells #[.string s] 58)).cell? ⟨W10.heap.size, 0, none⟩ = some (.string s) := by simp
  have hB10 := T10.s.b
  have T11 : StB w w.heap.size w2.heap.size w3.heap.size ga go co m ss.length c t sp (some ⟨sb, so, none⟩) (2 + s.size) (3 + 2 * t) (stF t sp s []) (W10.alloc (.cells #[.string s] 58)) := T10.call (below_alloc (Below.refl _ _) _)
  have HT := Lib.hid T11
  have hz10 := hB10.size
  clear T10 T11 hB10
  refine (wpIn_wide (n := 5)).1 ?_
  refine wpIn_rangeFunc_ownF rfl (by omega) (gf := 62) (lb := #[.pointer (some ⟨W10.heap.size, 0, none⟩)]) rfl trivial (enters_of Tryd.func62 (by kernel_rfl) rfl)
    (seqStopsA_iff.1 (all_stopsF 4 (by omega) s hshp W10.heap.size _ (by simp) hbx)) walksK_t walksK_b (Below.refl _ _) (fun _ => rfl)
    (fun pre W => StB w w.heap.size w2.heap.size w3.heap.size ga go co m ss.length c t sp (some ⟨sb, so, none⟩) (2 + s.size) (3 + 2 * t) (stF t sp s pre) W)
    (fun _ _ _ => False) ?hI (fun _ _ _ _ _ hs _ _ => hs) HT.out
    (fun (x : Fin s.size) => { tmps := #[Value.agg #[Value.int IntKind.i64 t, Value.int IntKind.i64 sp, Value.slice (some { block := sb, off := so }) ss.length c], Value.pointer (some { block := w.heap.size, off := 0 }), Value.slice none 0 0, Value.int IntKind.i64 0, Value.int IntKind.i64 (3 + 2 * t + 2 * sp), Value.int IntKind.i64 0, Value.pointer (some { block := w2.heap.size, off := 0 }), Value.pointer (some { block := w3.heap.size, off := 0 }), Value.int IntKind.i64 0, Value.pointer (some { block := ga, off := 0 }), Value.int IntKind.i64 ((x.val : Nat) : Int), Value.int IntKind.i64 (letterK (byteAt s x)), Value.tuple #[Value.int IntKind.i64 (3 + 2 * t + 2 * sp), Value.int IntKind.i64 0], Value.agg #[Value.int IntKind.i64 t, Value.int IntKind.i64 sp, Value.slice (some { block := sb, off := so }) ss.length c], Value.tuple #[Value.int IntKind.i64 (3 + 2 * t + 2 * sp), Value.int IntKind.i64 0], Value.int IntKind.i64 (3 + 2 * t + 2 * sp), Value.int IntKind.i64 0, Value.int IntKind.i64 0, Value.bool false, undef, Value.int IntKind.i64 (3 + 2 * t + 2 * sp), Value.slice (some { block := go, off := 0 }) m co, Value.tuple #[Value.int IntKind.i64 (2 + ↑s.size), Value.int IntKind.i64 0], Value.pointer (some { block := w.heap.size, off := 2 }), Value.slice (some { block := sb, off := so }) ss.length c, Value.tuple #[Value.int IntKind.i64 (2 + ↑s.size), Value.int IntKind.i64 0], Value.int IntKind.i64 (2 + ↑s.size), Value.int IntKind.i64 0, Value.tuple #[Value.int IntKind.u64 (frontV (2 + ↑s.size) sp), Value.int IntKind.i64 0], Value.slice (some { block := go, off := 0 }) m co, Value.int IntKind.i64 (2 + ↑s.size), Value.pointer (some { block := w.heap.size, off := 1 }), Value.int IntKind.i64 sp, Value.agg #[Value.int IntKind.i64 0, Value.int IntKind.i64 (2 + ↑s.size), Value.int IntKind.i64 sp, Value.int IntKind.i64 0], Value.tuple #[Value.int IntKind.u64 (frontV (2 + ↑s.size) sp), Value.int IntKind.i64 0], Value.int IntKind.u64 (frontV (2 + ↑s.size) sp), Value.int IntKind.i64 0, Value.pointer (some { block := go, off := 1 }), Value.agg #[Value.int IntKind.i64 t, Value.int IntKind.i64 sp, Value.slice (some { block := sb, off := so }) ss.length c], Value.agg #[Value.int IntKind.i64 t, Value.int IntKind.i64 sp, Value.slice (some { block := sb, off := so }) ss.length c], Value.int IntKind.i64 (3 + 2 * t), Value.tuple #[Value.int IntKind.u64 6, Value.int IntKind.i64 0], Value.slice (some { block := go, off := 0 }) m co, Value.int IntKind.i64 (3 + 2 * t), Value.agg #[Value.int IntKind.i64 0, Value.int IntKind.i64 0], Value.tuple #[Value.int IntKind.u64 6, Value.int IntKind.i64 0], Value.int IntKind.u64 6, Value.int IntKind.i64 0, Value.pointer (some { block := go, off := (3 + 2 * t).toNat }), Value.pointer (some { block := w.heap.size, off := 2 }), Value.slice (some { block := sb, off := so }) ss.length c, Value.pointer (some { block := sb, off := so }), Value.string s, Value.func (Fn.func 62) #[] #[Value.pointer (some { block := W10.heap.size, off := 0 })], Value.int IntKind.i64 ((x.val : Nat) : Int), Value.int IntKind.i64 (letterK (byteAt s x)), undef, undef, undef, undef, undef, undef, undef, undef, undef, undef, undef, undef, undef, undef, undef, undef, undef, undef, undef, undef], defers := [] }) ?assign ?body ?done ?stop
  case hI =>
    intro pre A A' row hA hg hr
    exact hA.grown hg (fun r e => ⟨by have := (hr r e).1; rw [World.size_alloc] at this; omega, (hr r e).2⟩)
  case assign =>
    intro l x W K hK
    gi_wp2
    have e : (#[54, 55] : Array Tmp).zip (encF s x) = #[(54, .int .i64 ((x.val : Nat) : Int)), (55, .int .i64 (letterK (byteAt s x)))] := by unfold encF fieldEnc; first | (simp [fieldAt]; done) | kernel_rfl
    rw [e]
    exact hK
  case body =>
    intro l pre x W hI hlt
    have hl : (stF t sp s pre).length = m := by rw [stF_len]; exact hm
    have hx : ((x.val : Nat) : Int) < s.size := by have := x.isLt; omega
    have hx0 : 0 ≤ ((x.val : Nat) : Int) := by omega
    have T := Lib.hid hI
    clear hI
    generalize hxv : ((x.val : Nat) : Int) = xi at hx hx0 ⊢
    by_cases h115 : byteAt s x.val = 115
    · have hk : letterK (byteAt s x.val) = 1 := by unfold letterK; rw [if_pos h115]
      have hw1 : IntKind.i64.wrap (3 + 2 * t + (2 + (s.size : Int))) = 3 + 2 * t + (2 + (s.size : Int)) := IntWalk.i64_in _ (by omega)
      have hw2 : IntKind.i64.wrap (3 + 2 * t + (2 + (s.size : Int)) - (s.size : Int)) = 3 + 2 * t + 2 := (IntWalk.i64_in _ (by omega)).trans (by omega)
      have hw3 : IntKind.i64.wrap (3 + 2 * t + 2 + xi) = 3 + 2 * t + 2 + xi := IntWalk.i64_in _ (by omega)
      rw [hk]
      gi_wp2
      refine wpIn_region_round (S := fun A => A.cell? ⟨w2.heap.size, 0, none⟩ = some (.slice (some ⟨go, 0, none⟩) m co) ∧ A.cell? ⟨w3.heap.size, 0, none⟩ = some (.int .i64 (2 + s.size)) ∧ A.cell? ⟨ga, 0, none⟩ = some (.int .i64 (3 + 2 * t)) ∧ A.cell? ⟨w.heap.size, 2, none⟩ = some (.slice (some ⟨sb, so, none⟩) ss.length c) ∧ A.cell? ⟨sb, so, none⟩ = some (.string s)) (by kernel_rfl) (noDefer_ops (by kernel_rfl)) ?hQ ?hSr (fun hHeld => ?_)
      case hQ =>
        rintro ⟨_, _, h⟩
        exact h
      case hSr =>
        obtain ⟨r0, r1, r2, r3⟩ := T.out.drew.at
        exact ⟨r0, r1, r2, r3, HSt.out _ T.out.drew.s.b⟩
      (refine wpAnyH_take (i := 0) (oi := ?oiw0) (v := ?vw0) ?hiw0 ?hsw0 ?hfw0 ?hrw0 ?hQw0 ?hyw0 ?hSw0 ?hw0)
      (case hiw0 => rfl)
      (case hsw0 => kernel_rfl)
      (case hfw0 => kernel_rfl)
      (case hrw0 => kernel_rfl)
      (case hQw0 => first | exact fun _ _ _ h => h | exact fun _ _ _ h => (nomatch h.1))
      (case hSw0 => assumption)
      (case hyw0 => (refine Or.inl ⟨by rfl, ?_⟩; intro W hW; skip; go_simp; try with_reducible rfl))
      (try simp only [List.getElem_toArray, List.getElem_cons_succ, List.getElem_cons_zero, Act.put, List.setIfInBounds_toArray, List.set_cons_zero, List.set_cons_succ])
      (refine wpAnyH_take (i := 1) (oi := ?oiw1) (v := ?vw1) ?hiw1 ?hsw1 ?hfw1 ?hrw1 ?hQw1 ?hyw1 ?hSw1 ?hw1)
      (case hiw1 => rfl)
      (case hsw1 => kernel_rfl)
      (case hfw1 => kernel_rfl)
      (case hrw1 => kernel_rfl)
      (case hQw1 => first | exact fun _ _ _ h => h | exact fun _ _ _ h => (nomatch h.1))
      (case hSw1 => assumption)
      (case hyw1 => (refine Or.inl ⟨by rfl, ?_⟩; intro W hW; skip; go_simp; try with_reducible rfl))
      (try simp only [List.getElem_toArray, List.getElem_cons_succ, List.getElem_cons_zero, Act.put, List.setIfInBounds_toArray, List.set_cons_zero, List.set_cons_succ])
      (refine wpAnyH_take (i := 2) (oi := ?oiw2) (v := ?vw2) ?hiw2 ?hsw2 ?hfw2 ?hrw2 ?hQw2 ?hyw2 ?hSw2 ?hw2)
      (case hiw2 => rfl)
      (case hsw2 => kernel_rfl)
      (case hfw2 => kernel_rfl)
      (case hrw2 => kernel_rfl)
      (case hQw2 => first | exact fun _ _ _ h => h | exact fun _ _ _ h => (nomatch h.1))
      (case hSw2 => assumption)
      (case hyw2 => (refine Or.inl ⟨by rfl, ?_⟩; intro W hW; skip; go_simp; try with_reducible rfl))
      (try simp only [List.getElem_toArray, List.getElem_cons_succ, List.getElem_cons_zero, Act.put, List.setIfInBounds_toArray, List.set_cons_zero, List.set_cons_succ])
      (refine wpAnyH_take (i := 3) (oi := ?oiw3) (v := ?vw3) ?hiw3 ?hsw3 ?hfw3 ?hrw3 ?hQw3 ?hyw3 ?hSw3 ?hw3)
      (case hiw3 => rfl)
      (case hsw3 => kernel_rfl)
      (case hfw3 => kernel_rfl)
      (case hrw3 => kernel_rfl)
      (case hQw3 => first | exact fun _ _ _ h => h | exact fun _ _ _ h => (nomatch h.1))
      (case hSw3 => assumption)
      (case hyw3 => (refine Or.inl ⟨by rfl, ?_⟩; intro W hW; skip; go_simp; try with_reducible rfl))
      (try simp only [List.getElem_toArray, List.getElem_cons_succ, List.getElem_cons_zero, Act.put, List.setIfInBounds_toArray, List.set_cons_zero, List.set_cons_succ])
      (refine wpAnyH_take (i := 4) (oi := ?oiw4) (v := ?vw4) ?hiw4 ?hsw4 ?hfw4 ?hrw4 ?hQw4 ?hyw4 ?hSw4 ?hw4)
      (case hiw4 => rfl)
      (case hsw4 => kernel_rfl)
      (case hfw4 => kernel_rfl)
      (case hrw4 => kernel_rfl)
      (case hQw4 => first | exact fun _ _ _ h => h | exact fun _ _ _ h => (nomatch h.1))
      (case hSw4 => assumption)
      (case hyw4 => (refine Or.inl ⟨by rfl, ?_⟩; intro W hW; skip; go_simp; try with_reducible rfl))
      (try simp only [List.getElem_toArray, List.getElem_cons_succ, List.getElem_cons_zero, Act.put, List.setIfInBounds_toArray, List.set_cons_zero, List.set_cons_succ])
      (refine wpAnyH_take (i := 5) (oi := ?oiw5) (v := ?vw5) ?hiw5 ?hsw5 ?hfw5 ?hrw5 ?hQw5 ?hyw5 ?hSw5 ?hw5)
      (case hiw5 => rfl)
      (case hsw5 => kernel_rfl)
      (case hfw5 => kernel_rfl)
      (case hrw5 => kernel_rfl)
      (case hQw5 => first | exact fun _ _ _ h => h | exact fun _ _ _ h => (nomatch h.1))
      (case hSw5 => assumption)
      (case hyw5 => (refine Or.inl ⟨by rfl, ?_⟩; intro W hW; skip; go_simp; try with_reducible rfl))
      (try simp only [List.getElem_toArray, List.getElem_cons_succ, List.getElem_cons_zero, Act.put, List.setIfInBounds_toArray, List.set_cons_zero, List.set_cons_succ])
      (refine wpAnyH_take (i := 6) (oi := ?oiw6) (v := ?vw6) ?hiw6 ?hsw6 ?hfw6 ?hrw6 ?hQw6 ?hyw6 ?hSw6 ?hw6)
      (case hiw6 => rfl)
      (case hsw6 => kernel_rfl)
      (case hfw6 => kernel_rfl)
      (case hrw6 => kernel_rfl)
      (case hQw6 => first | exact fun _ _ _ h => h | exact fun _ _ _ h => (nomatch h.1))
      (case hSw6 => assumption)
      (case hyw6 => (refine Or.inl ⟨by rfl, ?_⟩; intro W hW; skip; go_simp; try with_reducible rfl))
      (try simp only [List.getElem_toArray, List.getElem_cons_succ, List.getElem_cons_zero, Act.put, List.setIfInBounds_toArray, List.set_cons_zero, List.set_cons_succ])
      (refine wpAnyH_take (i := 7) (oi := ?oiw7) (v := ?vw7) ?hiw7 ?hsw7 ?hfw7 ?hrw7 ?hQw7 ?hyw7 ?hSw7 ?hw7)
      (case hiw7 => rfl)
      (case hsw7 => kernel_rfl)
      (case hfw7 => kernel_rfl)
      (case hrw7 => kernel_rfl)
      (case hQw7 => first | exact fun _ _ _ h => h | exact fun _ _ _ h => (nomatch h.1))
      (case hSw7 => assumption)
      (case hyw7 => (refine Or.inl ⟨by rfl, ?_⟩; intro W hW; skip; go_simp; try with_reducible rfl))
      (try simp only [List.getElem_toArray, List.getElem_cons_succ, List.getElem_cons_zero, Act.put, List.setIfInBounds_toArray, List.set_cons_zero, List.set_cons_succ])
      (refine wpAnyH_take (i := 8) (oi := ?oiw8) (v := ?vw8) ?hiw8 ?hsw8 ?hfw8 ?hrw8 ?hQw8 ?hyw8 ?hSw8 ?hw8)
      (case hiw8 => rfl)
      (case hsw8 => kernel_rfl)
      (case hfw8 => kernel_rfl)
      (case hrw8 => kernel_rfl)
      (case hQw8 => first | exact fun _ _ _ h => h | exact fun _ _ _ h => (nomatch h.1))
      (case hSw8 => assumption)
      (case hyw8 => (refine Or.inl ⟨by rfl, ?_⟩; intro W hW; skip; go_simp; try with_reducible rfl))
      (try simp only [List.getElem_toArray, List.getElem_cons_succ, List.getElem_cons_zero, Act.put, List.setIfInBounds_toArray, List.set_cons_zero, List.set_cons_succ])
      (refine wpAnyH_take (i := 9) (oi := ?oiw9) (v := ?vw9) ?hiw9 ?hsw9 ?hfw9 ?hrw9 ?hQw9 ?hyw9 ?hSw9 ?hw9)
      (case hiw9 => rfl)
      (case hsw9 => kernel_rfl)
      (case hfw9 => kernel_rfl)
      (case hrw9 => kernel_rfl)
      (case hQw9 => first | exact fun _ _ _ h => h | exact fun _ _ _ h => (nomatch h.1))
      (case hSw9 => assumption)
      (case hyw9 => (refine Or.inl ⟨by rfl, ?_⟩; intro W hW; skip; go_simp; try with_reducible rfl))
      (try simp only [List.getElem_toArray, List.getElem_cons_succ, List.getElem_cons_zero, Act.put, List.setIfInBounds_toArray, List.set_cons_zero, List.set_cons_succ])
      (refine wpAnyH_take (i := 10) (oi := ?oiw10) (v := ?vw10) ?hiw10 ?hsw10 ?hfw10 ?hrw10 ?hQw10 ?hyw10 ?hSw10 ?hw10)
      (case hiw10 => rfl)
      (case hsw10 => kernel_rfl)
      (case hfw10 => kernel_rfl)
      (case hrw10 => kernel_rfl)
      (case hQw10 => first | exact fun _ _ _ h => h | exact fun _ _ _ h => (nomatch h.1))
      (case hSw10 => assumption)
      (case hyw10 => (refine Or.inl ⟨by rfl, ?_⟩; intro W hW; skip; go_simp; try with_reducible rfl))
      (try simp only [List.getElem_toArray, List.getElem_cons_succ, List.getElem_cons_zero, Act.put, List.setIfInBounds_toArray, List.set_cons_zero, List.set_cons_succ])
      (refine wpAnyH_take (i := 11) (oi := ?oiw11) (v := ?vw11) ?hiw11 ?hsw11 ?hfw11 ?hrw11 ?hQw11 ?hyw11 ?hSw11 ?hw11)
      (case hiw11 => rfl)
      (case hsw11 => kernel_rfl)
      (case hfw11 => kernel_rfl)
      (case hrw11 => kernel_rfl)
      (case hQw11 => first | exact fun _ _ _ h => h | exact fun _ _ _ h => (nomatch h.1))
      (case hSw11 => assumption)
      (case hyw11 => (refine Or.inl ⟨by rfl, ?_⟩; intro W hW; skip; go_simp; try with_reducible rfl))
      (try simp only [List.getElem_toArray, List.getElem_cons_succ, List.getElem_cons_zero, Act.put, List.setIfInBounds_toArray, List.set_cons_zero, List.set_cons_succ])
      refine wpAnyH_ready (rs := [12]) (by kernel_rfl) (by simp) ?_
      refine AllReadyH.cons rfl (fun K hK => ?_) (AllReadyH.nil)
      go_simp
      refine (scalar0_calls _).mono ?_
      rintro e13 w13 ⟨rfl, hb13⟩
      have T13 := T.out.drew.call hb13
      obtain ⟨zc13, zf13⟩ := Kd.R_celln 0 T13.s.r (3 + 2 * t + 2 + xi) (by omega) (by omega)
      have q13 : 3 + 2 * t + 2 + xi < 3 + 2 * t + 2 * sp := by omega
      have q13' : 0 ≤ 3 + 2 * t + 2 + xi := by omega
      have S13 : (w13.cell? ⟨w2.heap.size, 0, none⟩ = some (.slice (some ⟨go, 0, none⟩) m co) ∧ w13.cell? ⟨w3.heap.size, 0, none⟩ = some (.int .i64 (2 + s.size)) ∧ w13.cell? ⟨ga, 0, none⟩ = some (.int .i64 (3 + 2 * t)) ∧ w13.cell? ⟨w.heap.size, 2, none⟩ = some (.slice (some ⟨sb, so, none⟩) ss.length c) ∧ w13.cell? ⟨sb, so, none⟩ = some (.string s)) := by
        obtain ⟨r0, r1, r2, r3⟩ := T13.at
        exact ⟨r0, r1, r2, r3, HSt.out _ T13.s.b⟩
      refine hK.out _ _ ?_ (fun hHeld => ?_)
      · exact S13
      clear hK K
      (try simp only [List.getElem_toArray, List.getElem_cons_succ, List.getElem_cons_zero, Act.put, List.setIfInBounds_toArray, List.set_cons_zero, List.set_cons_succ])
      (refine wpAnyH_take (i := 13) (oi := ?oiw13) (v := ?vw13) ?hiw13 ?hsw13 ?hfw13 ?hrw13 ?hQw13 ?hyw13 ?hSw13 ?hw13)
      (case hiw13 => rfl)
      (case hsw13 => kernel_rfl)
      (case hfw13 => kernel_rfl)
      (case hrw13 => kernel_rfl)
      (case hQw13 => first | exact fun _ _ _ h => h | exact fun _ _ _ h => (nomatch h.1))
      (case hSw13 => assumption)
      (case hyw13 => (refine Or.inl ⟨by rfl, ?_⟩; intro W hW; skip; go_simp; try with_reducible rfl))
      (try simp only [List.getElem_toArray, List.getElem_cons_succ, List.getElem_cons_zero, Act.put, List.setIfInBounds_toArray, List.set_cons_zero, List.set_cons_succ])
      (refine wpAnyH_take (i := 14) (oi := ?oiw14) (v := ?vw14) ?hiw14 ?hsw14 ?hfw14 ?hrw14 ?hQw14 ?hyw14 ?hSw14 ?hw14)
      (case hiw14 => rfl)
      (case hsw14 => kernel_rfl)
      (case hfw14 => kernel_rfl)
      (case hrw14 => kernel_rfl)
      (case hQw14 => first | exact fun _ _ _ h => h | exact fun _ _ _ h => (nomatch h.1))
      (case hSw14 => assumption)
      (case hyw14 => (refine Or.inl ⟨by rfl, ?_⟩; intro W hW; skip; go_simp; try with_reducible rfl))
      (try simp only [List.getElem_toArray, List.getElem_cons_succ, List.getElem_cons_zero, Act.put, List.setIfInBounds_toArray, List.set_cons_zero, List.set_cons_succ])
      (refine wpAnyH_take (i := 15) (oi := ?oiw15) (v := ?vw15) ?hiw15 ?hsw15 ?hfw15 ?hrw15 ?hQw15 ?hyw15 ?hSw15 ?hw15)
      (case hiw15 => rfl)
      (case hsw15 => kernel_rfl)
      (case hfw15 => kernel_rfl)
      (case hrw15 => kernel_rfl)
      (case hQw15 => first | exact fun _ _ _ h => h | exact fun _ _ _ h => (nomatch h.1))
      (case hSw15 => assumption)
      (case hyw15 => (refine Or.inl ⟨by rfl, ?_⟩; intro W hW; skip; go_simp; try with_reducible rfl))
      (try simp only [List.getElem_toArray, List.getElem_cons_succ, List.getElem_cons_zero, Act.put, List.setIfInBounds_toArray, List.set_cons_zero, List.set_cons_succ])
      (refine wpAnyH_take (i := 16) (oi := ?oiw16) (v := ?vw16) ?hiw16 ?hsw16 ?hfw16 ?hrw16 ?hQw16 ?hyw16 ?hSw16 ?hw16)
      (case hiw16 => rfl)
      (case hsw16 => kernel_rfl)
      (case hfw16 => kernel_rfl)
      (case hrw16 => kernel_rfl)
      (case hQw16 => first | exact fun _ _ _ h => h | exact fun _ _ _ h => (nomatch h.1))
      (case hSw16 => assumption)
      (case hyw16 => (refine Or.inl ⟨by rfl, ?_⟩; intro W hW; skip; go_simp; try with_reducible rfl))
      (try simp only [List.getElem_toArray, List.getElem_cons_succ, List.getElem_cons_zero, Act.put, List.setIfInBounds_toArray, List.set_cons_zero, List.set_cons_succ])
      refine wpAnyH_ready (rs := [17]) (by kernel_rfl) (by simp) ?_
      refine AllReadyH.cons rfl (fun K hK => ?_) (AllReadyH.nil)
      go_simp
      have T17 := T13.put gb (3 + 2 * t + 2 + xi) 4611686018427387908
      have S17 : ((w13.setCell ⟨go, (3 + 2 * t + 2 + xi).toNat, none⟩ (.int .u64 4611686018427387908)).cell? ⟨w2.heap.size, 0, none⟩ = some (.slice (some ⟨go, 0, none⟩) m co) ∧ (w13.setCell ⟨go, (3 + 2 * t + 2 + xi).toNat, none⟩ (.int .u64 4611686018427387908)).cell? ⟨w3.heap.size, 0, none⟩ = some (.int .i64 (2 + s.size)) ∧ (w13.setCell ⟨go, (3 + 2 * t + 2 + xi).toNat, none⟩ (.int .u64 4611686018427387908)).cell? ⟨ga, 0, none⟩ = some (.int .i64 (3 + 2 * t)) ∧ (w13.setCell ⟨go, (3 + 2 * t + 2 + xi).toNat, none⟩ (.int .u64 4611686018427387908)).cell? ⟨w.heap.size, 2, none⟩ = some (.slice (some ⟨sb, so, none⟩) ss.length c) ∧ (w13.setCell ⟨go, (3 + 2 * t + 2 + xi).toNat, none⟩ (.int .u64 4611686018427387908)).cell? ⟨sb, so, none⟩ = some (.string s)) := by
        obtain ⟨r0, r1, r2, r3⟩ := T17.at
        exact ⟨r0, r1, r2, r3, HSt.out _ T17.s.b⟩
      refine hK.out _ _ ?_ (fun hHeld => ?_)
      · exact S17
      clear hK K
      (try simp only [List.getElem_toArray, List.getElem_cons_succ, List.getElem_cons_zero, Act.put, List.setIfInBounds_toArray, List.set_cons_zero, List.set_cons_succ])
      refine wpAnyH_done (by kernel_rfl) ?_ _
      have ko : KeepsOthers W (w13.setCell ⟨go, (3 + 2 * t + 2 + xi).toNat, none⟩ (.int .u64 4611686018427387908)) :=
        ((KeepsOthers.drew W).trans (KeepsOthers.of_grownBy (grown_of_below hb13) (fun j o ej _ => by cases ej))).trans (KeepsOthers.setCell _ _ _)
      refine ⟨ko, ko.walks, ?_⟩
      simp only [stF_snoc, if_pos h115, hxv]
      exact T17
    · have hk : letterK (byteAt s x.val) = 0 := by unfold letterK; rw [if_neg h115]
      rw [hk]
      gi_wp2
      refine ⟨KeepsOthers.refl _, KeepsWalks.refl _, ?_⟩
      simp only [stF_snoc, if_neg h115]
      exact T.out
  case done =>
    rintro D ys W hD rfl hI hK
    have hfin : stF t sp s (List.finRange s.size) = stL t sp s s.size := by rw [← finT_all, stF_fin t sp s s.size (Nat.le_refl _)]
    rw [hfin] at hI
    obtain ⟨r0, r1, r2, r3⟩ := hI.at
    go_wp2
    refine ⟨by simp, .inl ⟨_, _, rfl, run_takeDeferred hK, ?_⟩⟩
    have hDl : D < W.heap.size := (Array.getElem?_eq_some_iff.1 hK).1
    have TG := hI.grown (grownBy_putObj' W D (.deferred none)) (fun r e => ⟨by cases e; rw [World.size_alloc] at hD; omega, _, by cases e; exact hK, rfl⟩)
    refine ⟨_, results_tmp2 rfl _ _ _, _, rfl, ?_, TG.s.b⟩
    rw [hs]
    exact TG.s.r
  case stop =>
    rintro D c pre W _ _ h _
    exact h.elim

set_option maxRecDepth 100000 in
theorem start_bad_calls (t sp : Int) (a : Option Addr) (c : Nat) (ss : List ByteArray) (hn : ss.length ≤ maxLen) (w : World) (h : SlOf w a (strV ss)) (hp : planB t sp ss = false) :
    Calls Tryd.prog 25 #[.agg #[.int .i64 t, .int .i64 sp, .slice a ss.length c]] w fun e w' => e = .returned (.tuple #[.slice none 0 0, .int .i64 2]) ∧ Below w.heap.size w w' := by
  have hsz := fun W h => laySize_calls t sp a c ss hn W h
  rw [show placeE t sp ss 0 1 = 2 by simp [placeE, hp]] at hsz
  have HZ := Lib.hid hsz
  have HS := Lib.hid h
  clear hsz h
  go_enter Tryd.func25, Tryd.ntmps25
  go_wp2_with fail
  refine (HZ.out _ (HS.out.alloc _)).mono ?_; rintro e1 w1 ⟨rfl, hb1⟩; obtain ⟨hc1, hf1⟩ := bcell hb1; have hz1 := hb1.size; (try simp at hz1)
  go_wp2
  go_ret2
  exact ⟨rfl, by (repeat (first | exact Below.refl _ _ | (with_reducible assumption) | refine Below.drew ?_ | refine Below.drewN' ?_ _ | refine Below.alloc ?_ (by first | omega | (simp; done) | (simp; omega)) _ | refine Below.setCell ?_ (by first | omega | (simp; done) | (simp; omega)) _ | refine Below.then ?_ hb9 (by first | omega | (simp; done) | (simp; omega)) | refine Below.then ?_ hb8 (by first | omega | (simp; done) | (simp; omega)) | refine Below.then ?_ hb7 (by first | omega | (simp; done) | (simp; omega)) | refine Below.then ?_ hb6 (by first | omega | (simp; done) | (simp; omega)) | refine Below.then ?_ hb5 (by first | omega | (simp; done) | (simp; omega)) | refine Below.then ?_ hb4 (by first | omega | (simp; done) | (simp; omega)) | refine Below.then ?_ hb3 (by first | omega | (simp; done) | (simp; omega)) | refine Below.then ?_ hb2 (by first | omega | (simp; done) | (simp; omega)) | refine Below.then ?_ hb1 (by first | omega | (simp; done) | (simp; omega))))⟩

end Go.Proofs.YtiodkcecpnomcaaDoor
