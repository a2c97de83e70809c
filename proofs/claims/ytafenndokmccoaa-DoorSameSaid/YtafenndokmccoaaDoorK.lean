/- The law of layer 'door': what a field is does not hang on the thread's phase, epoch, space or buffer. -/
import Derived.Test.YtafenndokmccoaaDoorJ
namespace Go.Proofs.Ytafenndokmccoaa
open Go.RowKit
set_option linter.unusedVariables false
set_option linter.unusedSimpArgs false

theorem wfu {n : Int} (h : (Lit.int .u64 n).wf = true) : 0 ≤ n ∧ n < 18446744073709551616 := by
  have : 0 ≤ n ∧ n ≤ 18446744073709551615 := by simpa [Lit.wf, IntKind.min, IntKind.max, IntKind.signed, IntKind.bits] using h
  omega

set_option maxRecDepth 100000 in
set_option maxHeartbeats 6400000 in
theorem doorSame_walk (w : World) (t : Int) (_wt : (Lit.int .i64 t).wf = true) (sp : Int) (_wsp : (Lit.int .i64 sp).wf = true)
    (a : Option Addr) (c : Nat) (ss : List ByteArray) (hn : ss.length ≤ maxLen) (hs : SlOf w a (ss.map .string)) (_hf : ∀ s ∈ ss, s.size ≤ maxLen)
    (tn : Int) (wtn : (Lit.int .i64 tn).wf = true) (tph : Int) (wtph : (Lit.int .i64 tph).wf = true) (tep : Int) (wtep : (Lit.int .i64 tep).wf = true) (ts : Int) (wts : (Lit.int .i64 ts).wf = true) (tls : Int) (wtls : (Lit.int .i64 tls).wf = true) (tla : Int) (wtla : (Lit.int .i64 tla).wf = true) (tll : Int) (wtll : (Lit.int .i64 tll).wf = true) (tr0 : Int) (wtr0 : (Lit.int .u64 tr0).wf = true) (tr1 : Int) (wtr1 : (Lit.int .u64 tr1).wf = true) (tr2 : Int) (wtr2 : (Lit.int .u64 tr2).wf = true) (tr3 : Int) (wtr3 : (Lit.int .u64 tr3).wf = true) (tr4 : Int) (wtr4 : (Lit.int .u64 tr4).wf = true) (tr5 : Int) (wtr5 : (Lit.int .u64 tr5).wf = true)
    (phase : Int) (_wp : (Lit.int .i64 phase).wf = true) (ok : Int) (_wok : (Lit.int .i64 ok).wf = true) (oa : Int) (_woa : (Lit.int .i64 oa).wf = true) (ob : Int) (_wob : (Lit.int .i64 ob).wf = true) (oc : Int) (_woc : (Lit.int .i64 oc).wf = true) (of : Int) (_wof : (Lit.int .i64 of).wf = true) (os : Int) (_wos : (Lit.int .i64 os).wf = true) (ox : Int) (_wox : (Lit.int .i64 ox).wf = true) (oy : Int) (_woy : (Lit.int .i64 oy).wf = true) (v : Int) (wv : (Lit.int .u64 v).wf = true) :
    Calls Try.prog 7 #[.agg #[.int .i64 t, .int .i64 sp, .slice a ss.length c], .agg #[.int .i64 tn, .int .i64 tph, .int .i64 tep, .int .i64 ts, .int .i64 tls, .int .i64 tla, .int .i64 tll, .int .u64 tr0, .int .u64 tr1, .int .u64 tr2, .int .u64 tr3, .int .u64 tr4, .int .u64 tr5], .int .i64 phase, .agg #[.int .i64 ok, .int .i64 oa, .int .i64 ob, .int .i64 oc, .int .i64 of, .int .i64 os, .int .i64 ox, .int .i64 oy], .int .u64 v] w fun e w' => e = .returned (.bool true) ∧ Below w.heap.size w w' := by
  have hx : ThOk (⟨tn, tph, tep, ts, tls, tla, tll, tr0, tr1, tr2, tr3, tr4, tr5⟩ : ThN) := ⟨wtla, wfu wtr0, wfu wtr1, wfu wtr2, wfu wtr3, wfu wtr4, wfu wtr5⟩
  have hy : ThOk (⟨tn, phase, (wrap64 (tep.tdiv 2)), (wrap64 (1 - ts.tmod 2)), (wrap64 (1 - ts.tmod 2)), 0, 0, tr0, tr1, tr2, tr3, tr4, tr5⟩ : ThN) := ⟨(show (Lit.int .i64 0).wf = true by decide), wfu wtr0, wfu wtr1, wfu wtr2, wfu wtr3, wfu wtr4, wfu wtr5⟩
  have hv := wfu wv
  have HW := Lib.hid works19_calls
  have HS := Lib.hid hs
  have hf := fun W h => few19_calls t sp a c ss hn W h
  have hcx := fun W h => dCheck_calls (⟨tn, tph, tep, ts, tls, tla, tll, tr0, tr1, tr2, tr3, tr4, tr5⟩ : ThN) hx t sp a c ss hn W h
  have hcy := fun W h => dCheck_calls (⟨tn, phase, (wrap64 (tep.tdiv 2)), (wrap64 (1 - ts.tmod 2)), (wrap64 (1 - ts.tmod 2)), 0, 0, tr0, tr1, tr2, tr3, tr4, tr5⟩ : ThN) hy t sp a c ss hn W h
  have hox := fun W h => opens_calls (⟨tn, tph, tep, ts, tls, tla, tll, tr0, tr1, tr2, tr3, tr4, tr5⟩ : ThN) hx t sp a c ss hn (⟨ok, oa, ob, oc, of, os, ox, oy⟩ : OpN) v hv.1 hv.2 W h
  have hoy := fun W h => opens_calls (⟨tn, phase, (wrap64 (tep.tdiv 2)), (wrap64 (1 - ts.tmod 2)), (wrap64 (1 - ts.tmod 2)), 0, 0, tr0, tr1, tr2, tr3, tr4, tr5⟩ : ThN) hy t sp a c ss hn (⟨ok, oa, ob, oc, of, os, ox, oy⟩ : OpN) v hv.1 hv.2 W h
  have hyx : thB (⟨tn, tph, tep, ts, tls, tla, tll, tr0, tr1, tr2, tr3, tr4, tr5⟩ : ThN) t sp ss = true → thB (⟨tn, phase, (wrap64 (tep.tdiv 2)), (wrap64 (1 - ts.tmod 2)), (wrap64 (1 - ts.tmod 2)), 0, 0, tr0, tr1, tr2, tr3, tr4, tr5⟩ : ThN) t sp ss = true → opnE (⟨tn, phase, (wrap64 (tep.tdiv 2)), (wrap64 (1 - ts.tmod 2)), (wrap64 (1 - ts.tmod 2)), 0, 0, tr0, tr1, tr2, tr3, tr4, tr5⟩ : ThN) t sp ss (⟨ok, oa, ob, oc, of, os, ox, oy⟩ : OpN) v = opnE (⟨tn, tph, tep, ts, tls, tla, tll, tr0, tr1, tr2, tr3, tr4, tr5⟩ : ThN) t sp ss (⟨ok, oa, ob, oc, of, os, ox, oy⟩ : OpN) v ∧ opnO (⟨tn, phase, (wrap64 (tep.tdiv 2)), (wrap64 (1 - ts.tmod 2)), (wrap64 (1 - ts.tmod 2)), 0, 0, tr0, tr1, tr2, tr3, tr4, tr5⟩ : ThN) t sp ss (⟨ok, oa, ob, oc, of, os, ox, oy⟩ : OpN) v = opnO (⟨tn, tph, tep, ts, tls, tla, tll, tr0, tr1, tr2, tr3, tr4, tr5⟩ : ThN) t sp ss (⟨ok, oa, ob, oc, of, os, ox, oy⟩ : OpN) v ∧ opnA (⟨tn, phase, (wrap64 (tep.tdiv 2)), (wrap64 (1 - ts.tmod 2)), (wrap64 (1 - ts.tmod 2)), 0, 0, tr0, tr1, tr2, tr3, tr4, tr5⟩ : ThN) t sp ss (⟨ok, oa, ob, oc, of, os, ox, oy⟩ : OpN) v = opnA (⟨tn, tph, tep, ts, tls, tla, tll, tr0, tr1, tr2, tr3, tr4, tr5⟩ : ThN) t sp ss (⟨ok, oa, ob, oc, of, os, ox, oy⟩ : OpN) v ∧ opnN (⟨tn, phase, (wrap64 (tep.tdiv 2)), (wrap64 (1 - ts.tmod 2)), (wrap64 (1 - ts.tmod 2)), 0, 0, tr0, tr1, tr2, tr3, tr4, tr5⟩ : ThN) t sp ss (⟨ok, oa, ob, oc, of, os, ox, oy⟩ : OpN) = opnN (⟨tn, tph, tep, ts, tls, tla, tll, tr0, tr1, tr2, tr3, tr4, tr5⟩ : ThN) t sp ss (⟨ok, oa, ob, oc, of, os, ox, oy⟩ : OpN) := by
    intro h1 h2
    have e : newB (⟨tn, phase, (wrap64 (tep.tdiv 2)), (wrap64 (1 - ts.tmod 2)), (wrap64 (1 - ts.tmod 2)), 0, 0, tr0, tr1, tr2, tr3, tr4, tr5⟩ : ThN) t sp ss (⟨ok, oa, ob, oc, of, os, ox, oy⟩ : OpN) = newB (⟨tn, tph, tep, ts, tls, tla, tll, tr0, tr1, tr2, tr3, tr4, tr5⟩ : ThN) t sp ss (⟨ok, oa, ob, oc, of, os, ox, oy⟩ : OpN) := by unfold newB; rw [h1, h2]
    refine ⟨?_, ?_, ?_, ?_⟩
    · unfold opnE; rw [e]; rfl
    · unfold opnO; rw [e]; rfl
    · unfold opnA; rw [e]; rfl
    · unfold opnN; rw [e]; rfl
  unfold thV thA at hcx hcy hox hoy
  unfold opVal at hox hoy
  generalize opnE (⟨tn, tph, tep, ts, tls, tla, tll, tr0, tr1, tr2, tr3, tr4, tr5⟩ : ThN) t sp ss (⟨ok, oa, ob, oc, of, os, ox, oy⟩ : OpN) v = E at hox hyx
  generalize opnO (⟨tn, tph, tep, ts, tls, tla, tll, tr0, tr1, tr2, tr3, tr4, tr5⟩ : ThN) t sp ss (⟨ok, oa, ob, oc, of, os, ox, oy⟩ : OpN) v = OO at hox hyx
  generalize opnA (⟨tn, tph, tep, ts, tls, tla, tll, tr0, tr1, tr2, tr3, tr4, tr5⟩ : ThN) t sp ss (⟨ok, oa, ob, oc, of, os, ox, oy⟩ : OpN) v = AA at hox hyx
  generalize opnN (⟨tn, tph, tep, ts, tls, tla, tll, tr0, tr1, tr2, tr3, tr4, tr5⟩ : ThN) t sp ss (⟨ok, oa, ob, oc, of, os, ox, oy⟩ : OpN) = NN at hox hyx
  generalize opnE (⟨tn, phase, (wrap64 (tep.tdiv 2)), (wrap64 (1 - ts.tmod 2)), (wrap64 (1 - ts.tmod 2)), 0, 0, tr0, tr1, tr2, tr3, tr4, tr5⟩ : ThN) t sp ss (⟨ok, oa, ob, oc, of, os, ox, oy⟩ : OpN) v = E' at hoy hyx
  generalize opnO (⟨tn, phase, (wrap64 (tep.tdiv 2)), (wrap64 (1 - ts.tmod 2)), (wrap64 (1 - ts.tmod 2)), 0, 0, tr0, tr1, tr2, tr3, tr4, tr5⟩ : ThN) t sp ss (⟨ok, oa, ob, oc, of, os, ox, oy⟩ : OpN) v = OO' at hoy hyx
  generalize opnA (⟨tn, phase, (wrap64 (tep.tdiv 2)), (wrap64 (1 - ts.tmod 2)), (wrap64 (1 - ts.tmod 2)), 0, 0, tr0, tr1, tr2, tr3, tr4, tr5⟩ : ThN) t sp ss (⟨ok, oa, ob, oc, of, os, ox, oy⟩ : OpN) v = AA' at hoy hyx
  generalize opnN (⟨tn, phase, (wrap64 (tep.tdiv 2)), (wrap64 (1 - ts.tmod 2)), (wrap64 (1 - ts.tmod 2)), 0, 0, tr0, tr1, tr2, tr3, tr4, tr5⟩ : ThN) t sp ss (⟨ok, oa, ob, oc, of, os, ox, oy⟩ : OpN) = NN' at hoy hyx
  generalize thB (⟨tn, tph, tep, ts, tls, tla, tll, tr0, tr1, tr2, tr3, tr4, tr5⟩ : ThN) t sp ss = bx at hcx hyx
  generalize thB (⟨tn, phase, (wrap64 (tep.tdiv 2)), (wrap64 (1 - ts.tmod 2)), (wrap64 (1 - ts.tmod 2)), 0, 0, tr0, tr1, tr2, tr3, tr4, tr5⟩ : ThN) t sp ss = byy at hcy hyx
  generalize fewB ss = fb at hf
  simp only at hcx hcy hox hoy
  have HF := Lib.hid hf
  have HCX := Lib.hid hcx
  have HCY := Lib.hid hcy
  have HOX := Lib.hid hox
  have HOY := Lib.hid hoy
  have HYX := Lib.hid hyx
  clear hs hf hcx hcy hox hoy hyx hx hy hv
  go_enter Try.func7, Try.ntmps7
  go_wp2_with fail
  have hW4 : ((((w.alloc (.cells #[.int .i64 t, .int .i64 sp, .slice a ss.length c] 24)).alloc (.cells #[.int .i64 tn, .int .i64 tph, .int .i64 tep, .int .i64 ts, .int .i64 tls, .int .i64 tla, .int .i64 tll, .int .u64 tr0, .int .u64 tr1, .int .u64 tr2, .int .u64 tr3, .int .u64 tr4, .int .u64 tr5] 90)).alloc (.cells #[.int .i64 ok, .int .i64 oa, .int .i64 ob, .int .i64 oc, .int .i64 of, .int .i64 os, .int .i64 ox, .int .i64 oy] 93)).alloc (.cells #[.int .i64 tn, .int .i64 phase, .int .i64 (wrap64 (tep.tdiv 2)), .int .i64 (wrap64 (1 - ts.tmod 2)), .int .i64 (wrap64 (1 - ts.tmod 2)), .int .i64 0, .int .i64 0, .int .u64 tr0, .int .u64 tr1, .int .u64 tr2, .int .u64 tr3, .int .u64 tr4, .int .u64 tr5] 90)).heap.size = w.heap.size + 4 := by simp
  have BP : ((((w.alloc (.cells #[.int .i64 t, .int .i64 sp, .slice a ss.length c] 24)).alloc (.cells #[.int .i64 tn, .int .i64 tph, .int .i64 tep, .int .i64 ts, .int .i64 tls, .int .i64 tla, .int .i64 tll, .int .u64 tr0, .int .u64 tr1, .int .u64 tr2, .int .u64 tr3, .int .u64 tr4, .int .u64 tr5] 90)).alloc (.cells #[.int .i64 ok, .int .i64 oa, .int .i64 ob, .int .i64 oc, .int .i64 of, .int .i64 os, .int .i64 ox, .int .i64 oy] 93)).alloc (.cells #[.int .i64 tn, .int .i64 phase, .int .i64 (wrap64 (tep.tdiv 2)), .int .i64 (wrap64 (1 - ts.tmod 2)), .int .i64 (wrap64 (1 - ts.tmod 2)), .int .i64 0, .int .i64 0, .int .u64 tr0, .int .u64 tr1, .int .u64 tr2, .int .u64 tr3, .int .u64 tr4, .int .u64 tr5] 90)).heap[w.heap.size]? = some (.cells #[.int .i64 t, .int .i64 sp, .slice a ss.length c] 24 (0, 0)) := by exact blk_alloc (blk_alloc (blk_alloc ((MapKept.heap_alloc _ _).1) _) _) _
  have hs1 : (w.alloc (.cells #[.int .i64 t, .int .i64 sp, .slice a ss.length c] 24)).heap.size = w.heap.size + 1 := by simp
  have BT : ((((w.alloc (.cells #[.int .i64 t, .int .i64 sp, .slice a ss.length c] 24)).alloc (.cells #[.int .i64 tn, .int .i64 tph, .int .i64 tep, .int .i64 ts, .int .i64 tls, .int .i64 tla, .int .i64 tll, .int .u64 tr0, .int .u64 tr1, .int .u64 tr2, .int .u64 tr3, .int .u64 tr4, .int .u64 tr5] 90)).alloc (.cells #[.int .i64 ok, .int .i64 oa, .int .i64 ob, .int .i64 oc, .int .i64 of, .int .i64 os, .int .i64 ox, .int .i64 oy] 93)).alloc (.cells #[.int .i64 tn, .int .i64 phase, .int .i64 (wrap64 (tep.tdiv 2)), .int .i64 (wrap64 (1 - ts.tmod 2)), .int .i64 (wrap64 (1 - ts.tmod 2)), .int .i64 0, .int .i64 0, .int .u64 tr0, .int .u64 tr1, .int .u64 tr2, .int .u64 tr3, .int .u64 tr4, .int .u64 tr5] 90)).heap[w.heap.size + 1]? = some (.cells #[.int .i64 tn, .int .i64 tph, .int .i64 tep, .int .i64 ts, .int .i64 tls, .int .i64 tla, .int .i64 tll, .int .u64 tr0, .int .u64 tr1, .int .u64 tr2, .int .u64 tr3, .int .u64 tr4, .int .u64 tr5] 90 (0, 0)) := by rw [← hs1]; exact blk_alloc (blk_alloc ((MapKept.heap_alloc _ _).1) _) _
  have hs2 : ((w.alloc (.cells #[.int .i64 t, .int .i64 sp, .slice a ss.length c] 24)).alloc (.cells #[.int .i64 tn, .int .i64 tph, .int .i64 tep, .int .i64 ts, .int .i64 tls, .int .i64 tla, .int .i64 tll, .int .u64 tr0, .int .u64 tr1, .int .u64 tr2, .int .u64 tr3, .int .u64 tr4, .int .u64 tr5] 90)).heap.size = w.heap.size + 2 := by simp
  have BO : ((((w.alloc (.cells #[.int .i64 t, .int .i64 sp, .slice a ss.length c] 24)).alloc (.cells #[.int .i64 tn, .int .i64 tph, .int .i64 tep, .int .i64 ts, .int .i64 tls, .int .i64 tla, .int .i64 tll, .int .u64 tr0, .int .u64 tr1, .int .u64 tr2, .int .u64 tr3, .int .u64 tr4, .int .u64 tr5] 90)).alloc (.cells #[.int .i64 ok, .int .i64 oa, .int .i64 ob, .int .i64 oc, .int .i64 of, .int .i64 os, .int .i64 ox, .int .i64 oy] 93)).alloc (.cells #[.int .i64 tn, .int .i64 phase, .int .i64 (wrap64 (tep.tdiv 2)), .int .i64 (wrap64 (1 - ts.tmod 2)), .int .i64 (wrap64 (1 - ts.tmod 2)), .int .i64 0, .int .i64 0, .int .u64 tr0, .int .u64 tr1, .int .u64 tr2, .int .u64 tr3, .int .u64 tr4, .int .u64 tr5] 90)).heap[w.heap.size + 2]? = some (.cells #[.int .i64 ok, .int .i64 oa, .int .i64 ob, .int .i64 oc, .int .i64 of, .int .i64 os, .int .i64 ox, .int .i64 oy] 93 (0, 0)) := by rw [← hs2]; exact blk_alloc ((MapKept.heap_alloc _ _).1) _
  have hs3 : (((w.alloc (.cells #[.int .i64 t, .int .i64 sp, .slice a ss.length c] 24)).alloc (.cells #[.int .i64 tn, .int .i64 tph, .int .i64 tep, .int .i64 ts, .int .i64 tls, .int .i64 tla, .int .i64 tll, .int .u64 tr0, .int .u64 tr1, .int .u64 tr2, .int .u64 tr3, .int .u64 tr4, .int .u64 tr5] 90)).alloc (.cells #[.int .i64 ok, .int .i64 oa, .int .i64 ob, .int .i64 oc, .int .i64 of, .int .i64 os, .int .i64 ox, .int .i64 oy] 93)).heap.size = w.heap.size + 3 := by simp
  have BU : ((((w.alloc (.cells #[.int .i64 t, .int .i64 sp, .slice a ss.length c] 24)).alloc (.cells #[.int .i64 tn, .int .i64 tph, .int .i64 tep, .int .i64 ts, .int .i64 tls, .int .i64 tla, .int .i64 tll, .int .u64 tr0, .int .u64 tr1, .int .u64 tr2, .int .u64 tr3, .int .u64 tr4, .int .u64 tr5] 90)).alloc (.cells #[.int .i64 ok, .int .i64 oa, .int .i64 ob, .int .i64 oc, .int .i64 of, .int .i64 os, .int .i64 ox, .int .i64 oy] 93)).alloc (.cells #[.int .i64 tn, .int .i64 phase, .int .i64 (wrap64 (tep.tdiv 2)), .int .i64 (wrap64 (1 - ts.tmod 2)), .int .i64 (wrap64 (1 - ts.tmod 2)), .int .i64 0, .int .i64 0, .int .u64 tr0, .int .u64 tr1, .int .u64 tr2, .int .u64 tr3, .int .u64 tr4, .int .u64 tr5] 90)).heap[w.heap.size + 3]? = some (.cells #[.int .i64 tn, .int .i64 phase, .int .i64 (wrap64 (tep.tdiv 2)), .int .i64 (wrap64 (1 - ts.tmod 2)), .int .i64 (wrap64 (1 - ts.tmod 2)), .int .i64 0, .int .i64 0, .int .u64 tr0, .int .u64 tr1, .int .u64 tr2, .int .u64 tr3, .int .u64 tr4, .int .u64 tr5] 90 (0, 0)) := by rw [← hs3]; exact (MapKept.heap_alloc _ _).1
  have hb0 : Below w.heap.size w ((((w.alloc (.cells #[.int .i64 t, .int .i64 sp, .slice a ss.length c] 24)).alloc (.cells #[.int .i64 tn, .int .i64 tph, .int .i64 tep, .int .i64 ts, .int .i64 tls, .int .i64 tla, .int .i64 tll, .int .u64 tr0, .int .u64 tr1, .int .u64 tr2, .int .u64 tr3, .int .u64 tr4, .int .u64 tr5] 90)).alloc (.cells #[.int .i64 ok, .int .i64 oa, .int .i64 ob, .int .i64 oc, .int .i64 of, .int .i64 os, .int .i64 ox, .int .i64 oy] 93)).alloc (.cells #[.int .i64 tn, .int .i64 phase, .int .i64 (wrap64 (tep.tdiv 2)), .int .i64 (wrap64 (1 - ts.tmod 2)), .int .i64 (wrap64 (1 - ts.tmod 2)), .int .i64 0, .int .i64 0, .int .u64 tr0, .int .u64 tr1, .int .u64 tr2, .int .u64 tr3, .int .u64 tr4, .int .u64 tr5] 90)) := by (repeat (first | exact Below.refl _ _ | (with_reducible assumption) | refine Below.drew ?_ | refine Below.drewN' ?_ _ | refine Below.alloc ?_ (by first | omega | (simp; done) | (simp; omega)) _ | refine Below.setCell ?_ (by first | omega | (simp; done) | (simp; omega)) _ | refine Below.then ?_ hb9 (by first | omega | (simp; done) | (simp; omega)) | refine Below.then ?_ hb8 (by first | omega | (simp; done) | (simp; omega)) | refine Below.then ?_ hb7 (by first | omega | (simp; done) | (simp; omega)) | refine Below.then ?_ hb6 (by first | omega | (simp; done) | (simp; omega)) | refine Below.then ?_ hb5 (by first | omega | (simp; done) | (simp; omega)) | refine Below.then ?_ hb4 (by first | omega | (simp; done) | (simp; omega)) | refine Below.then ?_ hb3 (by first | omega | (simp; done) | (simp; omega)) | refine Below.then ?_ hb2 (by first | omega | (simp; done) | (simp; omega)) | refine Below.then ?_ hb1 (by first | omega | (simp; done) | (simp; omega))))
  generalize ((((w.alloc (.cells #[.int .i64 t, .int .i64 sp, .slice a ss.length c] 24)).alloc (.cells #[.int .i64 tn, .int .i64 tph, .int .i64 tep, .int .i64 ts, .int .i64 tls, .int .i64 tla, .int .i64 tll, .int .u64 tr0, .int .u64 tr1, .int .u64 tr2, .int .u64 tr3, .int .u64 tr4, .int .u64 tr5] 90)).alloc (.cells #[.int .i64 ok, .int .i64 oa, .int .i64 ob, .int .i64 oc, .int .i64 of, .int .i64 os, .int .i64 ox, .int .i64 oy] 93)).alloc (.cells #[.int .i64 tn, .int .i64 phase, .int .i64 (wrap64 (tep.tdiv 2)), .int .i64 (wrap64 (1 - ts.tmod 2)), .int .i64 (wrap64 (1 - ts.tmod 2)), .int .i64 0, .int .i64 0, .int .u64 tr0, .int .u64 tr1, .int .u64 tr2, .int .u64 tr3, .int .u64 tr4, .int .u64 tr5] 90)) = W0 at hW4 BP BT BO BU hb0 ⊢
  clear hs1 hs2 hs3
  refine (HF.out _ (HS.out.below hb0)).mono ?_
  rintro r w1 ⟨rfl, hb1'⟩
  replace BP := blk_below BP hb1'
  replace BT := blk_below BT hb1'
  replace BO := blk_below BO hb1'
  replace BU := blk_below BU hb1'
  have hb1 := Below.then hb0 hb1' hb0.size
  clear hb1' hb0 hW4
  cases fb with
  | false =>
    go_wp2_with (first | (go_at_call 36; go_in) | (go_at_call 38; refine (HW.out _).mono ?_; rintro r w9 ⟨rfl, hb9⟩))
    go_ret
    exact ⟨rfl, Below.then hb1 hb9 hb1.size⟩
  | true =>
  have p0 : w1.cell? ⟨w.heap.size, 0, none⟩ = some (.int .i64 t) := blk_cell BP 0 _ rfl
  have p1 : w1.cell? ⟨w.heap.size, 1, none⟩ = some (.int .i64 sp) := blk_cell BP 1 _ rfl
  have p2 : w1.cell? ⟨w.heap.size, 2, none⟩ = some (.slice a ss.length c) := blk_cell BP 2 _ rfl
  have lP := blk_lt BP
  have t0 : w1.cell? ⟨w.heap.size + 1, 0, none⟩ = some (.int .i64 tn) := blk_cell BT 0 _ rfl
  have t1 : w1.cell? ⟨w.heap.size + 1, 1, none⟩ = some (.int .i64 tph) := blk_cell BT 1 _ rfl
  have t2 : w1.cell? ⟨w.heap.size + 1, 2, none⟩ = some (.int .i64 tep) := blk_cell BT 2 _ rfl
  have t3 : w1.cell? ⟨w.heap.size + 1, 3, none⟩ = some (.int .i64 ts) := blk_cell BT 3 _ rfl
  have t4 : w1.cell? ⟨w.heap.size + 1, 4, none⟩ = some (.int .i64 tls) := blk_cell BT 4 _ rfl
  have t5 : w1.cell? ⟨w.heap.size + 1, 5, none⟩ = some (.int .i64 tla) := blk_cell BT 5 _ rfl
  have t6 : w1.cell? ⟨w.heap.size + 1, 6, none⟩ = some (.int .i64 tll) := blk_cell BT 6 _ rfl
  have t7 : w1.cell? ⟨w.heap.size + 1, 7, none⟩ = some (.int .u64 tr0) := blk_cell BT 7 _ rfl
  have t8 : w1.cell? ⟨w.heap.size + 1, 8, none⟩ = some (.int .u64 tr1) := blk_cell BT 8 _ rfl
  have t9 : w1.cell? ⟨w.heap.size + 1, 9, none⟩ = some (.int .u64 tr2) := blk_cell BT 9 _ rfl
  have t10 : w1.cell? ⟨w.heap.size + 1, 10, none⟩ = some (.int .u64 tr3) := blk_cell BT 10 _ rfl
  have t11 : w1.cell? ⟨w.heap.size + 1, 11, none⟩ = some (.int .u64 tr4) := blk_cell BT 11 _ rfl
  have t12 : w1.cell? ⟨w.heap.size + 1, 12, none⟩ = some (.int .u64 tr5) := blk_cell BT 12 _ rfl
  have lT := blk_lt BT
  have o0 : w1.cell? ⟨w.heap.size + 2, 0, none⟩ = some (.int .i64 ok) := blk_cell BO 0 _ rfl
  have o1 : w1.cell? ⟨w.heap.size + 2, 1, none⟩ = some (.int .i64 oa) := blk_cell BO 1 _ rfl
  have o2 : w1.cell? ⟨w.heap.size + 2, 2, none⟩ = some (.int .i64 ob) := blk_cell BO 2 _ rfl
  have o3 : w1.cell? ⟨w.heap.size + 2, 3, none⟩ = some (.int .i64 oc) := blk_cell BO 3 _ rfl
  have o4 : w1.cell? ⟨w.heap.size + 2, 4, none⟩ = some (.int .i64 of) := blk_cell BO 4 _ rfl
  have o5 : w1.cell? ⟨w.heap.size + 2, 5, none⟩ = some (.int .i64 os) := blk_cell BO 5 _ rfl
  have o6 : w1.cell? ⟨w.heap.size + 2, 6, none⟩ = some (.int .i64 ox) := blk_cell BO 6 _ rfl
  have o7 : w1.cell? ⟨w.heap.size + 2, 7, none⟩ = some (.int .i64 oy) := blk_cell BO 7 _ rfl
  have lO := blk_lt BO
  have u0 : w1.cell? ⟨w.heap.size + 3, 0, none⟩ = some (.int .i64 tn) := blk_cell BU 0 _ rfl
  have u1 : w1.cell? ⟨w.heap.size + 3, 1, none⟩ = some (.int .i64 phase) := blk_cell BU 1 _ rfl
  have u2 : w1.cell? ⟨w.heap.size + 3, 2, none⟩ = some (.int .i64 (wrap64 (tep.tdiv 2))) := blk_cell BU 2 _ rfl
  have u3 : w1.cell? ⟨w.heap.size + 3, 3, none⟩ = some (.int .i64 (wrap64 (1 - ts.tmod 2))) := blk_cell BU 3 _ rfl
  have u4 : w1.cell? ⟨w.heap.size + 3, 4, none⟩ = some (.int .i64 (wrap64 (1 - ts.tmod 2))) := blk_cell BU 4 _ rfl
  have u5 : w1.cell? ⟨w.heap.size + 3, 5, none⟩ = some (.int .i64 0) := blk_cell BU 5 _ rfl
  have u6 : w1.cell? ⟨w.heap.size + 3, 6, none⟩ = some (.int .i64 0) := blk_cell BU 6 _ rfl
  have u7 : w1.cell? ⟨w.heap.size + 3, 7, none⟩ = some (.int .u64 tr0) := blk_cell BU 7 _ rfl
  have u8 : w1.cell? ⟨w.heap.size + 3, 8, none⟩ = some (.int .u64 tr1) := blk_cell BU 8 _ rfl
  have u9 : w1.cell? ⟨w.heap.size + 3, 9, none⟩ = some (.int .u64 tr2) := blk_cell BU 9 _ rfl
  have u10 : w1.cell? ⟨w.heap.size + 3, 10, none⟩ = some (.int .u64 tr3) := blk_cell BU 10 _ rfl
  have u11 : w1.cell? ⟨w.heap.size + 3, 11, none⟩ = some (.int .u64 tr4) := blk_cell BU 11 _ rfl
  have u12 : w1.cell? ⟨w.heap.size + 3, 12, none⟩ = some (.int .u64 tr5) := blk_cell BU 12 _ rfl
  have lU := blk_lt BU
  go_wp2_with (first | (go_at_call 36; go_in))
  refine (HCX.out _ (HS.out.below hb1)).mono ?_
  rintro r w2 ⟨rfl, hb2'⟩
  clear p0 p1 p2 t0 t1 t2 t3 t4 t5 t6 t7 t8 t9 t10 t11 t12 o0 o1 o2 o3 o4 o5 o6 o7 u0 u1 u2 u3 u4 u5 u6 u7 u8 u9 u10 u11 u12 lP lT lO lU
  replace BP := blk_below BP hb2'
  replace BT := blk_below BT hb2'
  replace BO := blk_below BO hb2'
  replace BU := blk_below BU hb2'
  have hb2 := Below.then hb1 hb2' hb1.size
  clear hb2' hb1
  cases bx with
  | false =>
    simp only [Bool.false_eq_true, if_false]
    go_wp2_with (first | (go_at_call 36; go_in) | (go_at_call 38; refine (HW.out _).mono ?_; rintro r w9 ⟨rfl, hb9⟩))
    go_ret
    exact ⟨rfl, Below.then hb2 hb9 hb2.size⟩
  | true =>
  simp only [if_true]
  have p0 : w2.cell? ⟨w.heap.size, 0, none⟩ = some (.int .i64 t) := blk_cell BP 0 _ rfl
  have p1 : w2.cell? ⟨w.heap.size, 1, none⟩ = some (.int .i64 sp) := blk_cell BP 1 _ rfl
  have p2 : w2.cell? ⟨w.heap.size, 2, none⟩ = some (.slice a ss.length c) := blk_cell BP 2 _ rfl
  have lP := blk_lt BP
  have t0 : w2.cell? ⟨w.heap.size + 1, 0, none⟩ = some (.int .i64 tn) := blk_cell BT 0 _ rfl
  have t1 : w2.cell? ⟨w.heap.size + 1, 1, none⟩ = some (.int .i64 tph) := blk_cell BT 1 _ rfl
  have t2 : w2.cell? ⟨w.heap.size + 1, 2, none⟩ = some (.int .i64 tep) := blk_cell BT 2 _ rfl
  have t3 : w2.cell? ⟨w.heap.size + 1, 3, none⟩ = some (.int .i64 ts) := blk_cell BT 3 _ rfl
  have t4 : w2.cell? ⟨w.heap.size + 1, 4, none⟩ = some (.int .i64 tls) := blk_cell BT 4 _ rfl
  have t5 : w2.cell? ⟨w.heap.size + 1, 5, none⟩ = some (.int .i64 tla) := blk_cell BT 5 _ rfl
  have t6 : w2.cell? ⟨w.heap.size + 1, 6, none⟩ = some (.int .i64 tll) := blk_cell BT 6 _ rfl
  have t7 : w2.cell? ⟨w.heap.size + 1, 7, none⟩ = some (.int .u64 tr0) := blk_cell BT 7 _ rfl
  have t8 : w2.cell? ⟨w.heap.size + 1, 8, none⟩ = some (.int .u64 tr1) := blk_cell BT 8 _ rfl
  have t9 : w2.cell? ⟨w.heap.size + 1, 9, none⟩ = some (.int .u64 tr2) := blk_cell BT 9 _ rfl
  have t10 : w2.cell? ⟨w.heap.size + 1, 10, none⟩ = some (.int .u64 tr3) := blk_cell BT 10 _ rfl
  have t11 : w2.cell? ⟨w.heap.size + 1, 11, none⟩ = some (.int .u64 tr4) := blk_cell BT 11 _ rfl
  have t12 : w2.cell? ⟨w.heap.size + 1, 12, none⟩ = some (.int .u64 tr5) := blk_cell BT 12 _ rfl
  have lT := blk_lt BT
  have o0 : w2.cell? ⟨w.heap.size + 2, 0, none⟩ = some (.int .i64 ok) := blk_cell BO 0 _ rfl
  have o1 : w2.cell? ⟨w.heap.size + 2, 1, none⟩ = some (.int .i64 oa) := blk_cell BO 1 _ rfl
  have o2 : w2.cell? ⟨w.heap.size + 2, 2, none⟩ = some (.int .i64 ob) := blk_cell BO 2 _ rfl
  have o3 : w2.cell? ⟨w.heap.size + 2, 3, none⟩ = some (.int .i64 oc) := blk_cell BO 3 _ rfl
  have o4 : w2.cell? ⟨w.heap.size + 2, 4, none⟩ = some (.int .i64 of) := blk_cell BO 4 _ rfl
  have o5 : w2.cell? ⟨w.heap.size + 2, 5, none⟩ = some (.int .i64 os) := blk_cell BO 5 _ rfl
  have o6 : w2.cell? ⟨w.heap.size + 2, 6, none⟩ = some (.int .i64 ox) := blk_cell BO 6 _ rfl
  have o7 : w2.cell? ⟨w.heap.size + 2, 7, none⟩ = some (.int .i64 oy) := blk_cell BO 7 _ rfl
  have lO := blk_lt BO
  have u0 : w2.cell? ⟨w.heap.size + 3, 0, none⟩ = some (.int .i64 tn) := blk_cell BU 0 _ rfl
  have u1 : w2.cell? ⟨w.heap.size + 3, 1, none⟩ = some (.int .i64 phase) := blk_cell BU 1 _ rfl
  have u2 : w2.cell? ⟨w.heap.size + 3, 2, none⟩ = some (.int .i64 (wrap64 (tep.tdiv 2))) := blk_cell BU 2 _ rfl
  have u3 : w2.cell? ⟨w.heap.size + 3, 3, none⟩ = some (.int .i64 (wrap64 (1 - ts.tmod 2))) := blk_cell BU 3 _ rfl
  have u4 : w2.cell? ⟨w.heap.size + 3, 4, none⟩ = some (.int .i64 (wrap64 (1 - ts.tmod 2))) := blk_cell BU 4 _ rfl
  have u5 : w2.cell? ⟨w.heap.size + 3, 5, none⟩ = some (.int .i64 0) := blk_cell BU 5 _ rfl
  have u6 : w2.cell? ⟨w.heap.size + 3, 6, none⟩ = some (.int .i64 0) := blk_cell BU 6 _ rfl
  have u7 : w2.cell? ⟨w.heap.size + 3, 7, none⟩ = some (.int .u64 tr0) := blk_cell BU 7 _ rfl
  have u8 : w2.cell? ⟨w.heap.size + 3, 8, none⟩ = some (.int .u64 tr1) := blk_cell BU 8 _ rfl
  have u9 : w2.cell? ⟨w.heap.size + 3, 9, none⟩ = some (.int .u64 tr2) := blk_cell BU 9 _ rfl
  have u10 : w2.cell? ⟨w.heap.size + 3, 10, none⟩ = some (.int .u64 tr3) := blk_cell BU 10 _ rfl
  have u11 : w2.cell? ⟨w.heap.size + 3, 11, none⟩ = some (.int .u64 tr4) := blk_cell BU 11 _ rfl
  have u12 : w2.cell? ⟨w.heap.size + 3, 12, none⟩ = some (.int .u64 tr5) := blk_cell BU 12 _ rfl
  have lU := blk_lt BU
  go_wp2_with (first | (go_at_call 36; go_in))
  refine (HCY.out _ (HS.out.below hb2)).mono ?_
  rintro r w3 ⟨rfl, hb3'⟩
  clear p0 p1 p2 t0 t1 t2 t3 t4 t5 t6 t7 t8 t9 t10 t11 t12 o0 o1 o2 o3 o4 o5 o6 o7 u0 u1 u2 u3 u4 u5 u6 u7 u8 u9 u10 u11 u12 lP lT lO lU
  replace BP := blk_below BP hb3'
  replace BT := blk_below BT hb3'
  replace BO := blk_below BO hb3'
  replace BU := blk_below BU hb3'
  have hb3 := Below.then hb2 hb3' hb2.size
  clear hb3' hb2
  cases byy with
  | false =>
    simp only [Bool.false_eq_true, if_false]
    go_wp2_with (first | (go_at_call 36; go_in) | (go_at_call 38; refine (HW.out _).mono ?_; rintro r w9 ⟨rfl, hb9⟩))
    go_ret
    exact ⟨rfl, Below.then hb3 hb9 hb3.size⟩
  | true =>
  simp only [if_true]
  obtain ⟨rfl, rfl, rfl, rfl⟩ := HYX.out (by first | rfl | trivial) (by first | rfl | trivial)
  have p0 : w3.cell? ⟨w.heap.size, 0, none⟩ = some (.int .i64 t) := blk_cell BP 0 _ rfl
  have p1 : w3.cell? ⟨w.heap.size, 1, none⟩ = some (.int .i64 sp) := blk_cell BP 1 _ rfl
  have p2 : w3.cell? ⟨w.heap.size, 2, none⟩ = some (.slice a ss.length c) := blk_cell BP 2 _ rfl
  have lP := blk_lt BP
  have t0 : w3.cell? ⟨w.heap.size + 1, 0, none⟩ = some (.int .i64 tn) := blk_cell BT 0 _ rfl
  have t1 : w3.cell? ⟨w.heap.size + 1, 1, none⟩ = some (.int .i64 tph) := blk_cell BT 1 _ rfl
  have t2 : w3.cell? ⟨w.heap.size + 1, 2, none⟩ = some (.int .i64 tep) := blk_cell BT 2 _ rfl
  have t3 : w3.cell? ⟨w.heap.size + 1, 3, none⟩ = some (.int .i64 ts) := blk_cell BT 3 _ rfl
  have t4 : w3.cell? ⟨w.heap.size + 1, 4, none⟩ = some (.int .i64 tls) := blk_cell BT 4 _ rfl
  have t5 : w3.cell? ⟨w.heap.size + 1, 5, none⟩ = some (.int .i64 tla) := blk_cell BT 5 _ rfl
  have t6 : w3.cell? ⟨w.heap.size + 1, 6, none⟩ = some (.int .i64 tll) := blk_cell BT 6 _ rfl
  have t7 : w3.cell? ⟨w.heap.size + 1, 7, none⟩ = some (.int .u64 tr0) := blk_cell BT 7 _ rfl
  have t8 : w3.cell? ⟨w.heap.size + 1, 8, none⟩ = some (.int .u64 tr1) := blk_cell BT 8 _ rfl
  have t9 : w3.cell? ⟨w.heap.size + 1, 9, none⟩ = some (.int .u64 tr2) := blk_cell BT 9 _ rfl
  have t10 : w3.cell? ⟨w.heap.size + 1, 10, none⟩ = some (.int .u64 tr3) := blk_cell BT 10 _ rfl
  have t11 : w3.cell? ⟨w.heap.size + 1, 11, none⟩ = some (.int .u64 tr4) := blk_cell BT 11 _ rfl
  have t12 : w3.cell? ⟨w.heap.size + 1, 12, none⟩ = some (.int .u64 tr5) := blk_cell BT 12 _ rfl
  have lT := blk_lt BT
  have o0 : w3.cell? ⟨w.heap.size + 2, 0, none⟩ = some (.int .i64 ok) := blk_cell BO 0 _ rfl
  have o1 : w3.cell? ⟨w.heap.size + 2, 1, none⟩ = some (.int .i64 oa) := blk_cell BO 1 _ rfl
  have o2 : w3.cell? ⟨w.heap.size + 2, 2, none⟩ = some (.int .i64 ob) := blk_cell BO 2 _ rfl
  have o3 : w3.cell? ⟨w.heap.size + 2, 3, none⟩ = some (.int .i64 oc) := blk_cell BO 3 _ rfl
  have o4 : w3.cell? ⟨w.heap.size + 2, 4, none⟩ = some (.int .i64 of) := blk_cell BO 4 _ rfl
  have o5 : w3.cell? ⟨w.heap.size + 2, 5, none⟩ = some (.int .i64 os) := blk_cell BO 5 _ rfl
  have o6 : w3.cell? ⟨w.heap.size + 2, 6, none⟩ = some (.int .i64 ox) := blk_cell BO 6 _ rfl
  have o7 : w3.cell? ⟨w.heap.size + 2, 7, none⟩ = some (.int .i64 oy) := blk_cell BO 7 _ rfl
  have lO := blk_lt BO
  have u0 : w3.cell? ⟨w.heap.size + 3, 0, none⟩ = some (.int .i64 tn) := blk_cell BU 0 _ rfl
  have u1 : w3.cell? ⟨w.heap.size + 3, 1, none⟩ = some (.int .i64 phase) := blk_cell BU 1 _ rfl
  have u2 : w3.cell? ⟨w.heap.size + 3, 2, none⟩ = some (.int .i64 (wrap64 (tep.tdiv 2))) := blk_cell BU 2 _ rfl
  have u3 : w3.cell? ⟨w.heap.size + 3, 3, none⟩ = some (.int .i64 (wrap64 (1 - ts.tmod 2))) := blk_cell BU 3 _ rfl
  have u4 : w3.cell? ⟨w.heap.size + 3, 4, none⟩ = some (.int .i64 (wrap64 (1 - ts.tmod 2))) := blk_cell BU 4 _ rfl
  have u5 : w3.cell? ⟨w.heap.size + 3, 5, none⟩ = some (.int .i64 0) := blk_cell BU 5 _ rfl
  have u6 : w3.cell? ⟨w.heap.size + 3, 6, none⟩ = some (.int .i64 0) := blk_cell BU 6 _ rfl
  have u7 : w3.cell? ⟨w.heap.size + 3, 7, none⟩ = some (.int .u64 tr0) := blk_cell BU 7 _ rfl
  have u8 : w3.cell? ⟨w.heap.size + 3, 8, none⟩ = some (.int .u64 tr1) := blk_cell BU 8 _ rfl
  have u9 : w3.cell? ⟨w.heap.size + 3, 9, none⟩ = some (.int .u64 tr2) := blk_cell BU 9 _ rfl
  have u10 : w3.cell? ⟨w.heap.size + 3, 10, none⟩ = some (.int .u64 tr3) := blk_cell BU 10 _ rfl
  have u11 : w3.cell? ⟨w.heap.size + 3, 11, none⟩ = some (.int .u64 tr4) := blk_cell BU 11 _ rfl
  have u12 : w3.cell? ⟨w.heap.size + 3, 12, none⟩ = some (.int .u64 tr5) := blk_cell BU 12 _ rfl
  have lU := blk_lt BU
  go_wp2_with (first | (go_at_call 36; go_in))
  refine (HOX.out _ (HS.out.below hb3)).mono ?_
  rintro r w4 ⟨rfl, hb4'⟩
  clear p0 p1 p2 t0 t1 t2 t3 t4 t5 t6 t7 t8 t9 t10 t11 t12 o0 o1 o2 o3 o4 o5 o6 o7 u0 u1 u2 u3 u4 u5 u6 u7 u8 u9 u10 u11 u12 lP lT lO lU
  replace BP := blk_below BP hb4'
  replace BT := blk_below BT hb4'
  replace BO := blk_below BO hb4'
  replace BU := blk_below BU hb4'
  have hb4 := Below.then hb3 hb4' hb3.size
  clear hb4' hb3
  have p0 : w4.cell? ⟨w.heap.size, 0, none⟩ = some (.int .i64 t) := blk_cell BP 0 _ rfl
  have p1 : w4.cell? ⟨w.heap.size, 1, none⟩ = some (.int .i64 sp) := blk_cell BP 1 _ rfl
  have p2 : w4.cell? ⟨w.heap.size, 2, none⟩ = some (.slice a ss.length c) := blk_cell BP 2 _ rfl
  have lP := blk_lt BP
  have t0 : w4.cell? ⟨w.heap.size + 1, 0, none⟩ = some (.int .i64 tn) := blk_cell BT 0 _ rfl
  have t1 : w4.cell? ⟨w.heap.size + 1, 1, none⟩ = some (.int .i64 tph) := blk_cell BT 1 _ rfl
  have t2 : w4.cell? ⟨w.heap.size + 1, 2, none⟩ = some (.int .i64 tep) := blk_cell BT 2 _ rfl
  have t3 : w4.cell? ⟨w.heap.size + 1, 3, none⟩ = some (.int .i64 ts) := blk_cell BT 3 _ rfl
  have t4 : w4.cell? ⟨w.heap.size + 1, 4, none⟩ = some (.int .i64 tls) := blk_cell BT 4 _ rfl
  have t5 : w4.cell? ⟨w.heap.size + 1, 5, none⟩ = some (.int .i64 tla) := blk_cell BT 5 _ rfl
  have t6 : w4.cell? ⟨w.heap.size + 1, 6, none⟩ = some (.int .i64 tll) := blk_cell BT 6 _ rfl
  have t7 : w4.cell? ⟨w.heap.size + 1, 7, none⟩ = some (.int .u64 tr0) := blk_cell BT 7 _ rfl
  have t8 : w4.cell? ⟨w.heap.size + 1, 8, none⟩ = some (.int .u64 tr1) := blk_cell BT 8 _ rfl
  have t9 : w4.cell? ⟨w.heap.size + 1, 9, none⟩ = some (.int .u64 tr2) := blk_cell BT 9 _ rfl
  have t10 : w4.cell? ⟨w.heap.size + 1, 10, none⟩ = some (.int .u64 tr3) := blk_cell BT 10 _ rfl
  have t11 : w4.cell? ⟨w.heap.size + 1, 11, none⟩ = some (.int .u64 tr4) := blk_cell BT 11 _ rfl
  have t12 : w4.cell? ⟨w.heap.size + 1, 12, none⟩ = some (.int .u64 tr5) := blk_cell BT 12 _ rfl
  have lT := blk_lt BT
  have o0 : w4.cell? ⟨w.heap.size + 2, 0, none⟩ = some (.int .i64 ok) := blk_cell BO 0 _ rfl
  have o1 : w4.cell? ⟨w.heap.size + 2, 1, none⟩ = some (.int .i64 oa) := blk_cell BO 1 _ rfl
  have o2 : w4.cell? ⟨w.heap.size + 2, 2, none⟩ = some (.int .i64 ob) := blk_cell BO 2 _ rfl
  have o3 : w4.cell? ⟨w.heap.size + 2, 3, none⟩ = some (.int .i64 oc) := blk_cell BO 3 _ rfl
  have o4 : w4.cell? ⟨w.heap.size + 2, 4, none⟩ = some (.int .i64 of) := blk_cell BO 4 _ rfl
  have o5 : w4.cell? ⟨w.heap.size + 2, 5, none⟩ = some (.int .i64 os) := blk_cell BO 5 _ rfl
  have o6 : w4.cell? ⟨w.heap.size + 2, 6, none⟩ = some (.int .i64 ox) := blk_cell BO 6 _ rfl
  have o7 : w4.cell? ⟨w.heap.size + 2, 7, none⟩ = some (.int .i64 oy) := blk_cell BO 7 _ rfl
  have lO := blk_lt BO
  have u0 : w4.cell? ⟨w.heap.size + 3, 0, none⟩ = some (.int .i64 tn) := blk_cell BU 0 _ rfl
  have u1 : w4.cell? ⟨w.heap.size + 3, 1, none⟩ = some (.int .i64 phase) := blk_cell BU 1 _ rfl
  have u2 : w4.cell? ⟨w.heap.size + 3, 2, none⟩ = some (.int .i64 (wrap64 (tep.tdiv 2))) := blk_cell BU 2 _ rfl
  have u3 : w4.cell? ⟨w.heap.size + 3, 3, none⟩ = some (.int .i64 (wrap64 (1 - ts.tmod 2))) := blk_cell BU 3 _ rfl
  have u4 : w4.cell? ⟨w.heap.size + 3, 4, none⟩ = some (.int .i64 (wrap64 (1 - ts.tmod 2))) := blk_cell BU 4 _ rfl
  have u5 : w4.cell? ⟨w.heap.size + 3, 5, none⟩ = some (.int .i64 0) := blk_cell BU 5 _ rfl
  have u6 : w4.cell? ⟨w.heap.size + 3, 6, none⟩ = some (.int .i64 0) := blk_cell BU 6 _ rfl
  have u7 : w4.cell? ⟨w.heap.size + 3, 7, none⟩ = some (.int .u64 tr0) := blk_cell BU 7 _ rfl
  have u8 : w4.cell? ⟨w.heap.size + 3, 8, none⟩ = some (.int .u64 tr1) := blk_cell BU 8 _ rfl
  have u9 : w4.cell? ⟨w.heap.size + 3, 9, none⟩ = some (.int .u64 tr2) := blk_cell BU 9 _ rfl
  have u10 : w4.cell? ⟨w.heap.size + 3, 10, none⟩ = some (.int .u64 tr3) := blk_cell BU 10 _ rfl
  have u11 : w4.cell? ⟨w.heap.size + 3, 11, none⟩ = some (.int .u64 tr4) := blk_cell BU 11 _ rfl
  have u12 : w4.cell? ⟨w.heap.size + 3, 12, none⟩ = some (.int .u64 tr5) := blk_cell BU 12 _ rfl
  have lU := blk_lt BU
  go_wp2_with (first | (go_at_call 36; go_in))
  have BA : (w4.alloc (.cells #[.int .i64 E', .int .i64 OO', .int .i64 AA'] 96)).heap[w4.heap.size]? = some (.cells #[.int .i64 E', .int .i64 OO', .int .i64 AA'] 96 (0, 0)) := (MapKept.heap_alloc w4 _).1
  have hb4a := hb4.alloc hb4.size (.cells #[.int .i64 E', .int .i64 OO', .int .i64 AA'] 96)
  have hS4 := HS.out.below hb4a
  generalize w4.alloc (.cells #[.int .i64 E', .int .i64 OO', .int .i64 AA'] 96) = W4 at BA hb4a hS4 ⊢
  generalize w4.heap.size = XA at BA ⊢
  refine (HOY.out _ hS4).mono ?_
  rintro r w5 ⟨rfl, hb5'⟩
  clear p0 p1 p2 t0 t1 t2 t3 t4 t5 t6 t7 t8 t9 t10 t11 t12 o0 o1 o2 o3 o4 o5 o6 o7 u0 u1 u2 u3 u4 u5 u6 u7 u8 u9 u10 u11 u12 lP lT lO lU
  replace BA := blk_below BA hb5'
  have hb5 := Below.then hb4a hb5' hb4a.size
  have a0 : w5.cell? ⟨XA, 0, none⟩ = some (.int .i64 E') := blk_cell BA 0 _ rfl
  have a1 : w5.cell? ⟨XA, 1, none⟩ = some (.int .i64 OO') := blk_cell BA 1 _ rfl
  have a2 : w5.cell? ⟨XA, 2, none⟩ = some (.int .i64 AA') := blk_cell BA 2 _ rfl
  have lA := blk_lt BA
  have hz5 := hb5.size
  clear BA hb5' hb4a hb4 BP BT BO BU hS4
  go_wp2_with (first | (go_at_call 36; go_in) | (go_at_call 38; refine (HW.out _).mono ?_; rintro r w9 ⟨rfl, hb9⟩; have hz9 := hb9.size; (try simp at hz9)))
  go_ret
  exact ⟨by simp, by (repeat (first | exact Below.refl _ _ | (with_reducible assumption) | refine Below.drew ?_ | refine Below.drewN' ?_ _ | refine Below.alloc ?_ (by first | omega | (simp; done) | (simp; omega)) _ | refine Below.setCell ?_ (by first | omega | (simp; done) | (simp; omega)) _ | refine Below.then ?_ hb9 (by first | omega | (simp; done) | (simp; omega)) | refine Below.then ?_ hb8 (by first | omega | (simp; done) | (simp; omega)) | refine Below.then ?_ hb7 (by first | omega | (simp; done) | (simp; omega)) | refine Below.then ?_ hb6 (by first | omega | (simp; done) | (simp; omega)) | refine Below.then ?_ hb5 (by first | omega | (simp; done) | (simp; omega)) | refine Below.then ?_ hb4 (by first | omega | (simp; done) | (simp; omega)) | refine Below.then ?_ hb3 (by first | omega | (simp; done) | (simp; omega)) | refine Below.then ?_ hb2 (by first | omega | (simp; done) | (simp; omega)) | refine Below.then ?_ hb1 (by first | omega | (simp; done) | (simp; omega))))⟩
end Go.Proofs.Ytafenndokmccoaa
