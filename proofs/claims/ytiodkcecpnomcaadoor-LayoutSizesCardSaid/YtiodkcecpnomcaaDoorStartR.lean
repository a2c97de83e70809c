/- The reference's words at the start. -/
import Derived.Test.YtiodkcecpnomcaaDoorStart
namespace Go.Proofs.YtiodkcecpnomcaaDoor
open Go.RowKit Go.Proofs.YtiodkcecpnomcaaDoorW.PrintWords Go.Proofs.YtiodkcecpnomcaaDoorQ.Pk
set_option linter.unusedVariables false
set_option linter.unusedSimpArgs false

theorem kd_str {w : World} {a : Option Addr} {ss : List ByteArray} (hl : ss.length ≤ maxLen) (hs : SlOf w a (strV ss)) : Kd.C Kd.string w a ss.length ss := by
  refine Kd.C_of_reads (d := ByteArray.empty) (h1 := fun _ => rfl) ⟨rfl, hl, fun hn => ?_⟩
  rcases hs with h0 | ⟨b, o, rfl, _, hc⟩
  · have := congrArg List.length h0; rw [strV, List.length_map, List.length_nil] at this; omega
  · refine ⟨_, rfl, fun j hj => ?_⟩
    have := hc j (by simpa [strV] using hj)
    rw [show (⟨b, o, none⟩ : Addr).add j = ⟨b, o + j, none⟩ by unfold Addr.add; split <;> simp_all]
    rw [this]
    simp [strV, List.getD_eq_getElem?_getD, List.getElem?_eq_getElem hj]

theorem bt_at (s : ByteArray) (i : Nat) (h : i < s.size) : bt s (i : Int) = byteAt s i := by
  have e : s.data.toList.getD i 0 = s[i] := by
    rw [List.getD_eq_getElem?_getD, List.getElem?_eq_getElem (by simpa using h)]
    simp
    rfl
  unfold byteAt
  rw [e]
  simp [bt, h]
theorem refScalar0 (k : Nat) : lapidaryref01_Scalar.f (k + 4) 0 = some (4611686018427387908, 0) := by
  simp [lapidaryref01_Scalar.f, lapidaryref01_Make.f, lapidaryref01_Make.j0, lapidaryref01_Make.j1, lapidaryref01_Make.j2, IntKind.wrap, IntKind.signed, IntKind.bits, wrap64]
theorem refFront0 (low sp : Int) (h0 : 0 ≤ low) (h1 : low ≤ sp) (h2 : sp ≤ 4096) : lapidaryref02_Front.f 0 low sp 0 = some (frontV low sp, 0) := by
  have e1 : ¬ low < 0 := by omega
  have e2 : ¬ low > 4096 := by omega
  have e3 : ¬ sp < 0 := by omega
  have e4 : ¬ sp > 4096 := by omega
  have hr : lapidaryref02_Right.f 0 low sp 0 = some true := by
    unfold lapidaryref02_Right.f
    rw [if_pos rfl, if_neg e1, if_neg e2, if_neg e3, if_neg e4, if_neg (by decide), if_neg (by decide), w64' (by omega) (by omega)]
    simp; omega
  unfold lapidaryref02_Front.f
  rw [hr]
  simp only [Option.bind_some, if_true, Option.some.injEq, Prod.mk.injEq, and_true]
  rw [wrapUU (x := 0) (by omega) (by omega), wrapUU (x := low) (by omega) (by omega), wrapUU (x := sp) (by omega) (by omega), wrapUU (x := 8192 * 0) (by omega) (by omega), wrapUU (x := sp + 8192 * 0) (by omega) (by omega),
    wrapUU (x := 8192 * (sp + 8192 * 0)) (by omega) (by omega), wrapUU (x := low + 8192 * (sp + 8192 * 0)) (by omega) (by omega), wrapUU (x := 2 * (low + 8192 * (sp + 8192 * 0))) (by omega) (by omega), wrapUU (by omega) (by omega)]
  unfold frontV
  omega
theorem stL_len (t sp : Int) (s : ByteArray) : ∀ k, (stL t sp s k).length = (3 + 2 * t + 2 * sp).toNat
  | 0 => by simp [stL]
  | k + 1 => by
    unfold stL
    split
    · rw [List.length_set]; exact stL_len t sp s k
    · exact stL_len t sp s k

theorem refStart_l (t sp : Int) (ss : List ByteArray) (s : ByteArray) (b1 : 1 ≤ t) (b2 : t ≤ 8) (b3 : 32 ≤ sp) (b4 : sp ≤ 4096) (h8 : s.size ≤ 8) :
    ∀ (d k i : Nat), s.size - i = d → i ≤ s.size → d + 5 ≤ k → lapidaryref06_Start.l0 k (stL t sp s i) s (i : Int) t sp ss = some (stL t sp s s.size) := by
  intro d
  induction d with
  | zero =>
    intro k i hd hi hk
    obtain ⟨k, rfl⟩ : ∃ m, k = m + 1 := ⟨k - 1, by omega⟩
    obtain rfl : i = s.size := by omega
    simp only [lapidaryref06_Start.l0]
    rw [if_neg (by omega)]
  | succ d ih =>
    intro k i hd hi hk
    obtain ⟨k, rfl⟩ : ∃ m, k = m + 1 := ⟨k - 1, by omega⟩
    have hsc : lapidaryref01_Scalar.f k 0 = some (4611686018427387908, 0) := by
      obtain ⟨j, rfl⟩ : ∃ j, k = j + 4 := ⟨k - 4, by omega⟩
      exact refScalar0 j
    have hlt : i < s.size := by omega
    have hih := ih k (i + 1) (by omega) (by omega) (by omega)
    have hwi : wrap64 ((i : Int) + 1) = ((i + 1 : Nat) : Int) := (w64' (by omega) (by omega)).trans (by omega)
    have hlen := stL_len t sp s i
    have hb : lapidaryref06_Base.f t sp ss 0 = some (3 + 2 * t) := by
      unfold lapidaryref06_Base.f
      rw [w64' (x := 2 * t) (by omega) (by omega), w64' (x := 3 + 2 * t) (by omega) (by omega), w64' (x := 0 * sp) (by omega) (by omega), w64' (by omega) (by omega)]
      congr 1; omega
    simp only [lapidaryref06_Start.l0]
    rw [if_pos (by omega), if_pos (by omega), bt_at s i hlt, hwi]
    by_cases h : byteAt s i = 115
    · rw [if_pos h, hb]
      simp only [Option.bind_some]
      rw [hsc]
      simp only [Option.bind_some]
      rw [w64' (x := 3 + 2 * t + 2) (by omega) (by omega), w64' (x := 3 + 2 * t + 2 + (i : Int)) (by omega) (by omega), if_pos (by omega), if_pos (by omega)]
      have e : stL t sp s (i + 1) = (stL t sp s i).set (3 + 2 * t + 2 + (i : Int)).toNat 4611686018427387908 := by conv => lhs; unfold stL; rw [if_pos h]
      rw [← e]
      exact hih
    · rw [if_neg h]
      have e : stL t sp s (i + 1) = stL t sp s i := by conv => lhs; unfold stL; rw [if_neg h]
      rw [← e]
      exact hih
theorem refStart_f (t sp : Int) (ss : List ByteArray) (hp : planB t sp ss = true) :
    ∃ k, lapidaryref06_Start.f k t sp ss = some (stL t sp (ss.getD 0 ByteArray.empty) (ss.getD 0 ByteArray.empty).size) := by
  obtain ⟨b1, b2, b3, b4, hT⟩ := plan_ok hp
  have hT' := hT
  simp only [tableB, Bool.and_eq_true, decide_eq_true_eq, List.all_eq_true] at hT'
  obtain ⟨⟨l1, l16⟩, hall⟩ := hT'
  have e0 : ss.getD 0 ByteArray.empty = ss[0] := by simp [List.getD_eq_getElem?_getD, List.getElem?_eq_getElem (show 0 < ss.length by omega)]
  have h8 : (ss.getD 0 ByteArray.empty).size ≤ 8 := by rw [e0]; exact shape_size (hall _ (List.getElem_mem _))
  have er : rdOf ByteArray.empty ss 0 = ss.getD 0 ByteArray.empty := by simp [rdOf]
  refine ⟨(ss.getD 0 ByteArray.empty).size + 5, ?_⟩
  generalize ss.getD 0 ByteArray.empty = s at *
  have hb : lapidaryref06_Base.f t sp ss 0 = some (3 + 2 * t) := by
    unfold lapidaryref06_Base.f
    rw [w64' (x := 2 * t) (by omega) (by omega), w64' (x := 3 + 2 * t) (by omega) (by omega), w64' (x := 0 * sp) (by omega) (by omega), w64' (by omega) (by omega)]
    congr 1; omega
  have hz : lapidaryref06_Size.f t sp ss = some (3 + 2 * t + 2 * sp) := by
    unfold lapidaryref06_Size.f
    rw [w64' (x := 2 * t) (by omega) (by omega), w64' (x := 3 + 2 * t) (by omega) (by omega), w64' (x := 2 * sp) (by omega) (by omega), w64' (by omega) (by omega)]
  have hw : lapidaryref04_Word.f 0 0 = some 6 := by decide +kernel
  unfold lapidaryref06_Start.f
  rw [hz]
  simp only [Option.bind_some]
  rw [if_pos (by omega), if_pos (by omega), if_pos (by omega), er, w64' (x := 2 + (s.size : Int)) (by omega) (by omega), refFront0 _ _ (by omega) (by omega) (by omega)]
  simp only [Option.bind_some]
  rw [if_pos (by rw [List.length_replicate]; omega), hb]
  simp only [Option.bind_some]
  rw [hw]
  simp only [Option.bind_some]
  rw [if_pos (by omega), if_pos (by rw [List.length_replicate]; omega)]
  exact refStart_l t sp ss s b1 b2 b3 b4 h8 s.size _ 0 (by omega) (by omega) (by omega)

theorem refStart_calls (t sp : Int) (a : Option Addr) (c : Nat) (ss : List ByteArray) (hn : ss.length ≤ maxLen) (hc : ss.length ≤ c) (w : World) (h : SlOf w a (strV ss)) (hp : planB t sp ss = true) :
    Calls Tryd.prog 27 #[.agg #[.int .i64 t, .int .i64 sp, .slice a ss.length c]] w fun e w' => ∃ v, e = .returned v ∧
      Kd.R (Kd.int .u64) 57 w' w.heap.size (fun _ => True) v (stL t sp (ss.getD 0 ByteArray.empty) (ss.getD 0 ByteArray.empty).size) ∧ Below w.heap.size w w' := by
  obtain ⟨k, hk⟩ := refStart_f t sp ss hp
  exact lapidaryref06_Start.calls k t sp a c ss _ w (kd_str hn h) hc hk

end Go.Proofs.YtiodkcecpnomcaaDoor
