/- The chapter's rows; the statement OpNames. -/
import Derived.Test.YtlohfcinffaagaaDoorOpYt
import Derived.Test.YtlohfcinffaagaaDoorQOp2
import Derived.Stop.LaidErr
import Derived.LaidLaws
namespace Go.Proofs.YtlohfcinffaagaaDoor
open Go.RowKit Go.Proofs.YtlohfcinffaagaaDoorW.PrintWords Go.Proofs.YtlohfcinffaagaaDoorQ.Op
set_option linter.unusedVariables false
set_option linter.unusedSimpArgs false

theorem opRead_some {s : ByteArray} {o : OpN} (hs : s.size ≤ 1000) (h : readO (splitSp s.data.toList) = some o) : op_Read.f s = some (o.k, o.a, o.b, o.c, o.f, o.s, o.x, o.y, 0) := by
  unfold op_Read.f
  rw [if_pos hs, (readOp_of h).1, (readOp_of h).2]
theorem opRead_none {s : ByteArray} (hs : s.size ≤ 1000) (h : readO (splitSp s.data.toList) = none) : op_Read.f s = some (0, 0, 0, 0, 0, 0, 0, 0, 186) := by
  unfold op_Read.f
  rw [if_pos hs, (readOp_no h).1, (readOp_no h).2]
  rfl
theorem works_f : lapidarylaw08_works.f = some true := by
  unfold lapidarylaw08_works.f
  rw [opRead_some (o := ⟨4, 0, 2, 3, 1, 0, 0, 0⟩) (by decide) read_cas, opRead_some (o := ⟨6, 0, 0, 0, 1, 0, -5, 0⟩) (by decide) read_puti, opRead_none (by decide) read_bad]
  have c1 : op_Check.f [⟨#[112]⟩] 1 6 0 0 0 0 0 0 = some 181 := by decide
  have c2 : op_Check.f [⟨#[112]⟩] 1 5 0 0 0 1 0 0 = some 130 := by decide
  simp only [Option.bind_some, c1, c2]
  decide +kernel

theorem works_calls (w : World) (hT : WOk w) : Calls Tryd.prog 11 #[] w fun e w' => e = .returned (.bool true) ∧ Below w.heap.size w w' :=
  lapidarylaw08_works.calls true w works_f hT
theorem name_told (k : Int) : (opIs k == !(opName k).toList.isEmpty) = true := by
  rw [ByteArray.toList_eq]
  cases hk : opIs k with
  | true => rcases kinds_of hk with rfl | rfl | rfl | rfl | rfl | rfl | rfl | rfl | rfl | rfl | rfl <;> decide
  | false =>
    have b1 : k ≤ 0 ∨ 11 < k := by unfold opIs at hk; simp only [decide_eq_false_iff_not] at hk; omega
    have e1 : opName k = ⟨#[]⟩ := by unfold opName; repeat (rw [if_neg (by omega)])
    rw [e1]
    decide

theorem star_name : "*" ++ "errors.errorString" = "*errors.errorString" := by decide
theorem row_err (u : TypeId) (h : Tryd.prog.typeName? 3 u = some "*errors.errorString") : u = 171 :=
  typeName_ptr_named (nm := "errors.errorString") (by rw [star_name]; kernel_rfl) (by kernel_rfl) (by decide) u (by rw [star_name]; exact h)
theorem rErr_of_laid (W : World) {text : List UInt8} (h : laidMet Tryd.prog [("strconv.ErrRange", .iface "*errors.errorString" (.ptr (.agg [.lit (.string text)])))] W) : ErrAt 3 W := by
  have hg : Tryd.prog.globalNamed "strconv.ErrRange" = some 3 := by kernel_rfl
  obtain ⟨a, s, hv, _⟩ := laid_sentinel h hg (by kernel_rfl) Tryd.underlying117 row_err Tryd.underlying171 Tryd.underlying173 rfl rfl Tryd.underlying9 (by kernel_rfl) (by kernel_rfl)
  exact ⟨_, by simpa using World.var?_cell hg hv 0, .inr ⟨_, _, rfl⟩⟩
theorem sErr_of_laid (W : World) {text : List UInt8} (h : laidMet Tryd.prog [("strconv.ErrSyntax", .iface "*errors.errorString" (.ptr (.agg [.lit (.string text)])))] W) : ErrAt 2 W := by
  have hg : Tryd.prog.globalNamed "strconv.ErrSyntax" = some 2 := by kernel_rfl
  obtain ⟨a, s, hv, _⟩ := laid_sentinel h hg (by kernel_rfl) Tryd.underlying117 row_err Tryd.underlying171 Tryd.underlying173 rfl rfl Tryd.underlying9 (by kernel_rfl) (by kernel_rfl)
  exact ⟨_, by simpa using World.var?_cell hg hv 0, .inr ⟨_, _, rfl⟩⟩

set_option maxRecDepth 100000 in
set_option maxHeartbeats 1600000 in
theorem opNames_walk (w : World) (k : Int) (_ : (Lit.int .i64 k).wf = true) (hT : WOk w) :
    Calls Tryd.prog 3 #[.int .i64 k] w fun e w' => e = .returned (.bool true) ∧ Below w.heap.size w w' := by
  have h2 := name_told k
  generalize hn : opName k = nm at h2
  generalize hi : opIs k = ib at h2
  have H1 := Lib.hid (fun W => name_calls k W)
  have H3 := Lib.hid (fun W => refName_calls k W)
  rw [hn] at H3
  rw [hn, hi] at H1
  clear hn hi
  go_enter Tryd.func3, Tryd.ntmps3
  go_wp2_with fail
  refine (H1.out _).mono ?_; rintro e1 w1 ⟨rfl, hb1⟩; have hz1 := hb1.size; (try simp at hz1)
  go_wp2_with fail
  refine (H3.out _).mono ?_; rintro e2 w2 ⟨rfl, hb2⟩; have hz2 := hb2.size; (try simp at hz2)
  have hT2 : WOk w2 := hT.below (by (repeat (first | exact Below.refl _ _ | (with_reducible assumption) | refine Below.drew ?_ | refine Below.drewN' ?_ _ | refine Below.alloc ?_ (by first | omega | (simp; done) | (simp; omega)) _ | refine Below.setCell ?_ (by first | omega | (simp; done) | (simp; omega)) _ | refine Below.then ?_ hb9 (by first | omega | (simp; done) | (simp; omega)) | refine Below.then ?_ hb8 (by first | omega | (simp; done) | (simp; omega)) | refine Below.then ?_ hb7 (by first | omega | (simp; done) | (simp; omega)) | refine Below.then ?_ hb6 (by first | omega | (simp; done) | (simp; omega)) | refine Below.then ?_ hb5 (by first | omega | (simp; done) | (simp; omega)) | refine Below.then ?_ hb4 (by first | omega | (simp; done) | (simp; omega)) | refine Below.then ?_ hb3 (by first | omega | (simp; done) | (simp; omega)) | refine Below.then ?_ hb2 (by first | omega | (simp; done) | (simp; omega)) | refine Below.then ?_ hb1 (by first | omega | (simp; done) | (simp; omega)))))
  go_wp2_with fail
  refine (works_calls _ hT2).mono ?_; rintro e3 w3 ⟨rfl, hb3⟩; have hz3 := hb3.size; (try simp at hz3)
  go_wp2
  go_ret
  exact ⟨rfl, by (repeat (first | exact Below.refl _ _ | (with_reducible assumption) | refine Below.drew ?_ | refine Below.drewN' ?_ _ | refine Below.alloc ?_ (by first | omega | (simp; done) | (simp; omega)) _ | refine Below.setCell ?_ (by first | omega | (simp; done) | (simp; omega)) _ | refine Below.then ?_ hb9 (by first | omega | (simp; done) | (simp; omega)) | refine Below.then ?_ hb8 (by first | omega | (simp; done) | (simp; omega)) | refine Below.then ?_ hb7 (by first | omega | (simp; done) | (simp; omega)) | refine Below.then ?_ hb6 (by first | omega | (simp; done) | (simp; omega)) | refine Below.then ?_ hb5 (by first | omega | (simp; done) | (simp; omega)) | refine Below.then ?_ hb4 (by first | omega | (simp; done) | (simp; omega)) | refine Below.then ?_ hb3 (by first | omega | (simp; done) | (simp; omega)) | refine Below.then ?_ hb2 (by first | omega | (simp; done) | (simp; omega)) | refine Below.then ?_ hb1 (by first | omega | (simp; done) | (simp; omega))))⟩

end Go.Proofs.YtlohfcinffaagaaDoor
