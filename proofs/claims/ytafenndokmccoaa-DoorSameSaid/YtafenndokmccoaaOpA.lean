/- The layer 'op': an operation's numbers, got and put by their part. -/
import Derived.Test.YtafenndokmccoaaKit
import Derived.Test.YtafenndokmccoaaOpV
import Derived.Deep.MidRow
import Derived.LoopTactic
namespace Go.Proofs.Ytafenndokmccoaa
open Go.RowKit
set_option linter.unusedVariables false
set_option linter.unusedSimpArgs false

/-- a part, and all parts -/
def partFn (n : Nat) : Value := if n = 0 then .func (.func 163) #[] #[] else if n = 1 then .func (.func 164) #[] #[] else if n = 2 then .func (.func 165) #[] #[] else if n = 3 then .func (.func 166) #[] #[] else if n = 4 then .func (.func 167) #[] #[] else .nilFunc
def partVn (n : Nat) : Value := if n = 5 then .func (.func 168) #[] #[] else if n = 6 then .func (.func 169) #[] #[] else .nilFunc
def partV (n : Nat) : Value := .agg #[partFn n, partVn n, .bool (decide (n ≤ 2))]
def partsV : Value := .agg #[partFn 0, partVn 0, .bool true, partFn 1, partVn 1, .bool true, partFn 2, partVn 2, .bool true, partFn 3, partVn 3, .bool false, partFn 4, partVn 4, .bool false, partFn 5, partVn 5, .bool false, partFn 6, partVn 6, .bool false]
theorem parts_at (n : Nat) (hn : n ≤ 6) (W : World) : (Instr.index 222 partsV (.int .i64 n)).run Try.prog W = .ok (partV n) W := by
  obtain rfl | rfl | rfl | rfl | rfl | rfl | rfl : n = 0 ∨ n = 1 ∨ n = 2 ∨ n = 3 ∨ n = 4 ∨ n = 5 ∨ n = 6 := by omega
  all_goals kernel_rfl

theorem func_ne (f : Nat) (W : World) (t : TypeId) (ht : t = 218 ∨ t = 219) : (binOp .neq t (.func (.func f) #[] #[]) Value.nilFunc).run Try.prog W = .ok (.bool true) W := by
  have h : (Op.equalIn (9999 + 1) t (.func (.func f) #[] #[]) Value.nilFunc).run Try.prog W = .ok false W := by
    unfold Op.equalIn
    rcases ht with rfl | rfl
    · simp [run_underlying Try.underlying218]
    · simp [run_underlying Try.underlying219]
  have h' : (Op.equal t (.func (.func f) #[] #[]) Value.nilFunc).run Try.prog W = .ok false W := h
  simp [binOp, go_sem, h']
theorem nil_ne (W : World) : (binOp .neq 218 Value.nilFunc Value.nilFunc).run Try.prog W = .ok (.bool false) W := by kernel_rfl

set_option maxRecDepth 100000 in
set_option maxHeartbeats 1600000 in
theorem partGet_calls (n : Nat) (hn : n ≤ 6) (b : Nat) (v : Int) (w : World) (hb : b < w.heap.size) (hc : w.cell? ⟨b, n + 1, none⟩ = some (.int .i64 v)) :
    Calls Try.prog 138 #[partV n, .pointer (some ⟨b, 0, none⟩)] w fun e w' => e = .returned (.int .i64 v) ∧ Below w.heap.size w w' := by
  have hf := fun f W => func_ne f W 218 (.inl rfl)
  have hn0 := nil_ne
  obtain rfl | rfl | rfl | rfl | rfl | rfl | rfl : n = 0 ∨ n = 1 ∨ n = 2 ∨ n = 3 ∨ n = 4 ∨ n = 5 ∨ n = 6 := by omega
  all_goals
    simp [partV, partFn, partVn] at hc ⊢
    go_enter Try.func138, Try.ntmps138
    go_wp2
    go_ret
    exact ⟨rfl, by (repeat (first | exact Below.refl _ _ | (with_reducible assumption) | refine Below.drew ?_ | refine Below.drewN' ?_ _ | refine Below.alloc ?_ (by first | omega | (simp; done) | (simp; omega)) _ | refine Below.setCell ?_ (by first | omega | (simp; done) | (simp; omega)) _ | refine Below.then ?_ hb9 (by first | omega | (simp; done) | (simp; omega)) | refine Below.then ?_ hb8 (by first | omega | (simp; done) | (simp; omega)) | refine Below.then ?_ hb7 (by first | omega | (simp; done) | (simp; omega)) | refine Below.then ?_ hb6 (by first | omega | (simp; done) | (simp; omega)) | refine Below.then ?_ hb5 (by first | omega | (simp; done) | (simp; omega)) | refine Below.then ?_ hb4 (by first | omega | (simp; done) | (simp; omega)) | refine Below.then ?_ hb3 (by first | omega | (simp; done) | (simp; omega)) | refine Below.then ?_ hb2 (by first | omega | (simp; done) | (simp; omega)) | refine Below.then ?_ hb1 (by first | omega | (simp; done) | (simp; omega))))⟩

set_option maxRecDepth 100000 in
set_option maxHeartbeats 3200000 in
theorem partSet_calls (n : Nat) (hn : n ≤ 6) (b : Nat) (u : Value) (v : Int) (w : World) (hb : b < w.heap.size) (hc : w.cell? ⟨b, n + 1, none⟩ = some u) (hz : w.frozen? ⟨b, n + 1, none⟩ = false) :
    Calls Try.prog 162 #[partV n, .pointer (some ⟨b, 0, none⟩), .int .i64 v] w fun e w' => e = .returned (.tuple #[]) ∧ ∃ o, w' = (w.setCell ⟨b, n + 1, none⟩ (.int .i64 v)).alloc o := by
  have hf := fun f W => func_ne f W 218 (.inl rfl)
  have hn0 := nil_ne
  obtain rfl | rfl | rfl | rfl | rfl | rfl | rfl : n = 0 ∨ n = 1 ∨ n = 2 ∨ n = 3 ∨ n = 4 ∨ n = 5 ∨ n = 6 := by omega
  all_goals
    simp [partV, partFn, partVn] at hc hz ⊢
    go_enter Try.func162, Try.ntmps162
    go_wp2
    first
    | (go_end0; exact ⟨rfl, _, rfl⟩)
    | (refine bodyPost_ret (results_none rfl _ _ _) rfl ?_; exact ⟨rfl, _, rfl⟩)

theorem at_store {P : Program} {ops : Array Oper} {Q : Exit → Act → World → Prop} {o : Oper} {rest : List Oper} {a : Act} {W : World} {t : TypeId} {p : Tmp} {v : Operand} (_ : o.op = .store t (.tmp p) v) (h : wpList P ops Q (o :: rest) a W) : wpList P ops Q (o :: rest) a W := h
theorem below_cellsO {B : Nat} {a : World} (b : Nat) (hb : B ≤ b) : ∀ (vs : List Value) (o : Nat) {w : World}, Below B a w → Below B a (w.setCells b o vs)
  | [], _, _, h => h
  | v :: r, o, _, h => below_cellsO b hb r (o + 1) (h.setCell (p := ⟨b, o, none⟩) hb v)
theorem there_newO (w : World) (cs : Array Value) (t : TypeId) (n : Nat) (hn : n ≤ cs.size) : (w.alloc (.cells cs t (0, 0))).there w.heap.size 0 n := by
  intro j hj
  have hb : (w.alloc (.cells cs t (0, 0))).heap[w.heap.size]? = some (.cells cs t (0, 0)) := (MapKept.heap_alloc w _).1
  constructor
  · simp only [World.cell?, hb]; simp; omega
  · simp only [World.frozen?, hb]; simp
theorem there_alloc {w : World} {b o n : Nat} (hb : b < w.heap.size) (h : w.there b o n) (x : Obj) : (w.alloc x).there b o n := by
  intro j hj
  obtain ⟨h1, h2⟩ := h j hj
  obtain ⟨c1, c2⟩ := bcell ((Below.refl w.heap.size w).alloc (Nat.le_refl _) x)
  exact ⟨by rw [c1 _ _ hb]; exact h1, by rw [c2 _ _ hb]; exact h2⟩
theorem results_cellO {P : Program} {fn : Func} {t : Tmp} {ty : TypeId} {tmps : Array Value} {w : World} {a : Addr} {v : Value} (h : fn.results = #[.cell t ty]) (hp : tmps.getD t undef = .pointer (some a))
    (hl : (loadVar ty a).run P w = .ok v w) : (results fn tmps).run P w = .ok v w := by
  simp [results, h]
  rw [Array.getD_eq_getD_getElem?] at hp
  have ha : (asAddr (.pointer (some a))).run P w = .ok a w := rfl
  simp only [hp, ha]
  exact hl

theorem info_parts : (Try.prog.info? 222).map (·.size) = some 21 := by kernel_rfl
def partsL : Array Value := #[partFn 0, partVn 0, .bool true, partFn 1, partVn 1, .bool true, partFn 2, partVn 2, .bool true, partFn 3, partVn 3, .bool false, partFn 4, partVn 4, .bool false, partFn 5, partVn 5, .bool false, partFn 6, partVn 6, .bool false]
theorem partsL_size : partsL.size = 21 := rfl
theorem partsL_one : partsL.all (·.oneCell') = true := by kernel_rfl

set_option maxRecDepth 100000 in
set_option maxHeartbeats 3200000 in
theorem parts_calls (w : World) : Calls Try.prog 137 #[] w fun e w' => e = .returned partsV ∧ Below w.heap.size w w' := by
  go_enter Try.func137, Try.ntmps137
  go_wp2_with ((with_reducible refine at_store (t := 222) (p := 0) rfl ?_); (refine wpList_store_mid ?g 222 (.tmp 0) (.tmp 8) ?ho w.heap.size 0 partsL ?hx ?hy ?ht ?hi partsL_one ?rest); (case g => rfl); (case ho => rfl); (case hx => rfl); (case hy => rfl); (case ht => (rw [partsL_size]; repeat (first | exact there_newO _ _ _ _ (by simp) | refine there_alloc (by simp; try omega) ?_ _))); (case hi => rw [info_parts, partsL_size]))
  go_wp2_with fail
  refine bodyPost_ret (v := partsV) (results_cellO (a := ⟨w.heap.size, 0, none⟩) rfl ?hp ?hl) rfl ⟨rfl, below_cellsO _ (Nat.le_refl _) _ _ ?hb⟩
  case hp => rfl
  case hb => (repeat (first | exact Below.refl _ _ | (with_reducible assumption) | refine Below.drew ?_ | refine Below.drewN' ?_ _ | refine Below.alloc ?_ (by first | omega | (simp; done) | (simp; omega)) _ | refine Below.setCell ?_ (by first | omega | (simp; done) | (simp; omega)) _ | refine Below.then ?_ hb9 (by first | omega | (simp; done) | (simp; omega)) | refine Below.then ?_ hb8 (by first | omega | (simp; done) | (simp; omega)) | refine Below.then ?_ hb7 (by first | omega | (simp; done) | (simp; omega)) | refine Below.then ?_ hb6 (by first | omega | (simp; done) | (simp; omega)) | refine Below.then ?_ hb5 (by first | omega | (simp; done) | (simp; omega)) | refine Below.then ?_ hb4 (by first | omega | (simp; done) | (simp; omega)) | refine Below.then ?_ hb3 (by first | omega | (simp; done) | (simp; omega)) | refine Below.then ?_ hb2 (by first | omega | (simp; done) | (simp; omega)) | refine Below.then ?_ hb1 (by first | omega | (simp; done) | (simp; omega))))
  case hl =>
    refine run_loadVar_mid _ _ 0 _ partsL.toList _ (World.rangeAt_setCells_same _ _ 0 partsL.toList ?ht) Try.underlying222 rfl (by rw [Array.length_toList, partsL_size, info_parts])
    rw [Array.length_toList, partsL_size]
    repeat (first | exact there_newO _ _ _ _ (by simp) | refine there_alloc (by simp; try omega) ?_ _)

end Go.Proofs.Ytafenndokmccoaa
