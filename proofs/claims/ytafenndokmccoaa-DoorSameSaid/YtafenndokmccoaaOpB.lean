/- The layer 'op': a kind's row; is an operation bare? -/
import Derived.Test.YtafenndokmccoaaOp
namespace Go.Proofs.Ytafenndokmccoaa
open Go.RowKit
set_option linter.unusedVariables false
set_option linter.unusedSimpArgs false

def nmV (l : List Nat) : List Value := l.map (fun (n : Nat) => .int .i64 (n : Int))
def OfPost (k : Int) (w : World) (e : Ending) (w' : World) : Prop :=
  ∃ a c, e = .returned (.tuple #[.agg #[.string (opName k), .slice a (opNames k).length c], .bool (opIs k)]) ∧ SlOf w' a (nmV (opNames k)) ∧ Below w.heap.size w w'
theorem row_at1 (B : Nat) (W : World) : (Instr.index 258 (.agg (opRowsV B)) (.int .i64 1)).run Try.prog W = .ok (.agg #[.string (opName 1), .slice (some ⟨B, 0, none⟩) 2 2]) W := by kernel_rfl
theorem row_at2 (B : Nat) (W : World) : (Instr.index 258 (.agg (opRowsV B)) (.int .i64 2)).run Try.prog W = .ok (.agg #[.string (opName 2), .slice (some ⟨B + 1, 0, none⟩) 3 3]) W := by kernel_rfl
theorem row_at3 (B : Nat) (W : World) : (Instr.index 258 (.agg (opRowsV B)) (.int .i64 3)).run Try.prog W = .ok (.agg #[.string (opName 3), .slice (some ⟨B + 1 + 1, 0, none⟩) 3 3]) W := by kernel_rfl
theorem row_at4 (B : Nat) (W : World) : (Instr.index 258 (.agg (opRowsV B)) (.int .i64 4)).run Try.prog W = .ok (.agg #[.string (opName 4), .slice (some ⟨B + 1 + 1 + 1, 0, none⟩) 4 4]) W := by kernel_rfl
theorem row_at5 (B : Nat) (W : World) : (Instr.index 258 (.agg (opRowsV B)) (.int .i64 5)).run Try.prog W = .ok (.agg #[.string (opName 5), .slice (some ⟨B + 1 + 1 + 1 + 1, 0, none⟩) 2 2]) W := by kernel_rfl
theorem row_at6 (B : Nat) (W : World) : (Instr.index 258 (.agg (opRowsV B)) (.int .i64 6)).run Try.prog W = .ok (.agg #[.string (opName 6), .slice (some ⟨B + 1 + 1 + 1 + 1 + 1, 0, none⟩) 3 3]) W := by kernel_rfl
theorem row_at7 (B : Nat) (W : World) : (Instr.index 258 (.agg (opRowsV B)) (.int .i64 7)).run Try.prog W = .ok (.agg #[.string (opName 7), .slice (some ⟨B + 1 + 1 + 1 + 1 + 1 + 1, 0, none⟩) 4 4]) W := by kernel_rfl
theorem row_at8 (B : Nat) (W : World) : (Instr.index 258 (.agg (opRowsV B)) (.int .i64 8)).run Try.prog W = .ok (.agg #[.string (opName 8), .slice (some ⟨B + 1 + 1 + 1 + 1 + 1 + 1 + 1, 0, none⟩) 2 2]) W := by kernel_rfl
theorem row_at9 (B : Nat) (W : World) : (Instr.index 258 (.agg (opRowsV B)) (.int .i64 9)).run Try.prog W = .ok (.agg #[.string (opName 9), .slice (some ⟨B + 1 + 1 + 1 + 1 + 1 + 1 + 1 + 1, 0, none⟩) 2 2]) W := by kernel_rfl
theorem row_at10 (B : Nat) (W : World) : (Instr.index 258 (.agg (opRowsV B)) (.int .i64 10)).run Try.prog W = .ok (.agg #[.string (opName 10), .slice (some ⟨B + 1 + 1 + 1 + 1 + 1 + 1 + 1 + 1 + 1, 0, none⟩) 1 1]) W := by kernel_rfl
theorem row_at11 (B : Nat) (W : World) : (Instr.index 258 (.agg (opRowsV B)) (.int .i64 11)).run Try.prog W = .ok (.agg #[.string (opName 11), .slice none 0 0]) W := by kernel_rfl
theorem row_at0 (B : Nat) (W : World) : (Instr.index 258 (.agg (opRowsV B)) (.int .i64 0)).run Try.prog W = .ok (.agg #[.string ⟨#[]⟩, .slice none 0 0]) W := by kernel_rfl

def RowAt (k : Int) (a : Option Addr) (n : Nat) (B : Nat) : Prop := ∀ W, (Instr.index 258 (.agg (opRowsV B)) (.int .i64 k)).run Try.prog W = .ok (.agg #[.string (opName k), .slice a n n]) W
theorem row_at (k : Int) (hk : opIs k = true) (B : Nat) (w : World) (hN : NamesAt w B) : ∃ a, RowAt k a (opNames k).length B ∧ SlOf w a (nmV (opNames k)) ∧ ∀ x, a = some x → B ≤ x.block := by
  rcases kinds_of hk with rfl | rfl | rfl | rfl | rfl | rfl | rfl | rfl | rfl | rfl | rfl
  · exact ⟨_, row_at1 B, hN.n1, fun x e => by cases e; simp; try omega⟩
  · exact ⟨_, row_at2 B, hN.n2, fun x e => by cases e; simp; try omega⟩
  · exact ⟨_, row_at3 B, hN.n3, fun x e => by cases e; simp; try omega⟩
  · exact ⟨_, row_at4 B, hN.n4, fun x e => by cases e; simp; try omega⟩
  · exact ⟨_, row_at5 B, hN.n5, fun x e => by cases e; simp; try omega⟩
  · exact ⟨_, row_at6 B, hN.n6, fun x e => by cases e; simp; try omega⟩
  · exact ⟨_, row_at7 B, hN.n7, fun x e => by cases e; simp; try omega⟩
  · exact ⟨_, row_at8 B, hN.n8, fun x e => by cases e; simp; try omega⟩
  · exact ⟨_, row_at9 B, hN.n9, fun x e => by cases e; simp; try omega⟩
  · exact ⟨_, row_at10 B, hN.n10, fun x e => by cases e; simp; try omega⟩
  · exact ⟨none, row_at11 B, .inl rfl, fun x e => by cases e⟩

theorem ofPost_no {k : Int} (hk : opIs k = false) {w w' : World} (hb : Below w.heap.size w w') : OfPost k w (.returned (.tuple #[.agg #[.string ⟨#[]⟩, .slice none 0 0], .bool false])) w' := by
  have b1 : k ≤ 0 ∨ 11 < k := by unfold opIs at hk; simp only [decide_eq_false_iff_not] at hk; omega
  have e1 : opName k = ⟨#[]⟩ := by unfold opName; repeat (rw [if_neg (by omega)])
  have e2 : opNames k = [] := by unfold opNames; repeat (rw [if_neg (by omega)])
  unfold OfPost
  rw [e1, e2, hk]
  exact ⟨none, 0, rfl, .inl rfl, hb⟩
theorem SlOf.setCell {w : World} {a : Option Addr} {vs : List Value} (h : SlOf w a vs) (p : Addr) (u : Value) (hp : ∀ x, a = some x → x.block ≠ p.block) : SlOf (w.setCell p u) a vs := by
  rcases h with h | ⟨b, o, rfl, hlt, hc⟩
  · exact .inl h
  · exact .inr ⟨_, _, rfl, by rw [World.size_setCell]; exact hlt, fun i hi => (World.cell?_setCell_other _ _ _ _ (by intro e; exact hp _ rfl (congrArg Addr.block e).symm)).trans (hc i hi)⟩

set_option maxRecDepth 100000 in
set_option maxHeartbeats 3200000 in
theorem opOf_calls (k : Int) (w : World) : Calls Try.prog 161 #[.int .i64 k] w (OfPost k w) := by
  cases hk : opIs k with
  | true =>
    have b1 : ¬ k ≤ 0 := by unfold opIs at hk; simp only [decide_eq_true_eq] at hk; omega
    have b2 : ¬ 11 < k := by unfold opIs at hk; simp only [decide_eq_true_eq] at hk; omega
    have hr := fun B w hN => row_at k hk B w hN
    have HK := Lib.hid hk
    have HR := Lib.hid hr
    clear hr hk
    go_enter Try.func161, Try.ntmps161
    go_wp2_with fail
    refine (opRows_calls _).mono ?_
    rintro e1 w1 ⟨rfl, hb1, hN⟩
    obtain ⟨a, hrow, hs, hne⟩ := HR.out _ _ hN
    unfold RowAt at hrow
    simp only [World.size_alloc] at hrow hne
    have HS := Lib.hid hs
    have HE := Lib.hid hne
    obtain ⟨hc1, hf1⟩ := bcell hb1
    have hz1 := hb1.size
    simp at hz1
    have q0 := hc1 w.heap.size 0 (by simp)
    have q1 := hc1 w.heap.size 1 (by simp)
    have f0 := hf1 w.heap.size 0 (by simp)
    have f1 := hf1 w.heap.size 1 (by simp)
    simp [go_sem] at q0 q1 f0 f1
    clear hs hN hne hc1 hf1
    go_wp2
    refine bodyPost_ret (v := .tuple #[.agg #[.string (opName k), .slice a (opNames k).length (opNames k).length], .bool true]) (by simp [results, Try.results161, go_sem, q0, q1, cell_off, cell_put]) rfl ⟨a, _, by rw [HK.out], ?_, ?_⟩
    · exact (HS.out.setCell _ _ (fun x hx => by have := HE.out x hx; simp; omega)).setCell _ _ (fun x hx => by have := HE.out x hx; simp; omega)
    · (repeat (first | exact Below.refl _ _ | (with_reducible assumption) | refine Below.drew ?_ | refine Below.drewN' ?_ _ | refine Below.alloc ?_ (by first | omega | (simp; done) | (simp; omega)) _ | refine Below.setCell ?_ (by first | omega | (simp; done) | (simp; omega)) _ | refine Below.then ?_ hb9 (by first | omega | (simp; done) | (simp; omega)) | refine Below.then ?_ hb8 (by first | omega | (simp; done) | (simp; omega)) | refine Below.then ?_ hb7 (by first | omega | (simp; done) | (simp; omega)) | refine Below.then ?_ hb6 (by first | omega | (simp; done) | (simp; omega)) | refine Below.then ?_ hb5 (by first | omega | (simp; done) | (simp; omega)) | refine Below.then ?_ hb4 (by first | omega | (simp; done) | (simp; omega)) | refine Below.then ?_ hb3 (by first | omega | (simp; done) | (simp; omega)) | refine Below.then ?_ hb2 (by first | omega | (simp; done) | (simp; omega)) | refine Below.then ?_ hb1 (by first | omega | (simp; done) | (simp; omega))))
  | false =>
    have b1 : k ≤ 0 ∨ 11 < k := by unfold opIs at hk; simp only [decide_eq_false_iff_not] at hk; omega
    have HN := Lib.hid (fun w w' hb => ofPost_no hk (w := w) (w' := w') hb)
    clear hk
    rcases b1 with b1 | b1
    · go_enter Try.func161, Try.ntmps161
      go_wp2
      exact bodyPost_ret (v := .tuple #[.agg #[.string ⟨#[]⟩, .slice none 0 0], .bool false]) (by simp [results, Try.results161, go_sem]) rfl (HN.out _ _ (by (repeat (first | exact Below.refl _ _ | (with_reducible assumption) | refine Below.drew ?_ | refine Below.drewN' ?_ _ | refine Below.alloc ?_ (by first | omega | (simp; done) | (simp; omega)) _ | refine Below.setCell ?_ (by first | omega | (simp; done) | (simp; omega)) _ | refine Below.then ?_ hb9 (by first | omega | (simp; done) | (simp; omega)) | refine Below.then ?_ hb8 (by first | omega | (simp; done) | (simp; omega)) | refine Below.then ?_ hb7 (by first | omega | (simp; done) | (simp; omega)) | refine Below.then ?_ hb6 (by first | omega | (simp; done) | (simp; omega)) | refine Below.then ?_ hb5 (by first | omega | (simp; done) | (simp; omega)) | refine Below.then ?_ hb4 (by first | omega | (simp; done) | (simp; omega)) | refine Below.then ?_ hb3 (by first | omega | (simp; done) | (simp; omega)) | refine Below.then ?_ hb2 (by first | omega | (simp; done) | (simp; omega)) | refine Below.then ?_ hb1 (by first | omega | (simp; done) | (simp; omega))))))
    · have b2 : ¬ k ≤ 0 := by omega
      go_enter Try.func161, Try.ntmps161
      go_wp2
      exact bodyPost_ret (v := .tuple #[.agg #[.string ⟨#[]⟩, .slice none 0 0], .bool false]) (by simp [results, Try.results161, go_sem]) rfl (HN.out _ _ (by (repeat (first | exact Below.refl _ _ | (with_reducible assumption) | refine Below.drew ?_ | refine Below.drewN' ?_ _ | refine Below.alloc ?_ (by first | omega | (simp; done) | (simp; omega)) _ | refine Below.setCell ?_ (by first | omega | (simp; done) | (simp; omega)) _ | refine Below.then ?_ hb9 (by first | omega | (simp; done) | (simp; omega)) | refine Below.then ?_ hb8 (by first | omega | (simp; done) | (simp; omega)) | refine Below.then ?_ hb7 (by first | omega | (simp; done) | (simp; omega)) | refine Below.then ?_ hb6 (by first | omega | (simp; done) | (simp; omega)) | refine Below.then ?_ hb5 (by first | omega | (simp; done) | (simp; omega)) | refine Below.then ?_ hb4 (by first | omega | (simp; done) | (simp; omega)) | refine Below.then ?_ hb3 (by first | omega | (simp; done) | (simp; omega)) | refine Below.then ?_ hb2 (by first | omega | (simp; done) | (simp; omega)) | refine Below.then ?_ hb1 (by first | omega | (simp; done) | (simp; omega))))))

def opVal (o : OpN) : Value := .agg #[.int .i64 o.k, .int .i64 o.a, .int .i64 o.b, .int .i64 o.c, .int .i64 o.f, .int .i64 o.s, .int .i64 o.x, .int .i64 o.y]
/-- a block's eight cells -/
structure OpAt (w : World) (b : Nat) (o : OpN) : Prop where
  lt : b < w.heap.size
  c0 : w.cell? ⟨b, 0, none⟩ = some (.int .i64 o.k)
  c1 : w.cell? ⟨b, 1, none⟩ = some (.int .i64 o.a)
  c2 : w.cell? ⟨b, 2, none⟩ = some (.int .i64 o.b)
  c3 : w.cell? ⟨b, 3, none⟩ = some (.int .i64 o.c)
  c4 : w.cell? ⟨b, 4, none⟩ = some (.int .i64 o.f)
  c5 : w.cell? ⟨b, 5, none⟩ = some (.int .i64 o.s)
  c6 : w.cell? ⟨b, 6, none⟩ = some (.int .i64 o.x)
  c7 : w.cell? ⟨b, 7, none⟩ = some (.int .i64 o.y)
  fz : ∀ i, w.frozen? ⟨b, i, none⟩ = false
theorem OpAt.below {w w' : World} {b : Nat} {o : OpN} (h : OpAt w b o) (hb : Below w.heap.size w w') : OpAt w' b o := by
  obtain ⟨hc, hf⟩ := bcell hb
  exact ⟨Nat.lt_of_lt_of_le h.lt hb.size, (hc _ _ h.lt).trans h.c0, (hc _ _ h.lt).trans h.c1, (hc _ _ h.lt).trans h.c2, (hc _ _ h.lt).trans h.c3, (hc _ _ h.lt).trans h.c4, (hc _ _ h.lt).trans h.c5, (hc _ _ h.lt).trans h.c6, (hc _ _ h.lt).trans h.c7, fun i => (hf _ _ h.lt).trans (h.fz i)⟩
theorem OpAt.alloc {w : World} {b : Nat} {o : OpN} (h : OpAt w b o) (x : Obj) : OpAt (w.alloc x) b o := h.below ((Below.refl _ _).alloc (Nat.le_refl _) _)
theorem OpAt.drew {w : World} {b : Nat} {o : OpN} (h : OpAt w b o) : OpAt w.drew b o := h.below (Below.refl _ _).drew
theorem OpAt.new (w : World) (o : OpN) (t : TypeId) (b : Nat) (hb : b = w.heap.size) : OpAt (w.alloc (.cells #[.int .i64 o.k, .int .i64 o.a, .int .i64 o.b, .int .i64 o.c, .int .i64 o.f, .int .i64 o.s, .int .i64 o.x, .int .i64 o.y] t)) b o := by
  subst hb
  exact ⟨by simp, by simp [go_sem], by simp [go_sem], by simp [go_sem], by simp [go_sem], by simp [go_sem], by simp [go_sem], by simp [go_sem], by simp [go_sem], fun i => by simp [go_sem]⟩
theorem OpAt.at {w : World} {b : Nat} {o : OpN} (h : OpAt w b o) (n : Nat) (hn : n ≤ 6) : w.cell? ⟨b, n + 1, none⟩ = some (.int .i64 (o.get n)) := by
  obtain rfl | rfl | rfl | rfl | rfl | rfl | rfl : n = 0 ∨ n = 1 ∨ n = 2 ∨ n = 3 ∨ n = 4 ∨ n = 5 ∨ n = 6 := by omega
  · exact h.c1
  · exact h.c2
  · exact h.c3
  · exact h.c4
  · exact h.c5
  · exact h.c6
  · exact h.c7
theorem OpAt.put {w : World} {b : Nat} {o : OpN} (h : OpAt w b o) (n : Nat) (hn : n ≤ 6) (v : Int) : OpAt (w.setCell ⟨b, n + 1, none⟩ (.int .i64 v)) b (o.set n v) := by
  have hs : ∀ i u, w.cell? ⟨b, i, none⟩ = some u → (w.setCell ⟨b, i, none⟩ (.int .i64 v)).cell? ⟨b, i, none⟩ = some (.int .i64 v) := fun i u hu => cell_put _ _ _ (by rw [hu]; rfl)
  have ho : ∀ i j, i ≠ j → (w.setCell ⟨b, i, none⟩ (.int .i64 v)).cell? ⟨b, j, none⟩ = w.cell? ⟨b, j, none⟩ := fun i j hij => cell_off _ _ _ _ _ hij
  have hf : ∀ i, (w.setCell ⟨b, n + 1, none⟩ (.int .i64 v)).frozen? ⟨b, i, none⟩ = false := fun i => by rw [World.frozen?_setCell]; exact h.fz i
  have hl : b < (w.setCell ⟨b, n + 1, none⟩ (.int .i64 v)).heap.size := by rw [World.size_setCell]; exact h.lt
  obtain rfl | rfl | rfl | rfl | rfl | rfl | rfl : n = 0 ∨ n = 1 ∨ n = 2 ∨ n = 3 ∨ n = 4 ∨ n = 5 ∨ n = 6 := by omega
  · exact ⟨hl, (ho _ _ (by decide)).trans h.c0, hs _ _ h.c1, (ho _ _ (by decide)).trans h.c2, (ho _ _ (by decide)).trans h.c3, (ho _ _ (by decide)).trans h.c4, (ho _ _ (by decide)).trans h.c5, (ho _ _ (by decide)).trans h.c6, (ho _ _ (by decide)).trans h.c7, hf⟩
  · exact ⟨hl, (ho _ _ (by decide)).trans h.c0, (ho _ _ (by decide)).trans h.c1, hs _ _ h.c2, (ho _ _ (by decide)).trans h.c3, (ho _ _ (by decide)).trans h.c4, (ho _ _ (by decide)).trans h.c5, (ho _ _ (by decide)).trans h.c6, (ho _ _ (by decide)).trans h.c7, hf⟩
  · exact ⟨hl, (ho _ _ (by decide)).trans h.c0, (ho _ _ (by decide)).trans h.c1, (ho _ _ (by decide)).trans h.c2, hs _ _ h.c3, (ho _ _ (by decide)).trans h.c4, (ho _ _ (by decide)).trans h.c5, (ho _ _ (by decide)).trans h.c6, (ho _ _ (by decide)).trans h.c7, hf⟩
  · exact ⟨hl, (ho _ _ (by decide)).trans h.c0, (ho _ _ (by decide)).trans h.c1, (ho _ _ (by decide)).trans h.c2, (ho _ _ (by decide)).trans h.c3, hs _ _ h.c4, (ho _ _ (by decide)).trans h.c5, (ho _ _ (by decide)).trans h.c6, (ho _ _ (by decide)).trans h.c7, hf⟩
  · exact ⟨hl, (ho _ _ (by decide)).trans h.c0, (ho _ _ (by decide)).trans h.c1, (ho _ _ (by decide)).trans h.c2, (ho _ _ (by decide)).trans h.c3, (ho _ _ (by decide)).trans h.c4, hs _ _ h.c5, (ho _ _ (by decide)).trans h.c6, (ho _ _ (by decide)).trans h.c7, hf⟩
  · exact ⟨hl, (ho _ _ (by decide)).trans h.c0, (ho _ _ (by decide)).trans h.c1, (ho _ _ (by decide)).trans h.c2, (ho _ _ (by decide)).trans h.c3, (ho _ _ (by decide)).trans h.c4, (ho _ _ (by decide)).trans h.c5, hs _ _ h.c6, (ho _ _ (by decide)).trans h.c7, hf⟩
  · exact ⟨hl, (ho _ _ (by decide)).trans h.c0, (ho _ _ (by decide)).trans h.c1, (ho _ _ (by decide)).trans h.c2, (ho _ _ (by decide)).trans h.c3, (ho _ _ (by decide)).trans h.c4, (ho _ _ (by decide)).trans h.c5, (ho _ _ (by decide)).trans h.c6, hs _ _ h.c7, hf⟩
theorem OpAt.setOther {w : World} {b : Nat} {o : OpN} (h : OpAt w b o) (p : Addr) (u : Value) (hp : p.block ≠ b) : OpAt (w.setCell p u) b o := by
  have ho : ∀ j, (w.setCell p u).cell? ⟨b, j, none⟩ = w.cell? ⟨b, j, none⟩ := fun j => World.cell?_setCell_other _ _ _ _ (by intro e; exact hp (congrArg Addr.block e))
  exact ⟨by rw [World.size_setCell]; exact h.lt, (ho _).trans h.c0, (ho _).trans h.c1, (ho _).trans h.c2, (ho _).trans h.c3, (ho _).trans h.c4, (ho _).trans h.c5, (ho _).trans h.c6, (ho _).trans h.c7, fun i => by rw [World.frozen?_setCell]; exact h.fz i⟩

def bareTo (o : OpN) (j : Nat) : OpN := ((opNames o.k).take j).foldl (fun p n => p.set n 0) o
theorem bareTo_succ (o : OpN) (j : Nat) (h : j < (opNames o.k).length) : bareTo o (j + 1) = (bareTo o j).set (opNames o.k)[j] 0 := by
  unfold bareTo
  rw [List.take_succ_eq_append_getElem h, List.foldl_append]
  rfl
theorem bareTo_all (o : OpN) : bareTo o (opNames o.k).length = bareOf o := by unfold bareTo bareOf; rw [List.take_of_length_le (Nat.le_refl _)]
theorem nmV_len (l : List Nat) : (nmV l).length = l.length := by simp [nmV]
theorem nmV_get (l : List Nat) (j : Nat) (h : j < l.length) : (nmV l)[j]'(by rw [nmV_len]; exact h) = .int .i64 (l[j] : Nat) := by simp [nmV]
theorem names_len (k : Int) : (opNames k).length ≤ 4 := by
  unfold opNames
  repeat' split
  all_goals simp

set_option maxRecDepth 100000 in
set_option maxHeartbeats 3200000 in
theorem bare_calls (o : OpN) (w : World) : Calls Try.prog 136 #[opVal o] w fun e w' => e = .returned (.bool (bareB o)) ∧ Below w.heap.size w w' := by
  unfold opVal
  cases hk : opIs o.k with
  | false =>
    have e1 : bareB o = false := by unfold bareB; rw [hk]; rfl
    have hof := fun W => opOf_calls o.k W
    unfold OfPost at hof
    rw [hk] at hof
    rw [e1]
    have HO := Lib.hid hof
    clear hof hk e1
    go_enter Try.func136, Try.ntmps136
    go_wp2_with fail
    refine (HO.out _).mono ?_
    rintro e1 w1 ⟨a, c, rfl, hs, hb1⟩
    obtain ⟨hc1, hf1⟩ := bcell hb1
    have hz1 := hb1.size
    simp at hz1
    clear hs
    go_wp2
    go_ret
    exact ⟨rfl, by (repeat (first | exact Below.refl _ _ | (with_reducible assumption) | refine Below.drew ?_ | refine Below.drewN' ?_ _ | refine Below.alloc ?_ (by first | omega | (simp; done) | (simp; omega)) _ | refine Below.setCell ?_ (by first | omega | (simp; done) | (simp; omega)) _ | refine Below.then ?_ hb9 (by first | omega | (simp; done) | (simp; omega)) | refine Below.then ?_ hb8 (by first | omega | (simp; done) | (simp; omega)) | refine Below.then ?_ hb7 (by first | omega | (simp; done) | (simp; omega)) | refine Below.then ?_ hb6 (by first | omega | (simp; done) | (simp; omega)) | refine Below.then ?_ hb5 (by first | omega | (simp; done) | (simp; omega)) | refine Below.then ?_ hb4 (by first | omega | (simp; done) | (simp; omega)) | refine Below.then ?_ hb3 (by first | omega | (simp; done) | (simp; omega)) | refine Below.then ?_ hb2 (by first | omega | (simp; done) | (simp; omega)) | refine Below.then ?_ hb1 (by first | omega | (simp; done) | (simp; omega))))⟩
  | true =>
    have hof := fun W => opOf_calls o.k W
    unfold OfPost at hof
    rw [hk] at hof
    have HO := Lib.hid hof
    have HK := Lib.hid hk
    have hnl := names_len o.k
    clear hof hk
    go_enter Try.func136, Try.ntmps136
    go_wp2_with fail
    refine (HO.out _).mono ?_
    rintro e1 w1 ⟨a, c, rfl, hs, hb1⟩
    have O0 := (OpAt.new w o 93 _ rfl).below hb1
    have HS := Lib.hid hs
    have hz1 := hb1.size
    simp at hz1
    obtain ⟨q1, q2, q3, q4, q5, q6, q7, q8, q9, qf⟩ := O0
    have O0 := Lib.hid (OpAt.mk q1 q2 q3 q4 q5 q6 q7 q8 q9 qf)
    clear hs
    go_wp2_with fail
    go_loopw [21] (fun i wr => ∃ j : Nat, j ≤ (opNames o.k).length ∧ i = .int .i64 j ∧ Below w1.heap.size w1 wr ∧ OpAt wr (w1.heap.size + 1) (bareTo o j)) (fun i _ => (opNames o.k).length - (intOf i).toNat)
    case atStart => exact ⟨0, Nat.zero_le _, rfl, by (repeat (first | exact Below.refl _ _ | (with_reducible assumption) | refine Below.drew ?_ | refine Below.drewN' ?_ _ | refine Below.alloc ?_ (by first | omega | (simp; done) | (simp; omega)) _ | refine Below.setCell ?_ (by first | omega | (simp; done) | (simp; omega)) _ | refine Below.then ?_ hb9 (by first | omega | (simp; done) | (simp; omega)) | refine Below.then ?_ hb8 (by first | omega | (simp; done) | (simp; omega)) | refine Below.then ?_ hb7 (by first | omega | (simp; done) | (simp; omega)) | refine Below.then ?_ hb6 (by first | omega | (simp; done) | (simp; omega)) | refine Below.then ?_ hb5 (by first | omega | (simp; done) | (simp; omega)) | refine Below.then ?_ hb4 (by first | omega | (simp; done) | (simp; omega)) | refine Below.then ?_ hb3 (by first | omega | (simp; done) | (simp; omega)) | refine Below.then ?_ hb2 (by first | omega | (simp; done) | (simp; omega)) | refine Below.then ?_ hb1 (by first | omega | (simp; done) | (simp; omega)))), OpAt.new _ o 227 _ (by simp)⟩
    case round =>
      obtain ⟨j, hj, rfl, hb9, hat⟩ := hrel
      have hzB := hb9.size
      have O1 := O0.out.below hb9
      obtain ⟨p1, p2, p3, p4, p5, p6, p7, p8, p9, pf⟩ := O1
      by_cases hlt : j < (opNames o.k).length
      · rcases HS.out.below hb9 with h0 | ⟨b, off, rfl, hbl, hcell⟩
        · have := congrArg List.length h0; rw [nmV_len, List.length_nil] at this; omega
        have hcx := hcell j (by rw [nmV_len]; exact hlt)
        rw [nmV_get _ j hlt] at hcx
        have hn6 : (opNames o.k)[j] ≤ 6 := names_le o.k _ (List.getElem_mem hlt)
        have HT := Lib.hid (bareTo_succ o j hlt)
        obtain ⟨n, hn⟩ : ∃ n, (opNames o.k)[j] = n := ⟨_, rfl⟩
        rw [hn] at hcx hn6 HT
        have hpt := fun W => parts_at n hn6 W
        have HA := Lib.hid hat
        clear hcell hn hat p1 p2 p3 p4 p5 p6 p7 p8 p9 pf q1 q2 q3 q4 q5 q6 q7 q8 q9 qf
        go_wp2_with fail
        refine (parts_calls _).mono ?_; rintro e2 w2 ⟨rfl, hb2⟩; have hz2 := hb2.size; (try simp at hz2)
        have A2 := HA.out.below hb2
        go_wp2_with fail
        refine (partSet_calls n hn6 (w1.heap.size + 1) _ 0 _ A2.lt (A2.at n hn6) (A2.fz _)).mono ?_
        rintro e3 w3 ⟨rfl, x3, rfl⟩
        have A3 := (A2.put n hn6 0).alloc x3
        rw [← HT.out] at A3
        go_wp2
        go_roundw
        case rel => exact ⟨j + 1, by omega, by go_num, by (repeat (first | exact Below.refl _ _ | (with_reducible assumption) | refine Below.drew ?_ | refine Below.drewN' ?_ _ | refine Below.alloc ?_ (by first | omega | (simp; done) | (simp; omega)) _ | refine Below.setCell ?_ (by first | omega | (simp; done) | (simp; omega)) _ | refine Below.then ?_ hb9 (by first | omega | (simp; done) | (simp; omega)) | refine Below.then ?_ hb8 (by first | omega | (simp; done) | (simp; omega)) | refine Below.then ?_ hb7 (by first | omega | (simp; done) | (simp; omega)) | refine Below.then ?_ hb6 (by first | omega | (simp; done) | (simp; omega)) | refine Below.then ?_ hb5 (by first | omega | (simp; done) | (simp; omega)) | refine Below.then ?_ hb4 (by first | omega | (simp; done) | (simp; omega)) | refine Below.then ?_ hb3 (by first | omega | (simp; done) | (simp; omega)) | refine Below.then ?_ hb2 (by first | omega | (simp; done) | (simp; omega)) | refine Below.then ?_ hb1 (by first | omega | (simp; done) | (simp; omega)))), A3⟩
        case measure => simp [intOf]; omega
      · obtain rfl : j = (opNames o.k).length := by omega
        rw [bareTo_all] at hat
        have hbk := bareOf_k o
        obtain ⟨z, hz⟩ : ∃ z, bareOf o = z := ⟨_, rfl⟩
        have hbz : bareB o = zeroB z := by unfold bareB; rw [HK.out, hz]; rfl
        rw [hz] at hat hbk
        obtain ⟨r1, r2, r3, r4, r5, r6, r7, r8, r9, rf⟩ := hat
        rw [hbk] at r2
        have HZ := Lib.hid hbz
        clear hz hbk hbz q1 q2 q3 q4 q5 q6 q7 q8 q9 qf
        go_wp2
        all_goals
          go_ret
          exact ⟨by rw [HZ.out]; simp [zeroB, *], by (repeat (first | exact Below.refl _ _ | (with_reducible assumption) | refine Below.drew ?_ | refine Below.drewN' ?_ _ | refine Below.alloc ?_ (by first | omega | (simp; done) | (simp; omega)) _ | refine Below.setCell ?_ (by first | omega | (simp; done) | (simp; omega)) _ | refine Below.then ?_ hb9 (by first | omega | (simp; done) | (simp; omega)) | refine Below.then ?_ hb8 (by first | omega | (simp; done) | (simp; omega)) | refine Below.then ?_ hb7 (by first | omega | (simp; done) | (simp; omega)) | refine Below.then ?_ hb6 (by first | omega | (simp; done) | (simp; omega)) | refine Below.then ?_ hb5 (by first | omega | (simp; done) | (simp; omega)) | refine Below.then ?_ hb4 (by first | omega | (simp; done) | (simp; omega)) | refine Below.then ?_ hb3 (by first | omega | (simp; done) | (simp; omega)) | refine Below.then ?_ hb2 (by first | omega | (simp; done) | (simp; omega)) | refine Below.then ?_ hb1 (by first | omega | (simp; done) | (simp; omega))))⟩

end Go.Proofs.Ytafenndokmccoaa
