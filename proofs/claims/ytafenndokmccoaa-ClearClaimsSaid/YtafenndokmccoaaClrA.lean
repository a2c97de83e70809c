/- The layer 'wipe': its machine in memory; what it tells, step by step. -/
import Derived.Test.YtafenndokmccoaaClrP
import Derived.Test.YtafenndokmccoaaLay2
import Derived.Test.YtafenndokmccoaaArDo
import Derived.Deep.RegionHeld3
namespace Go.Proofs.Ytafenndokmccoaa
open Go.RowKit
set_option linter.unusedVariables false
set_option linter.unusedSimpArgs false

def mcA (P : CPar) (a : Option Addr) (c : Nat) (nx la : Value) (ov : Bool) (er : Int) : Array Value :=
  #[.int .i64 P.t, .int .i64 P.sp, .slice a P.ss.length c, .int .i64 P.fr, .int .i64 P.hi, .int .i64 (cBase P P.fr), .int .i64 (cBase P (1 - P.fr)), nx, la, .bool ov, .int .i64 er]
abbrev MB (W : World) (p : Nat) (P : CPar) (a : Option Addr) (c : Nat) (nx la : Value) (ov : Bool) (er : Int) : Prop := W.heap[p]? = some (.cells (mcA P a c nx la ov er) 74 (0, 0))
def PtO (p : Nat) : Obj := .cells #[.pointer (some ⟨p, 0, none⟩)] 37 (0, 0)
def InO (x : Int) : Obj := .cells #[.int .i64 x] 3 (0, 0)
def WdO (x : Int) : Obj := .cells #[.int .u64 x] 41 (0, 0)
def FnO (f : Value) : Obj := .cells #[f] 179 (0, 0)
def FeO (f : Value) : Obj := .cells #[f] 230 (0, 0)
def nxBegin (p : Nat) : Value := .func (.func 51) #[.pointer (some ⟨p, 0, none⟩)] #[]
def nxTurn (p : Nat) : Value := .func (.func 124) #[.pointer (some ⟨p, 0, none⟩)] #[]
def fnWalk1 (pm pa : Nat) : Value := .func (.func 105) #[] #[.pointer (some ⟨pm, 0, none⟩), .pointer (some ⟨pa, 0, none⟩)]
def fnStore1 (po : Nat) : Value := .func (.func 128) #[] #[.pointer (some ⟨po, 0, none⟩)]
def fnWalk11 (pm pa pn : Nat) : Value := .func (.func 109) #[] #[.pointer (some ⟨pm, 0, none⟩), .pointer (some ⟨pa, 0, none⟩), .pointer (some ⟨pn, 0, none⟩)]
def fnWipe1 (pm pa : Nat) : Value := .func (.func 125) #[] #[.pointer (some ⟨pm, 0, none⟩), .pointer (some ⟨pa, 0, none⟩)]
def fnTurn1 (pm : Nat) : Value := .func (.func 140) #[] #[.pointer (some ⟨pm, 0, none⟩)]
def fnTurn2 (pw pe pm : Nat) : Value := .func (.func 144) #[] #[.pointer (some ⟨pw, 0, none⟩), .pointer (some ⟨pe, 0, none⟩), .pointer (some ⟨pm, 0, none⟩)]

theorem three_alloc (w : World) (o1 o2 o3 : Obj) : (((w.alloc o1).alloc o2).alloc o3).heap[w.heap.size]? = some o1 ∧ (((w.alloc o1).alloc o2).alloc o3).heap[w.heap.size + 1]? = some o2 ∧ (((w.alloc o1).alloc o2).alloc o3).heap[w.heap.size + 2]? = some o3 := by
  refine ⟨blk_alloc (blk_alloc (MapKept.heap_alloc w _).1 _) _, blk_alloc (two_alloc w _ _) _, ?_⟩
  have := two_alloc (w.alloc o1) o2 o3
  rw [show (w.alloc o1).heap.size = w.heap.size + 1 by simp] at this
  exact this

/-- a block that a closure has: it is one of its own, no machine, no row -/
structure Cb (W : World) (D : Nat → Prop) (p : Nat) (ro : Option Nat) (k : Nat) (o : Obj) : Prop where
  d : D k
  np : k ≠ p
  nr : ro ≠ some k
  blk : W.heap[k]? = some o
theorem Cb.only {W W' : World} {D S : Nat → Prop} {p : Nat} {ro : Option Nat} {k : Nat} {o : Obj} (h : Cb W D p ro k o) (hb : Only S W W') (hs : k ≠ p → ro ≠ some k → D k → ¬ S k) : Cb W' D p ro k o :=
  ⟨h.d, h.np, h.nr, hb.blk (hs h.np h.nr h.d) h.blk⟩
theorem Cb.mono {W : World} {D E : Nat → Prop} {p : Nat} {ro : Option Nat} {k : Nat} {o : Obj} (h : Cb W D p ro k o) (hE : ∀ k, k < W.heap.size → D k → E k) : Cb W E p ro k o := ⟨hE k (blk_lt h.blk) h.d, h.np, h.nr, h.blk⟩

/-- the function that goes on, at each place -/
def NxP (W : World) (D : Nat → Prop) (p : Nat) (ro : Option Nat) (s : CSt) (nx : Value) : Prop :=
  match s.pl with
  | 0 => nx = nxBegin p
  | 1 => ∃ pm pa, nx = fnWalk1 pm pa ∧ Cb W D p ro pm (PtO p) ∧ Cb W D p ro pa (InO s.at_)
  | 2 => ∃ po pm pa pn x n, nx = fnStore1 po ∧ Cb W D p ro po (FnO (fnWalk11 pm pa pn)) ∧ Cb W D p ro pm (PtO p) ∧ Cb W D p ro pa (InO x) ∧ Cb W D p ro pn (InO n) ∧ x + n = s.at_
  | 3 => ∃ po pm pa x, nx = fnStore1 po ∧ Cb W D p ro po (FnO (fnWipe1 pm pa)) ∧ Cb W D p ro pm (PtO p) ∧ Cb W D p ro pa (InO x) ∧ x + 1 = s.at_
  | 4 => nx = nxTurn p
  | 5 => ∃ pw pe pm, nx = fnTurn2 pw pe pm ∧ Cb W D p ro pw (WdO s.was) ∧ Cb W D p ro pe (FeO (fnTurn1 pm)) ∧ Cb W D p ro pm (PtO p)
  | _ => nx = .nilFunc
theorem NxP.map {W W' : World} {D E : Nat → Prop} {p : Nat} {ro ro' : Option Nat} {s : CSt} {nx : Value} (h : NxP W D p ro s nx) (hc : ∀ k o, Cb W D p ro k o → Cb W' E p ro' k o) : NxP W' E p ro' s nx := by
  obtain ⟨pl, at_, was, err⟩ := s
  unfold NxP at h ⊢
  match pl with
  | 0 => exact h
  | 1 => obtain ⟨pm, pa, h1, h2, h3⟩ := h; exact ⟨pm, pa, h1, hc _ _ h2, hc _ _ h3⟩
  | 2 => obtain ⟨po, pm, pa, pn, x, n, h1, h2, h3, h4, h5, h6⟩ := h; exact ⟨po, pm, pa, pn, x, n, h1, hc _ _ h2, hc _ _ h3, hc _ _ h4, hc _ _ h5, h6⟩
  | 3 => obtain ⟨po, pm, pa, x, h1, h2, h3, h4, h6⟩ := h; exact ⟨po, pm, pa, x, h1, hc _ _ h2, hc _ _ h3, hc _ _ h4, h6⟩
  | 4 => exact h
  | 5 => obtain ⟨pw, pe, pm, h1, h2, h3, h4⟩ := h; exact ⟨pw, pe, pm, h1, hc _ _ h2, hc _ _ h3, hc _ _ h4⟩
  | _ + 6 => exact h
theorem NxP.only {W W' : World} {D S : Nat → Prop} {p : Nat} {ro : Option Nat} {s : CSt} {nx : Value} (h : NxP W D p ro s nx) (hb : Only S W W') (hs : ∀ k, k ≠ p → ro ≠ some k → D k → ¬ S k) : NxP W' D p ro s nx :=
  h.map fun k _ c => c.only hb (hs k)
theorem NxP.mono {W : World} {D E : Nat → Prop} {p : Nat} {ro : Option Nat} {s : CSt} {nx : Value} (h : NxP W D p ro s nx) (hE : ∀ k, k < W.heap.size → D k → E k) : NxP W E p ro s nx :=
  h.map fun _ _ c => c.mono hE

/-- what a step leaves: the machine's block, the function that goes on; nothing else was written -/
def StTail (D : Nat → Prop) (p : Nat) (ro : Option Nat) (P : CPar) (a : Option Addr) (c : Nat) (la : Value) (w : World) (st : CSt) (w' : World) : Prop :=
  Only (· = p) w w' ∧ ∃ nx', MB w' p P a c nx' la (st.pl == 6) st.err ∧ NxP w' (fun k => D k ∨ w.heap.size ≤ k) p ro st nx'
def StPost (D : Nat → Prop) (p : Nat) (ro : Option Nat) (P : CPar) (a : Option Addr) (c : Nat) (la : Value) (w : World) (r : CRes) (e : Ending) (w' : World) : Prop :=
  e = .returned (.tuple #[accV r.k r.a r.o r.n, .bool r.is]) ∧ StTail D p ro P a c la w r.st w'
theorem StTail.back {D : Nat → Prop} {p : Nat} {ro : Option Nat} {P : CPar} {a : Option Addr} {c : Nat} {la : Value} {w w0 w' : World} {st : CSt} (h : StTail D p ro P a c la w0 st w') (hb : Below w.heap.size w w0) : StTail D p ro P a c la w st w' := by
  obtain ⟨h1, nx', h2, h3⟩ := h
  refine ⟨(Only.of hb).trans h1, nx', h2, h3.mono fun k _ hk => ?_⟩
  rcases hk with hk | hk
  · exact .inl hk
  · exact .inr (Nat.le_trans hb.size hk)
/-- a store into a block that is new, and not one of the closure's -/
theorem StTail.off {D : Nat → Prop} {p : Nat} {ro : Option Nat} {P : CPar} {a : Option Addr} {c : Nat} {la : Value} {w w0 w' : World} {st : CSt} (h : StTail D p ro P a c la w0 st w') (hb : Below w.heap.size w w0) (hD : ∀ k, D k → k < w.heap.size) (hp : p < w.heap.size) {R : Nat} (h0 : w.heap.size ≤ R) (h1 : R < w0.heap.size) (v0 v1 v2 v3 : Value) :
    StTail D p ro P a c la w st ((((w'.setCell ⟨R, 0, none⟩ v0).setCell ⟨R, 1, none⟩ v1).setCell ⟨R, 2, none⟩ v2).setCell ⟨R, 3, none⟩ v3) := by
  obtain ⟨k1, nx', k2, k3⟩ := h
  have hne : p ≠ R := by omega
  have hO : Only (· = R) w' ((((w'.setCell ⟨R, 0, none⟩ v0).setCell ⟨R, 1, none⟩ v1).setCell ⟨R, 2, none⟩ v2).setCell ⟨R, 3, none⟩ v3) :=
    ((((Only.refl (· = R) w').setCell (p := ⟨R, 0, none⟩) (.inl rfl) v0).setCell (p := ⟨R, 1, none⟩) (.inl rfl) v1).setCell (p := ⟨R, 2, none⟩) (.inl rfl) v2).setCell (p := ⟨R, 3, none⟩) (.inl rfl) v3
  refine ⟨?_, nx', hO.blk hne k2, ?_⟩
  · exact (((((Only.of hb).trans k1).setCell (p := ⟨R, 0, none⟩) (.inr h0) v0).setCell (p := ⟨R, 1, none⟩) (.inr h0) v1).setCell (p := ⟨R, 2, none⟩) (.inr h0) v2).setCell (p := ⟨R, 3, none⟩) (.inr h0) v3
  · refine (k3.only hO fun k _ _ hk e => ?_).mono fun k _ hk => ?_
    · subst e
      rcases hk with hk | hk
      · have := hD _ hk; omega
      · omega
    · rcases hk with hk | hk
      · exact .inl hk
      · exact .inr (Nat.le_trans hb.size hk)

theorem StTail.mk9 {D : Nat → Prop} {p : Nat} {ro : Option Nat} {P : CPar} {a : Option Addr} {c : Nat} {la : Value} {w w9 : World} {st : CSt} {R : Nat} {nx' : Value} (hO : Only (· = p) w w9) (hM : MB w9 p P a c nx' la (st.pl == 6) st.err) (hN : NxP w9 (fun k => (D k ∨ w.heap.size ≤ k) ∧ k ≠ R) p ro st nx') (h0 : w.heap.size ≤ R) (hp : p < w.heap.size) (v0 v1 v2 v3 : Value) :
    StTail D p ro P a c la w st ((((w9.setCell ⟨R, 0, none⟩ v0).setCell ⟨R, 1, none⟩ v1).setCell ⟨R, 2, none⟩ v2).setCell ⟨R, 3, none⟩ v3) := by
  have hne : p ≠ R := by omega
  have hR : Only (· = R) w9 ((((w9.setCell ⟨R, 0, none⟩ v0).setCell ⟨R, 1, none⟩ v1).setCell ⟨R, 2, none⟩ v2).setCell ⟨R, 3, none⟩ v3) :=
    ((((Only.refl (· = R) w9).setCell (p := ⟨R, 0, none⟩) (.inl rfl) v0).setCell (p := ⟨R, 1, none⟩) (.inl rfl) v1).setCell (p := ⟨R, 2, none⟩) (.inl rfl) v2).setCell (p := ⟨R, 3, none⟩) (.inl rfl) v3
  refine ⟨(((hO.setCell (p := ⟨R, 0, none⟩) (.inr h0) v0).setCell (p := ⟨R, 1, none⟩) (.inr h0) v1).setCell (p := ⟨R, 2, none⟩) (.inr h0) v2).setCell (p := ⟨R, 3, none⟩) (.inr h0) v3, nx', hR.blk hne hM, ?_⟩
  exact (hN.only hR fun k _ _ hk e => hk.2 e).mono fun k _ hk => hk.1

set_option maxRecDepth 100000 in
theorem wTell_calls (p : Nat) (P : CPar) (a : Option Addr) (c : Nat) (nx la : Value) (ov : Bool) (er : Int) (f : Nat) (first cap : Array Value) (k at_ o n : Int) (w : World) (h : MB w p P a c nx la ov er) :
    Calls Try.prog 104 #[.pointer (some ⟨p, 0, none⟩), accV k at_ o n, .func (.func f) first cap] w fun e w' => e = .returned (.tuple #[accV k at_ o n, .bool true]) ∧ Only (· = p) w w' ∧ MB w' p P a c (.func (.func f) first cap) la ov er := by
  have q7 : w.cell? ⟨p, 7, none⟩ = some nx := blk_cell h 7 _ rfl
  have z7 := blk_fz h 7
  have lp := blk_lt h
  have hne : ¬ w.heap.size = p := by omega
  have hne1 : ¬ w.heap.size + 1 = p := by omega
  have HH := Lib.hid h
  unfold accV
  clear h
  go_enter Try.func104, Try.ntmps104
  go_wp2
  refine bodyPost_ret (v := .tuple #[.agg #[.int .i64 k, .int .i64 at_, .int .u64 o, .int .u64 n], .bool true]) (by simp [results, Try.results104, go_sem, World.cell?_setCell_same', cell_off, *]) rfl ⟨rfl, by (repeat (first | (with_reducible exact Only.refl _ _) | (with_reducible assumption) | (with_reducible refine Only.drew ?_) | (with_reducible refine Only.drewN ?_ _) | (with_reducible refine Only.alloc ?_ _) | (with_reducible refine Only.setCell ?_ (by first | exact .inl rfl | (right; first | omega | (simp; done) | (simp; omega)) | (left; simp; done)) _) | (with_reducible refine Only.then ?_ hb9) | (with_reducible refine Only.then ?_ hb8) | (with_reducible refine Only.then ?_ hb7) | (with_reducible refine Only.then ?_ hb6) | (with_reducible refine Only.then ?_ hb5) | (with_reducible refine Only.then ?_ hb4) | (with_reducible refine Only.then ?_ hb3) | (with_reducible refine Only.then ?_ hb2) | (with_reducible refine Only.then ?_ hb1))), ?_⟩
  exact blk_alloc (blk_alloc (blk_eq (blk_set HH.out 7 _) rfl) _) _

set_option maxRecDepth 100000 in
theorem wStore_calls (p : Nat) (P : CPar) (a : Option Addr) (c : Nat) (nx la : Value) (ov : Bool) (er : Int) (f : Nat) (first cap : Array Value) (x : Int) (w : World) (h : MB w p P a c nx la ov er) :
    Calls Try.prog 108 #[.pointer (some ⟨p, 0, none⟩), .int .i64 x, .func (.func f) first cap] w fun e w' => e = .returned (.tuple #[accV 2 x 0 0, .bool true]) ∧ Only (· = p) w w' ∧ MB w' p P a c (fnStore1 w.heap.size) la ov er ∧ w'.heap[w.heap.size]? = some (FnO (.func (.func f) first cap)) := by
  have lp := blk_lt h
  have hne1 : ¬ w.heap.size + 1 = p := by omega
  have hT := Lib.hid (fun W h => wTell_calls p P a c nx la ov er 128 #[] #[.pointer (some ⟨w.heap.size, 0, none⟩)] 2 x 0 0 W h)
  have HH := Lib.hid h
  unfold accV at hT
  unfold accV
  clear h
  go_enter Try.func108, Try.ntmps108
  go_wp2_with fail
  have X0 := two_alloc w (.cells #[.func (.func f) first cap] 179) (.cells #[.int .i64 0, .int .i64 0, .int .u64 0, .int .u64 0] 44)
  have F0 : ((w.alloc (.cells #[.func (.func f) first cap] 179)).alloc (.cells #[.int .i64 0, .int .i64 0, .int .u64 0, .int .u64 0] 44)).heap[w.heap.size]? = some (FnO (.func (.func f) first cap)) := blk_alloc (MapKept.heap_alloc w _).1 _
  have M0 : MB ((w.alloc (.cells #[.func (.func f) first cap] 179)).alloc (.cells #[.int .i64 0, .int .i64 0, .int .u64 0, .int .u64 0] 44)) p P a c nx la ov er := blk_alloc (blk_alloc HH.out _) _
  have hb0 : Below w.heap.size w ((w.alloc (.cells #[.func (.func f) first cap] 179)).alloc (.cells #[.int .i64 0, .int .i64 0, .int .u64 0, .int .u64 0] 44)) := by (repeat (first | exact Below.refl _ _ | (with_reducible assumption) | refine Below.drew ?_ | refine Below.drewN' ?_ _ | refine Below.alloc ?_ (by first | omega | (simp; done) | (simp; omega)) _ | refine Below.setCell ?_ (by first | omega | (simp; done) | (simp; omega)) _ | refine Below.then ?_ hb9 (by first | omega | (simp; done) | (simp; omega)) | refine Below.then ?_ hb8 (by first | omega | (simp; done) | (simp; omega)) | refine Below.then ?_ hb7 (by first | omega | (simp; done) | (simp; omega)) | refine Below.then ?_ hb6 (by first | omega | (simp; done) | (simp; omega)) | refine Below.then ?_ hb5 (by first | omega | (simp; done) | (simp; omega)) | refine Below.then ?_ hb4 (by first | omega | (simp; done) | (simp; omega)) | refine Below.then ?_ hb3 (by first | omega | (simp; done) | (simp; omega)) | refine Below.then ?_ hb2 (by first | omega | (simp; done) | (simp; omega)) | refine Below.then ?_ hb1 (by first | omega | (simp; done) | (simp; omega))))
  generalize ((w.alloc (.cells #[.func (.func f) first cap] 179)).alloc (.cells #[.int .i64 0, .int .i64 0, .int .u64 0, .int .u64 0] 44)) = W0 at X0 F0 M0 hb0 ⊢
  refine (hT.out _ M0).mono ?_
  rintro r w9 ⟨rfl, ho9, M9⟩
  have F9 := ho9.blk (show ¬ w.heap.size = p by omega) F0
  have X9 := ho9.blk (show ¬ w.heap.size + 1 = p by omega) X0
  have x0 : w9.cell? ⟨w.heap.size + 1, 0, none⟩ = some (.int .i64 0) := blk_cell X9 0 _ rfl
  have x1 : w9.cell? ⟨w.heap.size + 1, 1, none⟩ = some (.int .i64 0) := blk_cell X9 1 _ rfl
  have x2 : w9.cell? ⟨w.heap.size + 1, 2, none⟩ = some (.int .u64 0) := blk_cell X9 2 _ rfl
  have x3 : w9.cell? ⟨w.heap.size + 1, 3, none⟩ = some (.int .u64 0) := blk_cell X9 3 _ rfl
  have y0 := blk_fz X9 0
  have y1 := blk_fz X9 1
  have y2 := blk_fz X9 2
  have y3 := blk_fz X9 3
  have lX := blk_lt X9
  have hO9 : Only (· = p) w w9 := (Only.of hb0).trans ho9
  have HM9 := Lib.hid M9
  have HF9 := Lib.hid F9
  clear ho9 X9 X0 F0 M0 hb0 M9 F9
  go_wp2
  refine bodyPost_ret (v := .tuple #[.agg #[.int .i64 2, .int .i64 x, .int .u64 0, .int .u64 0], .bool true]) (by simp [results, Try.results108, go_sem, World.cell?_setCell_same', cell_off, *]) rfl ⟨rfl, by (repeat (first | (with_reducible exact Only.refl _ _) | (with_reducible assumption) | (with_reducible refine Only.drew ?_) | (with_reducible refine Only.drewN ?_ _) | (with_reducible refine Only.alloc ?_ _) | (with_reducible refine Only.setCell ?_ (by first | exact .inl rfl | (right; first | omega | (simp; done) | (simp; omega)) | (left; simp; done)) _) | (with_reducible refine Only.then ?_ hb9) | (with_reducible refine Only.then ?_ hb8) | (with_reducible refine Only.then ?_ hb7) | (with_reducible refine Only.then ?_ hb6) | (with_reducible refine Only.then ?_ hb5) | (with_reducible refine Only.then ?_ hb4) | (with_reducible refine Only.then ?_ hb3) | (with_reducible refine Only.then ?_ hb2) | (with_reducible refine Only.then ?_ hb1))), ?_, ?_⟩
  · (repeat (first | (with_reducible refine blk_drew ?_) | (with_reducible refine blk_alloc ?_ _) | (with_reducible refine blk_off ?_ _ _ (by first | omega | (simp; omega)))))
    exact HM9.out
  · (repeat (first | (with_reducible refine blk_drew ?_) | (with_reducible refine blk_alloc ?_ _) | (with_reducible refine blk_off ?_ _ _ (by first | omega | (simp; omega)))))
    exact HF9.out

end Go.Proofs.Ytafenndokmccoaa
