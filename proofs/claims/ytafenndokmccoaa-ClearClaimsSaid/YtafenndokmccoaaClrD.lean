/- The layer 'wipe': its machine, asked. -/
import Derived.Test.YtafenndokmccoaaClrC
import Derived.Deep.AppendLies
namespace Go.Proofs.Ytafenndokmccoaa
open Go.RowKit
set_option linter.unusedVariables false
set_option linter.unusedSimpArgs false

theorem wNil_ne (f : Nat) (first cap : Array Value) (W : World) : (binOp .eql 72 (.func (.func f) first cap) Value.nilFunc).run Try.prog W = .ok (.bool false) W := by
  have h : (Op.equalIn (9999 + 1) 72 (.func (.func f) first cap) Value.nilFunc).run Try.prog W = .ok false W := by
    unfold Op.equalIn
    simp [run_underlying Try.underlying72]
  have h' : (Op.equal 72 (.func (.func f) first cap) Value.nilFunc).run Try.prog W = .ok false W := h
  simp [binOp, go_sem, h']
theorem wNil_eq (W : World) : (binOp .eql 72 Value.nilFunc Value.nilFunc).run Try.prog W = .ok (.bool true) W := by
  have h : (Op.equalIn (9999 + 1) 72 Value.nilFunc Value.nilFunc).run Try.prog W = .ok true W := by
    unfold Op.equalIn
    simp [run_underlying Try.underlying72]
  have h' : (Op.equal 72 Value.nilFunc Value.nilFunc).run Try.prog W = .ok true W := h
  simp [binOp, go_sem, h']
theorem owns_only {w w' : World} {B : Nat} {e : TypeId} {s : Nat} {v : Value} {n : Nat} {xs : List Value} {S : Nat → Prop} (h : w.ownsRow B e s v n xs) (hO : Only S w w') (hs : ∀ g, v.ownBlock = some g → ¬ S g) : w'.ownsRow B e s v n xs := by
  refine ⟨h.1, ?_⟩
  rcases h.2 with hn | ⟨g, cap, cur, rfl, hb, hgg, rest⟩
  · exact .inl hn
  · exact .inr ⟨g, cap, cur, rfl, hb, hO.blk (hs g rfl) hgg, rest⟩
theorem infoWd : (Try.prog.info? 41).map (fun i => (i.zero, i.size, i.bytes)) = some (some (.int .u64 0), 1, 8) := by kernel_rfl
theorem owns_val {w : World} {B : Nat} {e : TypeId} {v : Value} {n : Nat} {xs : List Value} (h : w.ownsRow B e 1 v n xs) : ∃ fa fc, v = .slice fa n fc := by
  rcases h.2 with ⟨hv, h0⟩ | ⟨g, cap, cur, hv, _⟩
  · exact ⟨none, 0, by rw [hv, h0]⟩
  · exact ⟨_, cap, hv⟩

/-- a list of words that a machine has -/
def WRow (W : World) (la : Value) (l : List Int) : Prop := W.ownsRow 0 41 1 la l.length (l.map (fun x => Value.int .u64 x))
/-- what asking leaves -/
def NxTail (D : Nat → Prop) (p : Nat) (P : CPar) (a : Option Addr) (c : Nat) (la : Value) (l : List Int) (w : World) (st : CSt) (w' : World) : Prop :=
  Only (fun k => k = p ∨ la.ownBlock = some k) w w' ∧ ∃ nx' la', MB w' p P a c nx' la' (st.pl == 6) st.err ∧ NxP w' (fun k => D k ∨ w.heap.size ≤ k) p la'.ownBlock st nx' ∧ WRow w' la' l ∧ (∀ g, la'.ownBlock = some g → g ≠ p ∧ (la.ownBlock = some g ∨ w.heap.size ≤ g))

theorem Only.grown {S : Nat → Prop} {a w w' : World} {row : Option Nat} (h : Only S a w) (hg : w.grownBy w' row) (hs : ∀ k, row = some k → S k) : Only S a w' :=
  ⟨hg.os.trans h.os, hg.tape.trans h.tape, hg.output.trans h.output, Nat.le_trans h.size hg.size, fun k hk hn => (hg.block k (Nat.lt_of_lt_of_le hk h.size) (fun e => hn (hs k e.symm))).trans (h.block k hk hn)⟩
theorem NxTail.fin {D : Nat → Prop} {p : Nat} {P : CPar} {a : Option Addr} {c : Nat} {la la' : Value} {l' : List Int} {w W w9 : World} {st : CSt} (hO : Only (fun k => k = p ∨ la.ownBlock = some k) w W) (h : StTail D p la'.ownBlock P a c la' W st w9) (hr : WRow W la' l') (hg : ∀ g, la'.ownBlock = some g → g < W.heap.size ∧ g ≠ p ∧ (la.ownBlock = some g ∨ w.heap.size < g))
    (hD : ∀ k, D k → k < w.heap.size) (hp : p < w.heap.size) (hgb : ∀ g, la.ownBlock = some g → g < w.heap.size) (hR : w.heap.size < W.heap.size) (v0 v1 v2 v3 : Value) :
    NxTail D p P a c la l' w st ((((w9.setCell ⟨w.heap.size, 0, none⟩ v0).setCell ⟨w.heap.size, 1, none⟩ v1).setCell ⟨w.heap.size, 2, none⟩ v2).setCell ⟨w.heap.size, 3, none⟩ v3) := by
  obtain ⟨k1, nx', k2, k3⟩ := h
  have hne : p ≠ w.heap.size := by omega
  have hR9 : Only (· = w.heap.size) w9 ((((w9.setCell ⟨w.heap.size, 0, none⟩ v0).setCell ⟨w.heap.size, 1, none⟩ v1).setCell ⟨w.heap.size, 2, none⟩ v2).setCell ⟨w.heap.size, 3, none⟩ v3) :=
    ((((Only.refl (· = w.heap.size) w9).setCell (p := ⟨w.heap.size, 0, none⟩) (.inl rfl) v0).setCell (p := ⟨w.heap.size, 1, none⟩) (.inl rfl) v1).setCell (p := ⟨w.heap.size, 2, none⟩) (.inl rfl) v2).setCell (p := ⟨w.heap.size, 3, none⟩) (.inl rfl) v3
  have k1' : Only (fun k => k = p ∨ la.ownBlock = some k) W w9 := k1.mono fun k _ hk => .inl hk
  refine ⟨((((hO.trans k1').setCell (p := ⟨w.heap.size, 0, none⟩) (.inr (Nat.le_refl _)) v0).setCell (p := ⟨w.heap.size, 1, none⟩) (.inr (Nat.le_refl _)) v1).setCell (p := ⟨w.heap.size, 2, none⟩) (.inr (Nat.le_refl _)) v2).setCell (p := ⟨w.heap.size, 3, none⟩) (.inr (Nat.le_refl _)) v3, nx', la', hR9.blk hne k2, ?_, ?_, ?_⟩
  · refine (k3.only hR9 fun k _ _ hk e => ?_).mono fun k _ hk => ?_
    · subst e
      rcases hk with hk | hk
      · have := hD _ hk; omega
      · omega
    · rcases hk with hk | hk
      · exact .inl hk
      · exact .inr (by omega)
  · have hr9 : WRow w9 la' l' := owns_only hr k1 fun g hg' e => (hg g hg').2.1 e
    refine owns_only hr9 hR9 fun g hg' e => ?_
    obtain ⟨_, _, h1 | h1⟩ := hg g hg'
    · have := hgb g h1; omega
    · omega
  · intro g hg'
    obtain ⟨_, h2, h1 | h1⟩ := hg g hg'
    · exact ⟨h2, .inl h1⟩
    · exact ⟨h2, .inr (by omega)⟩

set_option maxRecDepth 100000 in
set_option maxHeartbeats 1600000 in
theorem wNextBegin (D : Nat → Prop) (p : Nat) (P : CPar) (a : Option Addr) (c : Nat) (la : Value) (l : List Int) (hl : l.length ≤ 1000000) (ans : Int) (r : CRes) (w : World) (h : MB w p P a c (.func (.func 51) #[.pointer (some ⟨p, 0, none⟩)] #[]) la false 0) (hrow : WRow w la l) (hg : ∀ g, la.ownBlock = some g → g ≠ p)
    (hD : ∀ k, D k → k < w.heap.size)
    (hf : ∀ (W : World) (la' : Value), Only (fun k => k = p ∨ la.ownBlock = some k) w W → MB W p P a c (.func (.func 51) #[.pointer (some ⟨p, 0, none⟩)] #[]) la' false 0 → (∀ g, la'.ownBlock = some g → g < W.heap.size ∧ g ≠ p ∧ (la.ownBlock = some g ∨ w.heap.size < g)) → Calls Try.prog 51 #[.pointer (some ⟨p, 0, none⟩), .int .u64 ans] W (StPost D p la'.ownBlock P a c la' W r)) :
    Calls Try.prog 14 #[.pointer (some ⟨p, 0, none⟩), .int .u64 ans] w fun e w' => e = .returned (.tuple #[accV r.k r.a r.o r.n, .bool r.is]) ∧ NxTail D p P a c la (l ++ [ans]) w r.st w' := by
  obtain ⟨fa, fc, rfl⟩ := owns_val hrow
  obtain ⟨i0, hi0, hi0z, hi0s, hi0b⟩ := Go.info_parts infoWd
  have lp := blk_lt h
  have HH := Lib.hid h
  have HD := Lib.hid hD
  have HG := Lib.hid hg
  have HR := Lib.hid hrow
  have HF := hf
  unfold StPost accV at HF
  unfold accV
  have HF := Lib.hid HF
  clear hf h hD hg hrow
  have q7 : w.cell? ⟨p, 7, none⟩ = some (.func (.func 51) #[.pointer (some ⟨p, 0, none⟩)] #[]) := blk_cell HH.out 7 _ rfl
  have q8 : w.cell? ⟨p, 8, none⟩ = some (.slice fa l.length fc) := blk_cell HH.out 8 _ rfl
  have hN := fun f x y W => wNil_ne f x y W
  have gb : ∀ g, (Value.slice fa l.length fc).ownBlock = some g → g < w.heap.size := fun g hg => (World.ownsRow.lt HR.out g hg).2
  have X3 := blk_alloc (MapKept.heap_alloc w (.cells #[.int .i64 0, .int .i64 0, .int .u64 0, .int .u64 0] 44)).1 (.cells #[.int .u64 ans] 41)
  have N3 := two_alloc w (.cells #[.int .i64 0, .int .i64 0, .int .u64 0, .int .u64 0] 44) (.cells #[.int .u64 ans] 41)
  have M3 : MB ((w.alloc (.cells #[.int .i64 0, .int .i64 0, .int .u64 0, .int .u64 0] 44)).alloc (.cells #[.int .u64 ans] 41)) p P a c (.func (.func 51) #[.pointer (some ⟨p, 0, none⟩)] #[]) (.slice fa l.length fc) false 0 := blk_alloc (blk_alloc HH.out _) _
  go_enter Try.func14, Try.ntmps14
  go_wp2_with (at_builtin; go_loud (refine wpList_append_lies _ rfl _ _ 27 rfl 0 41 i0 (.int .u64 0) 1 8 Try.underlying27 hi0 hi0z hi0s hi0b rfl (by decide) (.slice fa l.length fc) l.length _ rfl ((World.ownsRow.alloc HR.out _).alloc _) ⟨w.heap.size + 1, 0, none⟩ 1 1 [.int .u64 ans] rfl rfl (World.news_of_block N3) (by simp [Value.oneCell']) (by decide) (by unfold maxLen; omega) (by omega) (Nat.zero_le _) _ rfl ?_; intro g cap w4 hown4 hgrow hat hlt4; have M4 : MB w4 p P a c (.func (.func 51) #[.pointer (some ⟨p, 0, none⟩)] #[]) (.slice fa l.length fc) false 0 := (hgrow.block p (blk_lt M3) (fun e => HG.out p e.symm rfl)).trans M3; have q7' : w4.cell? ⟨p, 7, none⟩ = some (.func (.func 51) #[.pointer (some ⟨p, 0, none⟩)] #[]) := blk_cell M4 7 _ rfl; have q8' : w4.cell? ⟨p, 8, none⟩ = some (.slice fa l.length fc) := blk_cell M4 8 _ rfl; have z8' := blk_fz M4 8; have lp4 := blk_lt M4))
  have hg' : ∀ g', (Value.slice (some ⟨g, 0, none⟩) (l.length + 1) cap).ownBlock = some g' → g' < (w4.setCell ⟨p, 8, none⟩ (.slice (some ⟨g, 0, none⟩) (l.length + 1) cap)).heap.size ∧ g' ≠ p ∧ ((Value.slice fa l.length fc).ownBlock = some g' ∨ w.heap.size < g') := by
    intro g' e
    have e' : g = g' := Option.some.inj e
    subst e'
    refine ⟨by rw [setCell_size]; exact hlt4, ?_, ?_⟩
    · rcases hat with h | h
      · exact HG.out _ h
      · simp at h; omega
    · rcases hat with h | h
      · exact .inl h
      · simp at h; exact .inr (by omega)
  have hO4 : Only (fun k => k = p ∨ (Value.slice fa l.length fc).ownBlock = some k) w (w4.setCell ⟨p, 8, none⟩ (.slice (some ⟨g, 0, none⟩) (l.length + 1) cap)) :=
    (((((Only.refl _ w).alloc _).alloc _).grown hgrow fun k hk => .inr hk).setCell (p := ⟨p, 8, none⟩) (.inl (.inl rfl)) _)
  have M5 : MB (w4.setCell ⟨p, 8, none⟩ (.slice (some ⟨g, 0, none⟩) (l.length + 1) cap)) p P a c (.func (.func 51) #[.pointer (some ⟨p, 0, none⟩)] #[]) (.slice (some ⟨g, 0, none⟩) (l.length + 1) cap) false 0 := blk_eq (blk_set M4 8 _) rfl
  have X4 := (hgrow.block w.heap.size (by simp; omega) (fun e => by have := gb _ e.symm; omega)).trans X3
  have X5 := blk_off X4 8 (.slice (some ⟨g, 0, none⟩) (l.length + 1) cap) (show w.heap.size ≠ p by omega)
  have hrow5 : WRow (w4.setCell ⟨p, 8, none⟩ (.slice (some ⟨g, 0, none⟩) (l.length + 1) cap)) (.slice (some ⟨g, 0, none⟩) (l.length + 1) cap) (l ++ [ans]) := by
    unfold WRow
    rw [List.length_append, List.map_append]
    exact owns_only hown4 ((Only.refl (· = p) w4).setCell (p := ⟨p, 8, none⟩) (.inl rfl) _) fun g' hg'' e => (hg' g' hg'').2.1 e
  have hR5 : w.heap.size < (w4.setCell ⟨p, 8, none⟩ (.slice (some ⟨g, 0, none⟩) (l.length + 1) cap)).heap.size := blk_lt X5
  have HF4 := HF.out _ _ hO4 M5 hg'
  have HG4 := Lib.hid hg'
  generalize w4.setCell ⟨p, 8, none⟩ (.slice (some ⟨g, 0, none⟩) (l.length + 1) cap) = W5 at hO4 M5 X5 hrow5 hR5 HF4 HG4 ⊢
  clear hg' q7' q8' z8' lp4 M4 hown4 hgrow hat hlt4 X4 X3 N3 M3 q7 q8
  generalize hla : Value.slice (some ⟨g, 0, none⟩) (l.length + 1) cap = la' at hO4 M5 hrow5 HF4 HG4
  clear hla
  refine HF4.mono ?_
  rintro e9 w9 ⟨rfl, hS⟩
  have X9 := hS.1.blk (show ¬ w.heap.size = p by omega) X5
  have x0 : w9.cell? ⟨w.heap.size, 0, none⟩ = some (.int .i64 0) := blk_cell X9 0 _ rfl
  have x1 : w9.cell? ⟨w.heap.size, 1, none⟩ = some (.int .i64 0) := blk_cell X9 1 _ rfl
  have x2 : w9.cell? ⟨w.heap.size, 2, none⟩ = some (.int .u64 0) := blk_cell X9 2 _ rfl
  have x3 : w9.cell? ⟨w.heap.size, 3, none⟩ = some (.int .u64 0) := blk_cell X9 3 _ rfl
  have y0 := blk_fz X9 0
  have y1 := blk_fz X9 1
  have y2 := blk_fz X9 2
  have y3 := blk_fz X9 3
  have lX := blk_lt X9
  have HO := Lib.hid hO4
  have HS := Lib.hid hS
  have HW := Lib.hid hrow5
  clear X9 X5 hO4 hS hrow5 M5 HF4
  go_wp2
  refine bodyPost_ret (v := .tuple #[.agg #[.int .i64 r.k, .int .i64 r.a, .int .u64 r.o, .int .u64 r.n], .bool r.is]) (by simp [results, Try.results14, go_sem, World.cell?_setCell_same', cell_off, *]) rfl ⟨rfl, ?_⟩
  exact NxTail.fin HO.out HS.out HW.out HG4.out HD.out lp gb hR5 _ _ _ _
set_option maxRecDepth 100000 in
set_option maxHeartbeats 1600000 in
theorem wNextWalk1 (D : Nat → Prop) (p : Nat) (P : CPar) (a : Option Addr) (c : Nat) (pm pa : Nat) (la : Value) (l : List Int) (hl : l.length ≤ 1000000) (ans : Int) (r : CRes) (w : World) (h : MB w p P a c (.func (.func 105) #[] #[.pointer (some ⟨pm, 0, none⟩), .pointer (some ⟨pa, 0, none⟩)]) la false 0) (hrow : WRow w la l) (hg : ∀ g, la.ownBlock = some g → g ≠ p)
    (hD : ∀ k, D k → k < w.heap.size)
    (hf : ∀ (W : World) (la' : Value), Only (fun k => k = p ∨ la.ownBlock = some k) w W → MB W p P a c (.func (.func 105) #[] #[.pointer (some ⟨pm, 0, none⟩), .pointer (some ⟨pa, 0, none⟩)]) la' false 0 → (∀ g, la'.ownBlock = some g → g < W.heap.size ∧ g ≠ p ∧ (la.ownBlock = some g ∨ w.heap.size < g)) → Calls Try.prog 105 #[.int .u64 ans, .pointer (some ⟨pm, 0, none⟩), .pointer (some ⟨pa, 0, none⟩)] W (StPost D p la'.ownBlock P a c la' W r)) :
    Calls Try.prog 14 #[.pointer (some ⟨p, 0, none⟩), .int .u64 ans] w fun e w' => e = .returned (.tuple #[accV r.k r.a r.o r.n, .bool r.is]) ∧ NxTail D p P a c la (l ++ [ans]) w r.st w' := by
  obtain ⟨fa, fc, rfl⟩ := owns_val hrow
  obtain ⟨i0, hi0, hi0z, hi0s, hi0b⟩ := Go.info_parts infoWd
  have lp := blk_lt h
  have HH := Lib.hid h
  have HD := Lib.hid hD
  have HG := Lib.hid hg
  have HR := Lib.hid hrow
  have HF := hf
  unfold StPost accV at HF
  unfold accV
  have HF := Lib.hid HF
  clear hf h hD hg hrow
  have q7 : w.cell? ⟨p, 7, none⟩ = some (.func (.func 105) #[] #[.pointer (some ⟨pm, 0, none⟩), .pointer (some ⟨pa, 0, none⟩)]) := blk_cell HH.out 7 _ rfl
  have q8 : w.cell? ⟨p, 8, none⟩ = some (.slice fa l.length fc) := blk_cell HH.out 8 _ rfl
  have hN := fun f x y W => wNil_ne f x y W
  have gb : ∀ g, (Value.slice fa l.length fc).ownBlock = some g → g < w.heap.size := fun g hg => (World.ownsRow.lt HR.out g hg).2
  have X3 := blk_alloc (MapKept.heap_alloc w (.cells #[.int .i64 0, .int .i64 0, .int .u64 0, .int .u64 0] 44)).1 (.cells #[.int .u64 ans] 41)
  have N3 := two_alloc w (.cells #[.int .i64 0, .int .i64 0, .int .u64 0, .int .u64 0] 44) (.cells #[.int .u64 ans] 41)
  have M3 : MB ((w.alloc (.cells #[.int .i64 0, .int .i64 0, .int .u64 0, .int .u64 0] 44)).alloc (.cells #[.int .u64 ans] 41)) p P a c (.func (.func 105) #[] #[.pointer (some ⟨pm, 0, none⟩), .pointer (some ⟨pa, 0, none⟩)]) (.slice fa l.length fc) false 0 := blk_alloc (blk_alloc HH.out _) _
  go_enter Try.func14, Try.ntmps14
  go_wp2_with (at_builtin; go_loud (refine wpList_append_lies _ rfl _ _ 27 rfl 0 41 i0 (.int .u64 0) 1 8 Try.underlying27 hi0 hi0z hi0s hi0b rfl (by decide) (.slice fa l.length fc) l.length _ rfl ((World.ownsRow.alloc HR.out _).alloc _) ⟨w.heap.size + 1, 0, none⟩ 1 1 [.int .u64 ans] rfl rfl (World.news_of_block N3) (by simp [Value.oneCell']) (by decide) (by unfold maxLen; omega) (by omega) (Nat.zero_le _) _ rfl ?_; intro g cap w4 hown4 hgrow hat hlt4; have M4 : MB w4 p P a c (.func (.func 105) #[] #[.pointer (some ⟨pm, 0, none⟩), .pointer (some ⟨pa, 0, none⟩)]) (.slice fa l.length fc) false 0 := (hgrow.block p (blk_lt M3) (fun e => HG.out p e.symm rfl)).trans M3; have q7' : w4.cell? ⟨p, 7, none⟩ = some (.func (.func 105) #[] #[.pointer (some ⟨pm, 0, none⟩), .pointer (some ⟨pa, 0, none⟩)]) := blk_cell M4 7 _ rfl; have q8' : w4.cell? ⟨p, 8, none⟩ = some (.slice fa l.length fc) := blk_cell M4 8 _ rfl; have z8' := blk_fz M4 8; have lp4 := blk_lt M4))
  have hg' : ∀ g', (Value.slice (some ⟨g, 0, none⟩) (l.length + 1) cap).ownBlock = some g' → g' < (w4.setCell ⟨p, 8, none⟩ (.slice (some ⟨g, 0, none⟩) (l.length + 1) cap)).heap.size ∧ g' ≠ p ∧ ((Value.slice fa l.length fc).ownBlock = some g' ∨ w.heap.size < g') := by
    intro g' e
    have e' : g = g' := Option.some.inj e
    subst e'
    refine ⟨by rw [setCell_size]; exact hlt4, ?_, ?_⟩
    · rcases hat with h | h
      · exact HG.out _ h
      · simp at h; omega
    · rcases hat with h | h
      · exact .inl h
      · simp at h; exact .inr (by omega)
  have hO4 : Only (fun k => k = p ∨ (Value.slice fa l.length fc).ownBlock = some k) w (w4.setCell ⟨p, 8, none⟩ (.slice (some ⟨g, 0, none⟩) (l.length + 1) cap)) :=
    (((((Only.refl _ w).alloc _).alloc _).grown hgrow fun k hk => .inr hk).setCell (p := ⟨p, 8, none⟩) (.inl (.inl rfl)) _)
  have M5 : MB (w4.setCell ⟨p, 8, none⟩ (.slice (some ⟨g, 0, none⟩) (l.length + 1) cap)) p P a c (.func (.func 105) #[] #[.pointer (some ⟨pm, 0, none⟩), .pointer (some ⟨pa, 0, none⟩)]) (.slice (some ⟨g, 0, none⟩) (l.length + 1) cap) false 0 := blk_eq (blk_set M4 8 _) rfl
  have X4 := (hgrow.block w.heap.size (by simp; omega) (fun e => by have := gb _ e.symm; omega)).trans X3
  have X5 := blk_off X4 8 (.slice (some ⟨g, 0, none⟩) (l.length + 1) cap) (show w.heap.size ≠ p by omega)
  have hrow5 : WRow (w4.setCell ⟨p, 8, none⟩ (.slice (some ⟨g, 0, none⟩) (l.length + 1) cap)) (.slice (some ⟨g, 0, none⟩) (l.length + 1) cap) (l ++ [ans]) := by
    unfold WRow
    rw [List.length_append, List.map_append]
    exact owns_only hown4 ((Only.refl (· = p) w4).setCell (p := ⟨p, 8, none⟩) (.inl rfl) _) fun g' hg'' e => (hg' g' hg'').2.1 e
  have hR5 : w.heap.size < (w4.setCell ⟨p, 8, none⟩ (.slice (some ⟨g, 0, none⟩) (l.length + 1) cap)).heap.size := blk_lt X5
  have HF4 := HF.out _ _ hO4 M5 hg'
  have HG4 := Lib.hid hg'
  generalize w4.setCell ⟨p, 8, none⟩ (.slice (some ⟨g, 0, none⟩) (l.length + 1) cap) = W5 at hO4 M5 X5 hrow5 hR5 HF4 HG4 ⊢
  clear hg' q7' q8' z8' lp4 M4 hown4 hgrow hat hlt4 X4 X3 N3 M3 q7 q8
  generalize hla : Value.slice (some ⟨g, 0, none⟩) (l.length + 1) cap = la' at hO4 M5 hrow5 HF4 HG4
  clear hla
  refine HF4.mono ?_
  rintro e9 w9 ⟨rfl, hS⟩
  have X9 := hS.1.blk (show ¬ w.heap.size = p by omega) X5
  have x0 : w9.cell? ⟨w.heap.size, 0, none⟩ = some (.int .i64 0) := blk_cell X9 0 _ rfl
  have x1 : w9.cell? ⟨w.heap.size, 1, none⟩ = some (.int .i64 0) := blk_cell X9 1 _ rfl
  have x2 : w9.cell? ⟨w.heap.size, 2, none⟩ = some (.int .u64 0) := blk_cell X9 2 _ rfl
  have x3 : w9.cell? ⟨w.heap.size, 3, none⟩ = some (.int .u64 0) := blk_cell X9 3 _ rfl
  have y0 := blk_fz X9 0
  have y1 := blk_fz X9 1
  have y2 := blk_fz X9 2
  have y3 := blk_fz X9 3
  have lX := blk_lt X9
  have HO := Lib.hid hO4
  have HS := Lib.hid hS
  have HW := Lib.hid hrow5
  clear X9 X5 hO4 hS hrow5 M5 HF4
  go_wp2
  refine bodyPost_ret (v := .tuple #[.agg #[.int .i64 r.k, .int .i64 r.a, .int .u64 r.o, .int .u64 r.n], .bool r.is]) (by simp [results, Try.results14, go_sem, World.cell?_setCell_same', cell_off, *]) rfl ⟨rfl, ?_⟩
  exact NxTail.fin HO.out HS.out HW.out HG4.out HD.out lp gb hR5 _ _ _ _
set_option maxRecDepth 100000 in
set_option maxHeartbeats 1600000 in
theorem wNextStore1 (D : Nat → Prop) (p : Nat) (P : CPar) (a : Option Addr) (c : Nat) (po : Nat) (la : Value) (l : List Int) (hl : l.length ≤ 1000000) (ans : Int) (r : CRes) (w : World) (h : MB w p P a c (.func (.func 128) #[] #[.pointer (some ⟨po, 0, none⟩)]) la false 0) (hrow : WRow w la l) (hg : ∀ g, la.ownBlock = some g → g ≠ p)
    (hD : ∀ k, D k → k < w.heap.size)
    (hf : ∀ (W : World) (la' : Value), Only (fun k => k = p ∨ la.ownBlock = some k) w W → MB W p P a c (.func (.func 128) #[] #[.pointer (some ⟨po, 0, none⟩)]) la' false 0 → (∀ g, la'.ownBlock = some g → g < W.heap.size ∧ g ≠ p ∧ (la.ownBlock = some g ∨ w.heap.size < g)) → Calls Try.prog 128 #[.int .u64 ans, .pointer (some ⟨po, 0, none⟩)] W (StPost D p la'.ownBlock P a c la' W r)) :
    Calls Try.prog 14 #[.pointer (some ⟨p, 0, none⟩), .int .u64 ans] w fun e w' => e = .returned (.tuple #[accV r.k r.a r.o r.n, .bool r.is]) ∧ NxTail D p P a c la (l ++ [ans]) w r.st w' := by
  obtain ⟨fa, fc, rfl⟩ := owns_val hrow
  obtain ⟨i0, hi0, hi0z, hi0s, hi0b⟩ := Go.info_parts infoWd
  have lp := blk_lt h
  have HH := Lib.hid h
  have HD := Lib.hid hD
  have HG := Lib.hid hg
  have HR := Lib.hid hrow
  have HF := hf
  unfold StPost accV at HF
  unfold accV
  have HF := Lib.hid HF
  clear hf h hD hg hrow
  have q7 : w.cell? ⟨p, 7, none⟩ = some (.func (.func 128) #[] #[.pointer (some ⟨po, 0, none⟩)]) := blk_cell HH.out 7 _ rfl
  have q8 : w.cell? ⟨p, 8, none⟩ = some (.slice fa l.length fc) := blk_cell HH.out 8 _ rfl
  have hN := fun f x y W => wNil_ne f x y W
  have gb : ∀ g, (Value.slice fa l.length fc).ownBlock = some g → g < w.heap.size := fun g hg => (World.ownsRow.lt HR.out g hg).2
  have X3 := blk_alloc (MapKept.heap_alloc w (.cells #[.int .i64 0, .int .i64 0, .int .u64 0, .int .u64 0] 44)).1 (.cells #[.int .u64 ans] 41)
  have N3 := two_alloc w (.cells #[.int .i64 0, .int .i64 0, .int .u64 0, .int .u64 0] 44) (.cells #[.int .u64 ans] 41)
  have M3 : MB ((w.alloc (.cells #[.int .i64 0, .int .i64 0, .int .u64 0, .int .u64 0] 44)).alloc (.cells #[.int .u64 ans] 41)) p P a c (.func (.func 128) #[] #[.pointer (some ⟨po, 0, none⟩)]) (.slice fa l.length fc) false 0 := blk_alloc (blk_alloc HH.out _) _
  go_enter Try.func14, Try.ntmps14
  go_wp2_with (at_builtin; go_loud (refine wpList_append_lies _ rfl _ _ 27 rfl 0 41 i0 (.int .u64 0) 1 8 Try.underlying27 hi0 hi0z hi0s hi0b rfl (by decide) (.slice fa l.length fc) l.length _ rfl ((World.ownsRow.alloc HR.out _).alloc _) ⟨w.heap.size + 1, 0, none⟩ 1 1 [.int .u64 ans] rfl rfl (World.news_of_block N3) (by simp [Value.oneCell']) (by decide) (by unfold maxLen; omega) (by omega) (Nat.zero_le _) _ rfl ?_; intro g cap w4 hown4 hgrow hat hlt4; have M4 : MB w4 p P a c (.func (.func 128) #[] #[.pointer (some ⟨po, 0, none⟩)]) (.slice fa l.length fc) false 0 := (hgrow.block p (blk_lt M3) (fun e => HG.out p e.symm rfl)).trans M3; have q7' : w4.cell? ⟨p, 7, none⟩ = some (.func (.func 128) #[] #[.pointer (some ⟨po, 0, none⟩)]) := blk_cell M4 7 _ rfl; have q8' : w4.cell? ⟨p, 8, none⟩ = some (.slice fa l.length fc) := blk_cell M4 8 _ rfl; have z8' := blk_fz M4 8; have lp4 := blk_lt M4))
  have hg' : ∀ g', (Value.slice (some ⟨g, 0, none⟩) (l.length + 1) cap).ownBlock = some g' → g' < (w4.setCell ⟨p, 8, none⟩ (.slice (some ⟨g, 0, none⟩) (l.length + 1) cap)).heap.size ∧ g' ≠ p ∧ ((Value.slice fa l.length fc).ownBlock = some g' ∨ w.heap.size < g') := by
    intro g' e
    have e' : g = g' := Option.some.inj e
    subst e'
    refine ⟨by rw [setCell_size]; exact hlt4, ?_, ?_⟩
    · rcases hat with h | h
      · exact HG.out _ h
      · simp at h; omega
    · rcases hat with h | h
      · exact .inl h
      · simp at h; exact .inr (by omega)
  have hO4 : Only (fun k => k = p ∨ (Value.slice fa l.length fc).ownBlock = some k) w (w4.setCell ⟨p, 8, none⟩ (.slice (some ⟨g, 0, none⟩) (l.length + 1) cap)) :=
    (((((Only.refl _ w).alloc _).alloc _).grown hgrow fun k hk => .inr hk).setCell (p := ⟨p, 8, none⟩) (.inl (.inl rfl)) _)
  have M5 : MB (w4.setCell ⟨p, 8, none⟩ (.slice (some ⟨g, 0, none⟩) (l.length + 1) cap)) p P a c (.func (.func 128) #[] #[.pointer (some ⟨po, 0, none⟩)]) (.slice (some ⟨g, 0, none⟩) (l.length + 1) cap) false 0 := blk_eq (blk_set M4 8 _) rfl
  have X4 := (hgrow.block w.heap.size (by simp; omega) (fun e => by have := gb _ e.symm; omega)).trans X3
  have X5 := blk_off X4 8 (.slice (some ⟨g, 0, none⟩) (l.length + 1) cap) (show w.heap.size ≠ p by omega)
  have hrow5 : WRow (w4.setCell ⟨p, 8, none⟩ (.slice (some ⟨g, 0, none⟩) (l.length + 1) cap)) (.slice (some ⟨g, 0, none⟩) (l.length + 1) cap) (l ++ [ans]) := by
    unfold WRow
    rw [List.length_append, List.map_append]
    exact owns_only hown4 ((Only.refl (· = p) w4).setCell (p := ⟨p, 8, none⟩) (.inl rfl) _) fun g' hg'' e => (hg' g' hg'').2.1 e
  have hR5 : w.heap.size < (w4.setCell ⟨p, 8, none⟩ (.slice (some ⟨g, 0, none⟩) (l.length + 1) cap)).heap.size := blk_lt X5
  have HF4 := HF.out _ _ hO4 M5 hg'
  have HG4 := Lib.hid hg'
  generalize w4.setCell ⟨p, 8, none⟩ (.slice (some ⟨g, 0, none⟩) (l.length + 1) cap) = W5 at hO4 M5 X5 hrow5 hR5 HF4 HG4 ⊢
  clear hg' q7' q8' z8' lp4 M4 hown4 hgrow hat hlt4 X4 X3 N3 M3 q7 q8
  generalize hla : Value.slice (some ⟨g, 0, none⟩) (l.length + 1) cap = la' at hO4 M5 hrow5 HF4 HG4
  clear hla
  refine HF4.mono ?_
  rintro e9 w9 ⟨rfl, hS⟩
  have X9 := hS.1.blk (show ¬ w.heap.size = p by omega) X5
  have x0 : w9.cell? ⟨w.heap.size, 0, none⟩ = some (.int .i64 0) := blk_cell X9 0 _ rfl
  have x1 : w9.cell? ⟨w.heap.size, 1, none⟩ = some (.int .i64 0) := blk_cell X9 1 _ rfl
  have x2 : w9.cell? ⟨w.heap.size, 2, none⟩ = some (.int .u64 0) := blk_cell X9 2 _ rfl
  have x3 : w9.cell? ⟨w.heap.size, 3, none⟩ = some (.int .u64 0) := blk_cell X9 3 _ rfl
  have y0 := blk_fz X9 0
  have y1 := blk_fz X9 1
  have y2 := blk_fz X9 2
  have y3 := blk_fz X9 3
  have lX := blk_lt X9
  have HO := Lib.hid hO4
  have HS := Lib.hid hS
  have HW := Lib.hid hrow5
  clear X9 X5 hO4 hS hrow5 M5 HF4
  go_wp2
  refine bodyPost_ret (v := .tuple #[.agg #[.int .i64 r.k, .int .i64 r.a, .int .u64 r.o, .int .u64 r.n], .bool r.is]) (by simp [results, Try.results14, go_sem, World.cell?_setCell_same', cell_off, *]) rfl ⟨rfl, ?_⟩
  exact NxTail.fin HO.out HS.out HW.out HG4.out HD.out lp gb hR5 _ _ _ _
set_option maxRecDepth 100000 in
set_option maxHeartbeats 1600000 in
theorem wNextTurn (D : Nat → Prop) (p : Nat) (P : CPar) (a : Option Addr) (c : Nat) (la : Value) (l : List Int) (hl : l.length ≤ 1000000) (ans : Int) (r : CRes) (w : World) (h : MB w p P a c (.func (.func 124) #[.pointer (some ⟨p, 0, none⟩)] #[]) la false 0) (hrow : WRow w la l) (hg : ∀ g, la.ownBlock = some g → g ≠ p)
    (hD : ∀ k, D k → k < w.heap.size)
    (hf : ∀ (W : World) (la' : Value), Only (fun k => k = p ∨ la.ownBlock = some k) w W → MB W p P a c (.func (.func 124) #[.pointer (some ⟨p, 0, none⟩)] #[]) la' false 0 → (∀ g, la'.ownBlock = some g → g < W.heap.size ∧ g ≠ p ∧ (la.ownBlock = some g ∨ w.heap.size < g)) → Calls Try.prog 124 #[.pointer (some ⟨p, 0, none⟩), .int .u64 ans] W (StPost D p la'.ownBlock P a c la' W r)) :
    Calls Try.prog 14 #[.pointer (some ⟨p, 0, none⟩), .int .u64 ans] w fun e w' => e = .returned (.tuple #[accV r.k r.a r.o r.n, .bool r.is]) ∧ NxTail D p P a c la (l ++ [ans]) w r.st w' := by
  obtain ⟨fa, fc, rfl⟩ := owns_val hrow
  obtain ⟨i0, hi0, hi0z, hi0s, hi0b⟩ := Go.info_parts infoWd
  have lp := blk_lt h
  have HH := Lib.hid h
  have HD := Lib.hid hD
  have HG := Lib.hid hg
  have HR := Lib.hid hrow
  have HF := hf
  unfold StPost accV at HF
  unfold accV
  have HF := Lib.hid HF
  clear hf h hD hg hrow
  have q7 : w.cell? ⟨p, 7, none⟩ = some (.func (.func 124) #[.pointer (some ⟨p, 0, none⟩)] #[]) := blk_cell HH.out 7 _ rfl
  have q8 : w.cell? ⟨p, 8, none⟩ = some (.slice fa l.length fc) := blk_cell HH.out 8 _ rfl
  have hN := fun f x y W => wNil_ne f x y W
  have gb : ∀ g, (Value.slice fa l.length fc).ownBlock = some g → g < w.heap.size := fun g hg => (World.ownsRow.lt HR.out g hg).2
  have X3 := blk_alloc (MapKept.heap_alloc w (.cells #[.int .i64 0, .int .i64 0, .int .u64 0, .int .u64 0] 44)).1 (.cells #[.int .u64 ans] 41)
  have N3 := two_alloc w (.cells #[.int .i64 0, .int .i64 0, .int .u64 0, .int .u64 0] 44) (.cells #[.int .u64 ans] 41)
  have M3 : MB ((w.alloc (.cells #[.int .i64 0, .int .i64 0, .int .u64 0, .int .u64 0] 44)).alloc (.cells #[.int .u64 ans] 41)) p P a c (.func (.func 124) #[.pointer (some ⟨p, 0, none⟩)] #[]) (.slice fa l.length fc) false 0 := blk_alloc (blk_alloc HH.out _) _
  go_enter Try.func14, Try.ntmps14
  go_wp2_with (at_builtin; go_loud (refine wpList_append_lies _ rfl _ _ 27 rfl 0 41 i0 (.int .u64 0) 1 8 Try.underlying27 hi0 hi0z hi0s hi0b rfl (by decide) (.slice fa l.length fc) l.length _ rfl ((World.ownsRow.alloc HR.out _).alloc _) ⟨w.heap.size + 1, 0, none⟩ 1 1 [.int .u64 ans] rfl rfl (World.news_of_block N3) (by simp [Value.oneCell']) (by decide) (by unfold maxLen; omega) (by omega) (Nat.zero_le _) _ rfl ?_; intro g cap w4 hown4 hgrow hat hlt4; have M4 : MB w4 p P a c (.func (.func 124) #[.pointer (some ⟨p, 0, none⟩)] #[]) (.slice fa l.length fc) false 0 := (hgrow.block p (blk_lt M3) (fun e => HG.out p e.symm rfl)).trans M3; have q7' : w4.cell? ⟨p, 7, none⟩ = some (.func (.func 124) #[.pointer (some ⟨p, 0, none⟩)] #[]) := blk_cell M4 7 _ rfl; have q8' : w4.cell? ⟨p, 8, none⟩ = some (.slice fa l.length fc) := blk_cell M4 8 _ rfl; have z8' := blk_fz M4 8; have lp4 := blk_lt M4))
  have hg' : ∀ g', (Value.slice (some ⟨g, 0, none⟩) (l.length + 1) cap).ownBlock = some g' → g' < (w4.setCell ⟨p, 8, none⟩ (.slice (some ⟨g, 0, none⟩) (l.length + 1) cap)).heap.size ∧ g' ≠ p ∧ ((Value.slice fa l.length fc).ownBlock = some g' ∨ w.heap.size < g') := by
    intro g' e
    have e' : g = g' := Option.some.inj e
    subst e'
    refine ⟨by rw [setCell_size]; exact hlt4, ?_, ?_⟩
    · rcases hat with h | h
      · exact HG.out _ h
      · simp at h; omega
    · rcases hat with h | h
      · exact .inl h
      · simp at h; exact .inr (by omega)
  have hO4 : Only (fun k => k = p ∨ (Value.slice fa l.length fc).ownBlock = some k) w (w4.setCell ⟨p, 8, none⟩ (.slice (some ⟨g, 0, none⟩) (l.length + 1) cap)) :=
    (((((Only.refl _ w).alloc _).alloc _).grown hgrow fun k hk => .inr hk).setCell (p := ⟨p, 8, none⟩) (.inl (.inl rfl)) _)
  have M5 : MB (w4.setCell ⟨p, 8, none⟩ (.slice (some ⟨g, 0, none⟩) (l.length + 1) cap)) p P a c (.func (.func 124) #[.pointer (some ⟨p, 0, none⟩)] #[]) (.slice (some ⟨g, 0, none⟩) (l.length + 1) cap) false 0 := blk_eq (blk_set M4 8 _) rfl
  have X4 := (hgrow.block w.heap.size (by simp; omega) (fun e => by have := gb _ e.symm; omega)).trans X3
  have X5 := blk_off X4 8 (.slice (some ⟨g, 0, none⟩) (l.length + 1) cap) (show w.heap.size ≠ p by omega)
  have hrow5 : WRow (w4.setCell ⟨p, 8, none⟩ (.slice (some ⟨g, 0, none⟩) (l.length + 1) cap)) (.slice (some ⟨g, 0, none⟩) (l.length + 1) cap) (l ++ [ans]) := by
    unfold WRow
    rw [List.length_append, List.map_append]
    exact owns_only hown4 ((Only.refl (· = p) w4).setCell (p := ⟨p, 8, none⟩) (.inl rfl) _) fun g' hg'' e => (hg' g' hg'').2.1 e
  have hR5 : w.heap.size < (w4.setCell ⟨p, 8, none⟩ (.slice (some ⟨g, 0, none⟩) (l.length + 1) cap)).heap.size := blk_lt X5
  have HF4 := HF.out _ _ hO4 M5 hg'
  have HG4 := Lib.hid hg'
  generalize w4.setCell ⟨p, 8, none⟩ (.slice (some ⟨g, 0, none⟩) (l.length + 1) cap) = W5 at hO4 M5 X5 hrow5 hR5 HF4 HG4 ⊢
  clear hg' q7' q8' z8' lp4 M4 hown4 hgrow hat hlt4 X4 X3 N3 M3 q7 q8
  generalize hla : Value.slice (some ⟨g, 0, none⟩) (l.length + 1) cap = la' at hO4 M5 hrow5 HF4 HG4
  clear hla
  refine HF4.mono ?_
  rintro e9 w9 ⟨rfl, hS⟩
  have X9 := hS.1.blk (show ¬ w.heap.size = p by omega) X5
  have x0 : w9.cell? ⟨w.heap.size, 0, none⟩ = some (.int .i64 0) := blk_cell X9 0 _ rfl
  have x1 : w9.cell? ⟨w.heap.size, 1, none⟩ = some (.int .i64 0) := blk_cell X9 1 _ rfl
  have x2 : w9.cell? ⟨w.heap.size, 2, none⟩ = some (.int .u64 0) := blk_cell X9 2 _ rfl
  have x3 : w9.cell? ⟨w.heap.size, 3, none⟩ = some (.int .u64 0) := blk_cell X9 3 _ rfl
  have y0 := blk_fz X9 0
  have y1 := blk_fz X9 1
  have y2 := blk_fz X9 2
  have y3 := blk_fz X9 3
  have lX := blk_lt X9
  have HO := Lib.hid hO4
  have HS := Lib.hid hS
  have HW := Lib.hid hrow5
  clear X9 X5 hO4 hS hrow5 M5 HF4
  go_wp2
  refine bodyPost_ret (v := .tuple #[.agg #[.int .i64 r.k, .int .i64 r.a, .int .u64 r.o, .int .u64 r.n], .bool r.is]) (by simp [results, Try.results14, go_sem, World.cell?_setCell_same', cell_off, *]) rfl ⟨rfl, ?_⟩
  exact NxTail.fin HO.out HS.out HW.out HG4.out HD.out lp gb hR5 _ _ _ _
set_option maxRecDepth 100000 in
set_option maxHeartbeats 1600000 in
theorem wNextTurn2 (D : Nat → Prop) (p : Nat) (P : CPar) (a : Option Addr) (c : Nat) (pw pe pm : Nat) (la : Value) (l : List Int) (hl : l.length ≤ 1000000) (ans : Int) (r : CRes) (w : World) (h : MB w p P a c (.func (.func 144) #[] #[.pointer (some ⟨pw, 0, none⟩), .pointer (some ⟨pe, 0, none⟩), .pointer (some ⟨pm, 0, none⟩)]) la false 0) (hrow : WRow w la l) (hg : ∀ g, la.ownBlock = some g → g ≠ p)
    (hD : ∀ k, D k → k < w.heap.size)
    (hf : ∀ (W : World) (la' : Value), Only (fun k => k = p ∨ la.ownBlock = some k) w W → MB W p P a c (.func (.func 144) #[] #[.pointer (some ⟨pw, 0, none⟩), .pointer (some ⟨pe, 0, none⟩), .pointer (some ⟨pm, 0, none⟩)]) la' false 0 → (∀ g, la'.ownBlock = some g → g < W.heap.size ∧ g ≠ p ∧ (la.ownBlock = some g ∨ w.heap.size < g)) → Calls Try.prog 144 #[.int .u64 ans, .pointer (some ⟨pw, 0, none⟩), .pointer (some ⟨pe, 0, none⟩), .pointer (some ⟨pm, 0, none⟩)] W (StPost D p la'.ownBlock P a c la' W r)) :
    Calls Try.prog 14 #[.pointer (some ⟨p, 0, none⟩), .int .u64 ans] w fun e w' => e = .returned (.tuple #[accV r.k r.a r.o r.n, .bool r.is]) ∧ NxTail D p P a c la (l ++ [ans]) w r.st w' := by
  obtain ⟨fa, fc, rfl⟩ := owns_val hrow
  obtain ⟨i0, hi0, hi0z, hi0s, hi0b⟩ := Go.info_parts infoWd
  have lp := blk_lt h
  have HH := Lib.hid h
  have HD := Lib.hid hD
  have HG := Lib.hid hg
  have HR := Lib.hid hrow
  have HF := hf
  unfold StPost accV at HF
  unfold accV
  have HF := Lib.hid HF
  clear hf h hD hg hrow
  have q7 : w.cell? ⟨p, 7, none⟩ = some (.func (.func 144) #[] #[.pointer (some ⟨pw, 0, none⟩), .pointer (some ⟨pe, 0, none⟩), .pointer (some ⟨pm, 0, none⟩)]) := blk_cell HH.out 7 _ rfl
  have q8 : w.cell? ⟨p, 8, none⟩ = some (.slice fa l.length fc) := blk_cell HH.out 8 _ rfl
  have hN := fun f x y W => wNil_ne f x y W
  have gb : ∀ g, (Value.slice fa l.length fc).ownBlock = some g → g < w.heap.size := fun g hg => (World.ownsRow.lt HR.out g hg).2
  have X3 := blk_alloc (MapKept.heap_alloc w (.cells #[.int .i64 0, .int .i64 0, .int .u64 0, .int .u64 0] 44)).1 (.cells #[.int .u64 ans] 41)
  have N3 := two_alloc w (.cells #[.int .i64 0, .int .i64 0, .int .u64 0, .int .u64 0] 44) (.cells #[.int .u64 ans] 41)
  have M3 : MB ((w.alloc (.cells #[.int .i64 0, .int .i64 0, .int .u64 0, .int .u64 0] 44)).alloc (.cells #[.int .u64 ans] 41)) p P a c (.func (.func 144) #[] #[.pointer (some ⟨pw, 0, none⟩), .pointer (some ⟨pe, 0, none⟩), .pointer (some ⟨pm, 0, none⟩)]) (.slice fa l.length fc) false 0 := blk_alloc (blk_alloc HH.out _) _
  go_enter Try.func14, Try.ntmps14
  go_wp2_with (at_builtin; go_loud (refine wpList_append_lies _ rfl _ _ 27 rfl 0 41 i0 (.int .u64 0) 1 8 Try.underlying27 hi0 hi0z hi0s hi0b rfl (by decide) (.slice fa l.length fc) l.length _ rfl ((World.ownsRow.alloc HR.out _).alloc _) ⟨w.heap.size + 1, 0, none⟩ 1 1 [.int .u64 ans] rfl rfl (World.news_of_block N3) (by simp [Value.oneCell']) (by decide) (by unfold maxLen; omega) (by omega) (Nat.zero_le _) _ rfl ?_; intro g cap w4 hown4 hgrow hat hlt4; have M4 : MB w4 p P a c (.func (.func 144) #[] #[.pointer (some ⟨pw, 0, none⟩), .pointer (some ⟨pe, 0, none⟩), .pointer (some ⟨pm, 0, none⟩)]) (.slice fa l.length fc) false 0 := (hgrow.block p (blk_lt M3) (fun e => HG.out p e.symm rfl)).trans M3; have q7' : w4.cell? ⟨p, 7, none⟩ = some (.func (.func 144) #[] #[.pointer (some ⟨pw, 0, none⟩), .pointer (some ⟨pe, 0, none⟩), .pointer (some ⟨pm, 0, none⟩)]) := blk_cell M4 7 _ rfl; have q8' : w4.cell? ⟨p, 8, none⟩ = some (.slice fa l.length fc) := blk_cell M4 8 _ rfl; have z8' := blk_fz M4 8; have lp4 := blk_lt M4))
  have hg' : ∀ g', (Value.slice (some ⟨g, 0, none⟩) (l.length + 1) cap).ownBlock = some g' → g' < (w4.setCell ⟨p, 8, none⟩ (.slice (some ⟨g, 0, none⟩) (l.length + 1) cap)).heap.size ∧ g' ≠ p ∧ ((Value.slice fa l.length fc).ownBlock = some g' ∨ w.heap.size < g') := by
    intro g' e
    have e' : g = g' := Option.some.inj e
    subst e'
    refine ⟨by rw [setCell_size]; exact hlt4, ?_, ?_⟩
    · rcases hat with h | h
      · exact HG.out _ h
      · simp at h; omega
    · rcases hat with h | h
      · exact .inl h
      · simp at h; exact .inr (by omega)
  have hO4 : Only (fun k => k = p ∨ (Value.slice fa l.length fc).ownBlock = some k) w (w4.setCell ⟨p, 8, none⟩ (.slice (some ⟨g, 0, none⟩) (l.length + 1) cap)) :=
    (((((Only.refl _ w).alloc _).alloc _).grown hgrow fun k hk => .inr hk).setCell (p := ⟨p, 8, none⟩) (.inl (.inl rfl)) _)
  have M5 : MB (w4.setCell ⟨p, 8, none⟩ (.slice (some ⟨g, 0, none⟩) (l.length + 1) cap)) p P a c (.func (.func 144) #[] #[.pointer (some ⟨pw, 0, none⟩), .pointer (some ⟨pe, 0, none⟩), .pointer (some ⟨pm, 0, none⟩)]) (.slice (some ⟨g, 0, none⟩) (l.length + 1) cap) false 0 := blk_eq (blk_set M4 8 _) rfl
  have X4 := (hgrow.block w.heap.size (by simp; omega) (fun e => by have := gb _ e.symm; omega)).trans X3
  have X5 := blk_off X4 8 (.slice (some ⟨g, 0, none⟩) (l.length + 1) cap) (show w.heap.size ≠ p by omega)
  have hrow5 : WRow (w4.setCell ⟨p, 8, none⟩ (.slice (some ⟨g, 0, none⟩) (l.length + 1) cap)) (.slice (some ⟨g, 0, none⟩) (l.length + 1) cap) (l ++ [ans]) := by
    unfold WRow
    rw [List.length_append, List.map_append]
    exact owns_only hown4 ((Only.refl (· = p) w4).setCell (p := ⟨p, 8, none⟩) (.inl rfl) _) fun g' hg'' e => (hg' g' hg'').2.1 e
  have hR5 : w.heap.size < (w4.setCell ⟨p, 8, none⟩ (.slice (some ⟨g, 0, none⟩) (l.length + 1) cap)).heap.size := blk_lt X5
  have HF4 := HF.out _ _ hO4 M5 hg'
  have HG4 := Lib.hid hg'
  generalize w4.setCell ⟨p, 8, none⟩ (.slice (some ⟨g, 0, none⟩) (l.length + 1) cap) = W5 at hO4 M5 X5 hrow5 hR5 HF4 HG4 ⊢
  clear hg' q7' q8' z8' lp4 M4 hown4 hgrow hat hlt4 X4 X3 N3 M3 q7 q8
  generalize hla : Value.slice (some ⟨g, 0, none⟩) (l.length + 1) cap = la' at hO4 M5 hrow5 HF4 HG4
  clear hla
  refine HF4.mono ?_
  rintro e9 w9 ⟨rfl, hS⟩
  have X9 := hS.1.blk (show ¬ w.heap.size = p by omega) X5
  have x0 : w9.cell? ⟨w.heap.size, 0, none⟩ = some (.int .i64 0) := blk_cell X9 0 _ rfl
  have x1 : w9.cell? ⟨w.heap.size, 1, none⟩ = some (.int .i64 0) := blk_cell X9 1 _ rfl
  have x2 : w9.cell? ⟨w.heap.size, 2, none⟩ = some (.int .u64 0) := blk_cell X9 2 _ rfl
  have x3 : w9.cell? ⟨w.heap.size, 3, none⟩ = some (.int .u64 0) := blk_cell X9 3 _ rfl
  have y0 := blk_fz X9 0
  have y1 := blk_fz X9 1
  have y2 := blk_fz X9 2
  have y3 := blk_fz X9 3
  have lX := blk_lt X9
  have HO := Lib.hid hO4
  have HS := Lib.hid hS
  have HW := Lib.hid hrow5
  clear X9 X5 hO4 hS hrow5 M5 HF4
  go_wp2
  refine bodyPost_ret (v := .tuple #[.agg #[.int .i64 r.k, .int .i64 r.a, .int .u64 r.o, .int .u64 r.n], .bool r.is]) (by simp [results, Try.results14, go_sem, World.cell?_setCell_same', cell_off, *]) rfl ⟨rfl, ?_⟩
  exact NxTail.fin HO.out HS.out HW.out HG4.out HD.out lp gb hR5 _ _ _ _
end Go.Proofs.Ytafenndokmccoaa
