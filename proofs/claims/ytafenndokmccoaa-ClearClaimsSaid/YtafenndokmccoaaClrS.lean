/- References of layers 6 and 7 for this seat: where spaces begin, words at the start, the objects of words of a space; loads and stores of an arena. -/
import Derived.Test.YtafenndokmccoaaArCas
import Derived.Test.YtafenndokmccoaaEq
import Derived.Test.YtafenndokmccoaaLayRef
import Derived.Test.YtafenndokmccoaaHeadSize
import Derived.Deep.AppendLies
import Derived.Deep.RegionWith
import Derived.Deep.RegionHeld3
namespace Go.Proofs.Ytafenndokmccoaa
open Go.RowKit
set_option linter.unusedVariables false
set_option linter.unusedSimpArgs false
attribute [local go_sem] Oper.semAt_some

def inV (t sp at_ : Int) : Int := (at_ - (3 + 2 * t)) % sp
def sizeO (t sp : Int) (ss : List ByteArray) (x at_ : Int) : Int := if hSizeE x ss = 0 ∧ hSizeN x ss ≤ sp - inV t sp at_ then hSizeN x ss else 0
theorem inV_range {t sp at_ : Int} (h : 32 ≤ sp) : 0 ≤ inV t sp at_ ∧ inV t sp at_ < sp := by
  unfold inV
  exact ⟨Int.emod_nonneg _ (by omega), Int.emod_lt_of_pos _ (by omega)⟩
theorem shape_small {ss : List ByteArray} {i : Int} (h : ofE ss i = 0) : (ss.getD i.toNat ByteArray.empty).size ≤ 8 := by
  have hT : tableB ss = true := by
    unfold ofE at h
    by_cases c : tableB ss = true
    · exact c
    · rw [if_neg c] at h; cases h
  have hr : 0 ≤ i ∧ i < ss.length := by
    unfold ofE at h
    rw [if_pos hT] at h
    by_cases c : 0 ≤ i ∧ i < ss.length
    · exact c
    · rw [if_neg c] at h; cases h
  have hlt : i.toNat < ss.length := by omega
  rw [List.getD_eq_getElem?_getD, List.getElem?_eq_getElem hlt, Option.getD_some]
  unfold tableB at hT
  simp only [Bool.and_eq_true, List.all_eq_true] at hT
  have := hT.2 _ (List.getElem_mem hlt)
  unfold shapeB at this
  simp only [Bool.and_eq_true, decide_eq_true_eq] at this
  exact this.2
/-- the word at a place -/
def wordAt (l : List Int) (at_ : Int) : Int := l.getD at_.toNat 0
/-- may there be an arena of that plan and of that many words -/
def rightP (t sp : Int) (ss : List ByteArray) (n : Int) : Bool := planB t sp ss && decide (3 + 2 * t + 2 * sp = n)
theorem size_nonneg (t sp : Int) (ss : List ByteArray) (x i : Int) : 0 ≤ sizeO t sp ss x i := by
  unfold sizeO
  split
  · unfold hSizeN
    split
    · unfold sizeN
      split
      · omega
      · omega
    · omega
  · omega
theorem size_small {t sp : Int} {ss : List ByteArray} {x i : Int} (h : 32 ≤ sp) : sizeO t sp ss x i ≤ sp := by
  obtain ⟨r1, r2⟩ := inV_range (t := t) (at_ := i) h
  unfold sizeO
  split
  · omega
  · omega
theorem size_two {t sp : Int} {ss : List ByteArray} {x i : Int} (h : sizeO t sp ss x i ≠ 0) : 2 ≤ sizeO t sp ss x i ∧ sizeO t sp ss x i ≤ 10 ∧ sizeO t sp ss x i ≤ sp - inV t sp i := by
  unfold sizeO at h ⊢
  split
  · rename_i hc
    rw [if_pos hc] at h
    refine ⟨?_, ?_, hc.2⟩
    · unfold hSizeN at h ⊢
      split
      · rename_i hk
        rw [if_pos hk] at h
        unfold sizeN at h ⊢
        split
        · omega
        · rename_i hk2; rw [if_neg hk2] at h; exact absurd rfl h
      · rename_i hk; rw [if_neg hk] at h; exact absurd rfl h
    · unfold hSizeN
      split
      · unfold sizeN
        split
        · rename_i hz
          have := shape_small hz
          omega
        · omega
      · omega
  · rename_i hc; rw [if_neg hc] at h; exact absurd rfl h
theorem grown_of_below {w w' : World} (h : Below w.heap.size w w') : w.grownBy w' none := ⟨h.os, h.tape, h.output, h.size, fun k hk _ => h.block k hk⟩
theorem owns_slice {w : World} {B : Nat} {e : TypeId} {v : Value} {n : Nat} {xs : List Value} (h : w.ownsRow B e 1 v n xs) : ∃ fa fc, v = .slice fa n fc := by
  rcases h.2 with ⟨hv, h0⟩ | ⟨g, cap, cur, hv, _⟩
  · exact ⟨none, 0, by rw [hv, h0]⟩
  · exact ⟨_, cap, hv⟩
theorem owns_wds {w : World} {B : Nat} {e : TypeId} {fa : Option Addr} {fc n : Nat} {l : List Int} (h : w.ownsRow B e 1 (.slice fa n fc) n (l.map (fun x => Value.int .u64 x))) : WdsOf w fa l := by
  rcases h.2 with ⟨hv, h0⟩ | ⟨g, cap, cur, hv, hb, hg, _⟩
  · left
    have := h.1
    rw [h0, Nat.zero_mul] at this
    exact List.length_eq_zero_iff.1 this
  · have e1 : fa = some ⟨g, 0, none⟩ := by injection hv
    right
    refine ⟨g, 0, e1, (Array.getElem?_eq_some_iff.1 hg).1, fun i hi => ?_⟩
    have := h.cells (g := g) (by rw [e1]; rfl) i _ (List.getElem?_eq_getElem hi)
    have ea : (⟨g, 0, none⟩ : Addr).add i = ⟨g, 0 + i, none⟩ := by unfold Addr.add; split <;> simp_all
    rwa [ea] at this
theorem arLoad_calls (p b : Nat) (l : List Int) (i : Nat) (hi : i < l.length) (w : World) (h : Ar w p b l) : Calls Try.prog 15 #[.pointer (some ⟨p, 0, none⟩), .int .i64 (i : Int)] w fun e w' =>
    e = .returned (.tuple #[.int .u64 l[i], .int .i64 0]) ∧ Below w.heap.size w w' := by
  have H := arDo_load p b l i hi w h
  unfold accV at H
  have H := Lib.hid H
  clear h
  go_enter Try.func15, Try.ntmps15
  go_wp2_with fail
  refine (H.out).mono ?_; rintro e1 w1 ⟨rfl, hb1⟩; have hz1 := hb1.size; (try simp at hz1)
  go_wp2
  go_ret2
  exact ⟨rfl, by (repeat (first | exact Below.refl _ _ | (with_reducible assumption) | refine Below.drew ?_ | refine Below.drewN' ?_ _ | refine Below.alloc ?_ (by first | omega | (simp; done) | (simp; omega)) _ | refine Below.setCell ?_ (by first | omega | (simp; done) | (simp; omega)) _ | refine Below.then ?_ hb9 (by first | omega | (simp; done) | (simp; omega)) | refine Below.then ?_ hb8 (by first | omega | (simp; done) | (simp; omega)) | refine Below.then ?_ hb7 (by first | omega | (simp; done) | (simp; omega)) | refine Below.then ?_ hb6 (by first | omega | (simp; done) | (simp; omega)) | refine Below.then ?_ hb5 (by first | omega | (simp; done) | (simp; omega)) | refine Below.then ?_ hb4 (by first | omega | (simp; done) | (simp; omega)) | refine Below.then ?_ hb3 (by first | omega | (simp; done) | (simp; omega)) | refine Below.then ?_ hb2 (by first | omega | (simp; done) | (simp; omega)) | refine Below.then ?_ hb1 (by first | omega | (simp; done) | (simp; omega))))⟩
theorem arStore_calls (p b : Nat) (l : List Int) (i : Nat) (hi : i < l.length) (v : Int) (w : World) (h : Ar w p b l) : Calls Try.prog 19 #[.pointer (some ⟨p, 0, none⟩), .int .i64 (i : Int), .int .u64 v] w fun e w' =>
    e = .returned (.int .i64 0) ∧ Below w.heap.size (w.setCell ⟨b, i, none⟩ (.int .u64 v)) w' := by
  have H := arDo_store p b l i hi v w h
  unfold accV at H
  have H := Lib.hid H
  clear h
  go_enter Try.func19, Try.ntmps19
  go_wp2_with fail
  refine H.out.mono ?_; rintro e1 w1 ⟨rfl, hb1⟩
  go_wp2
  go_ret
  exact ⟨rfl, hb1⟩
theorem r7Base_calls (t sp : Int) (a : Option Addr) (c m : Nat) (n : Int) (hn : n = 0 ∨ n = 1) (b1 : 1 ≤ t) (b2 : t ≤ 8) (b3 : 32 ≤ sp) (b4 : sp ≤ 4096) (w : World) :
    Calls Try.prog 32 #[.agg #[.int .i64 t, .int .i64 sp, .slice a m c], .int .i64 n] w fun e w' => e = .returned (.int .i64 (3 + 2 * t + n * sp)) ∧ Below w.heap.size w w' := by
  rcases hn with rfl | rfl
  · go_enter Try.func32, Try.ntmps32
    go_wp2
    go_ret
    exact ⟨by simp, by (repeat (first | exact Below.refl _ _ | (with_reducible assumption) | refine Below.drew ?_ | refine Below.drewN' ?_ _ | refine Below.alloc ?_ (by first | omega | (simp; done) | (simp; omega)) _ | refine Below.setCell ?_ (by first | omega | (simp; done) | (simp; omega)) _ | refine Below.then ?_ hb9 (by first | omega | (simp; done) | (simp; omega)) | refine Below.then ?_ hb8 (by first | omega | (simp; done) | (simp; omega)) | refine Below.then ?_ hb7 (by first | omega | (simp; done) | (simp; omega)) | refine Below.then ?_ hb6 (by first | omega | (simp; done) | (simp; omega)) | refine Below.then ?_ hb5 (by first | omega | (simp; done) | (simp; omega)) | refine Below.then ?_ hb4 (by first | omega | (simp; done) | (simp; omega)) | refine Below.then ?_ hb3 (by first | omega | (simp; done) | (simp; omega)) | refine Below.then ?_ hb2 (by first | omega | (simp; done) | (simp; omega)) | refine Below.then ?_ hb1 (by first | omega | (simp; done) | (simp; omega))))⟩
  · go_enter Try.func32, Try.ntmps32
    go_wp2
    go_ret
    exact ⟨by simp, by (repeat (first | exact Below.refl _ _ | (with_reducible assumption) | refine Below.drew ?_ | refine Below.drewN' ?_ _ | refine Below.alloc ?_ (by first | omega | (simp; done) | (simp; omega)) _ | refine Below.setCell ?_ (by first | omega | (simp; done) | (simp; omega)) _ | refine Below.then ?_ hb9 (by first | omega | (simp; done) | (simp; omega)) | refine Below.then ?_ hb8 (by first | omega | (simp; done) | (simp; omega)) | refine Below.then ?_ hb7 (by first | omega | (simp; done) | (simp; omega)) | refine Below.then ?_ hb6 (by first | omega | (simp; done) | (simp; omega)) | refine Below.then ?_ hb5 (by first | omega | (simp; done) | (simp; omega)) | refine Below.then ?_ hb4 (by first | omega | (simp; done) | (simp; omega)) | refine Below.then ?_ hb3 (by first | omega | (simp; done) | (simp; omega)) | refine Below.then ?_ hb2 (by first | omega | (simp; done) | (simp; omega)) | refine Below.then ?_ hb1 (by first | omega | (simp; done) | (simp; omega))))⟩
set_option maxHeartbeats 800000 in
theorem r7Right_calls (la : Option Addr) (lc n : Nat) (t sp : Int) (a : Option Addr) (c : Nat) (ss : List ByteArray) (hn : Fit ss) (w : World) (h : SlOf w a (strV ss)) :
    Calls Try.prog 66 #[.slice la n lc, .agg #[.int .i64 t, .int .i64 sp, .slice a ss.length c]] w fun e w' => e = .returned (.bool (rightP t sp ss n)) ∧ Below w.heap.size w w' := by
  have hr := fun W h => lyRight_calls t sp a c ss hn W h
  have HS := Lib.hid h
  clear h
  cases hp : planB t sp ss with
  | false =>
    have e1 : rightP t sp ss n = false := by unfold rightP; rw [hp]; rfl
    rw [e1]
    rw [hp] at hr
    have HR := Lib.hid hr
    clear hr hp e1
    go_enter Try.func66, Try.ntmps66
    go_wp2_with fail
    refine (HR.out _ (HS.out.alloc _)).mono ?_; rintro e1 w1 ⟨rfl, hb1⟩; have hz1 := hb1.size; (try simp at hz1)
    go_wp2
    go_ret
    exact ⟨rfl, by (repeat (first | exact Below.refl _ _ | (with_reducible assumption) | refine Below.drew ?_ | refine Below.drewN' ?_ _ | refine Below.alloc ?_ (by first | omega | (simp; done) | (simp; omega)) _ | refine Below.setCell ?_ (by first | omega | (simp; done) | (simp; omega)) _ | refine Below.then ?_ hb9 (by first | omega | (simp; done) | (simp; omega)) | refine Below.then ?_ hb8 (by first | omega | (simp; done) | (simp; omega)) | refine Below.then ?_ hb7 (by first | omega | (simp; done) | (simp; omega)) | refine Below.then ?_ hb6 (by first | omega | (simp; done) | (simp; omega)) | refine Below.then ?_ hb5 (by first | omega | (simp; done) | (simp; omega)) | refine Below.then ?_ hb4 (by first | omega | (simp; done) | (simp; omega)) | refine Below.then ?_ hb3 (by first | omega | (simp; done) | (simp; omega)) | refine Below.then ?_ hb2 (by first | omega | (simp; done) | (simp; omega)) | refine Below.then ?_ hb1 (by first | omega | (simp; done) | (simp; omega))))⟩
  | true =>
    obtain ⟨b1, b2, b3, b4, _⟩ := plan_ok hp
    have e1 : rightP t sp ss n = ((n : Int) == 3 + 2 * t + 2 * sp) := by
      unfold rightP
      rw [hp, Bool.true_and]
      by_cases e : 3 + 2 * t + 2 * sp = (n : Int)
      · rw [decide_eq_true e, beq_iff_eq.2 e.symm]
      · rw [decide_eq_false e, beq_eq_false_iff_ne.2 (fun h => e h.symm)]
    rw [e1]
    rw [hp] at hr
    have HR := Lib.hid hr
    clear hr hp e1
    go_enter Try.func66, Try.ntmps66
    go_wp2_with fail
    refine (HR.out _ (HS.out.alloc _)).mono ?_; rintro e1 w1 ⟨rfl, hb1⟩; obtain ⟨hc1, hf1⟩ := bcell hb1; have hz1 := hb1.size; (try simp at hz1)
    have q0 := hc1 w.heap.size 0 (by first | omega | (simp; done) | (simp; omega)); simp [go_sem] at q0
    have q1 := hc1 w.heap.size 1 (by first | omega | (simp; done) | (simp; omega)); simp [go_sem] at q1
    have q2 := hc1 w.heap.size 2 (by first | omega | (simp; done) | (simp; omega)); simp [go_sem] at q2
    go_wp2_with (go_at_call 74; go_in)
    go_ret
    exact ⟨rfl, by (repeat (first | exact Below.refl _ _ | (with_reducible assumption) | refine Below.drew ?_ | refine Below.drewN' ?_ _ | refine Below.alloc ?_ (by first | omega | (simp; done) | (simp; omega)) _ | refine Below.setCell ?_ (by first | omega | (simp; done) | (simp; omega)) _ | refine Below.then ?_ hb9 (by first | omega | (simp; done) | (simp; omega)) | refine Below.then ?_ hb8 (by first | omega | (simp; done) | (simp; omega)) | refine Below.then ?_ hb7 (by first | omega | (simp; done) | (simp; omega)) | refine Below.then ?_ hb6 (by first | omega | (simp; done) | (simp; omega)) | refine Below.then ?_ hb5 (by first | omega | (simp; done) | (simp; omega)) | refine Below.then ?_ hb4 (by first | omega | (simp; done) | (simp; omega)) | refine Below.then ?_ hb3 (by first | omega | (simp; done) | (simp; omega)) | refine Below.then ?_ hb2 (by first | omega | (simp; done) | (simp; omega)) | refine Below.then ?_ hb1 (by first | omega | (simp; done) | (simp; omega))))⟩
set_option maxRecDepth 1000000 in
set_option maxHeartbeats 3200000 in
theorem r7Size_calls (la : Option Addr) (lc : Nat) (l : List Int) (hr : ∀ x ∈ l, 0 ≤ x ∧ x < 18446744073709551616) (hl : l.length ≤ 16384) (t sp : Int) (a : Option Addr) (c : Nat) (ss : List ByteArray) (i : Nat) (hn : Fit ss) (hp : planB t sp ss = true) (h0 : 3 + 2 * t ≤ i) (h1 : (i : Int) < szP t sp) (hi : i < l.length) (w : World) (hw : WdsOf w la l) (h : SlOf w a (strV ss)) :
    Calls Try.prog 67 #[.slice la l.length lc, .agg #[.int .i64 t, .int .i64 sp, .slice a ss.length c], .int .i64 (i : Int)] w fun e w' => e = .returned (.int .i64 (sizeO t sp ss l[i] i)) ∧ Below w.heap.size w w' := by
  obtain ⟨b1, b2, b3, b4, _⟩ := plan_ok hp
  have hx := hr l[i] (List.getElem_mem hi)
  obtain ⟨r1, r2⟩ := inV_range (t := t) (at_ := (i : Int)) b3
  obtain ⟨bb, o, rfl, hbb, hcx⟩ := u64_at hw i hi
  have hZ := fun W h => refHSize_calls l[i] hx.1 hx.2 a c ss hn W h
  have hsz : sizeO t sp ss l[i] i = if hSizeE l[i] ss = 0 ∧ hSizeN l[i] ss ≤ sp - inV t sp i then hSizeN l[i] ss else 0 := rfl
  rw [hsz]
  have hNr : 0 ≤ hSizeN l[i] ss ∧ hSizeN l[i] ss ≤ 10 := by
    unfold hSizeN
    split
    · unfold sizeN
      split
      · rename_i hz
        have := shape_small hz
        omega
      · omega
    · omega
  have hbd : (if hOk l[i] = true then sizeN ss (hShape l[i]) else 0) = hSizeN l[i] ss := rfl
  clear hbd
  generalize hSizeE l[i] ss = ee at hZ
  generalize hSizeN l[i] ss = nn at hZ hNr
  have HZ := Lib.hid hZ
  have HB := Lib.hid (fun W => r7Base_calls t sp a c ss.length 0 (.inl rfl) b1 b2 b3 b4 W)
  have HS := Lib.hid h
  have hli : (i : Int) < (l.length : Int) := by omega
  have hl0 : (0 : Int) ≤ (i : Int) := by omega
  clear hZ h hsz hp hw hr
  unfold szP at h1
  unfold inV at r1 r2 ⊢
  go_enter Try.func67, Try.ntmps67
  go_wp2_with fail
  have keepS := Lib.hid (show ∀ A B' : World, (A.cell? ⟨bb, o + i, none⟩ = some (.int .u64 l[i]) ∧ A.cell? ⟨w.heap.size, 0, none⟩ = some (.int .i64 t) ∧ A.cell? ⟨w.heap.size, 1, none⟩ = some (.int .i64 sp) ∧ A.cell? ⟨w.heap.size, 2, none⟩ = some (.slice a ss.length c) ∧ w.heap.size + 1 ≤ A.heap.size ∧ Below w.heap.size w A) → Below A.heap.size A B' → (B'.cell? ⟨bb, o + i, none⟩ = some (.int .u64 l[i]) ∧ B'.cell? ⟨w.heap.size, 0, none⟩ = some (.int .i64 t) ∧ B'.cell? ⟨w.heap.size, 1, none⟩ = some (.int .i64 sp) ∧ B'.cell? ⟨w.heap.size, 2, none⟩ = some (.slice a ss.length c) ∧ w.heap.size + 1 ≤ B'.heap.size ∧ Below w.heap.size w B') from fun A B' hc hb => ⟨hold_cell hc.1 hb (by have := hc.2.2.2.2.1; show bb < _; omega), hold_cell hc.2.1 hb (by have := hc.2.2.2.2.1; show w.heap.size < _; omega), hold_cell hc.2.2.1 hb (by have := hc.2.2.2.2.1; show w.heap.size < _; omega), hold_cell hc.2.2.2.1 hb (by have := hc.2.2.2.2.1; show w.heap.size < _; omega), Nat.le_trans hc.2.2.2.2.1 hb.size, Below.then hc.2.2.2.2.2 hb (by have := hc.2.2.2.2.1; omega)⟩)
  have hshS := Lib.hid (show ∀ A : World, (A.cell? ⟨bb, o + i, none⟩ = some (.int .u64 l[i]) ∧ A.cell? ⟨w.heap.size, 0, none⟩ = some (.int .i64 t) ∧ A.cell? ⟨w.heap.size, 1, none⟩ = some (.int .i64 sp) ∧ A.cell? ⟨w.heap.size, 2, none⟩ = some (.slice a ss.length c) ∧ w.heap.size + 1 ≤ A.heap.size ∧ Below w.heap.size w A) → SlOf A a (strV ss) from fun A hc => HS.out.below hc.2.2.2.2.2)
  go_region_held3 (fun w' => w'.cell? ⟨bb, o + i, none⟩ = some (.int .u64 l[i]) ∧ w'.cell? ⟨w.heap.size, 0, none⟩ = some (.int .i64 t) ∧ w'.cell? ⟨w.heap.size, 1, none⟩ = some (.int .i64 sp) ∧ w'.cell? ⟨w.heap.size, 2, none⟩ = some (.slice a ss.length c) ∧ w.heap.size + 1 ≤ w'.heap.size ∧ Below w.heap.size w w') (first | (refine ⟨by simpa [go_sem, hbb] using hcx, by simp [go_sem], by simp [go_sem], by simp [go_sem], by simp [go_sem], ?_⟩; (repeat (first | exact Below.refl _ _ | (with_reducible assumption) | refine Below.drew ?_ | refine Below.drewN' ?_ _ | refine Below.alloc ?_ (by first | omega | (simp; done) | (simp; omega)) _ | refine Below.setCell ?_ (by first | omega | (simp; done) | (simp; omega)) _ | refine Below.then ?_ hb9 (by first | omega | (simp; done) | (simp; omega)) | refine Below.then ?_ hb8 (by first | omega | (simp; done) | (simp; omega)) | refine Below.then ?_ hb7 (by first | omega | (simp; done) | (simp; omega)) | refine Below.then ?_ hb6 (by first | omega | (simp; done) | (simp; omega)) | refine Below.then ?_ hb5 (by first | omega | (simp; done) | (simp; omega)) | refine Below.then ?_ hb4 (by first | omega | (simp; done) | (simp; omega)) | refine Below.then ?_ hb3 (by first | omega | (simp; done) | (simp; omega)) | refine Below.then ?_ hb2 (by first | omega | (simp; done) | (simp; omega)) | refine Below.then ?_ hb1 (by first | omega | (simp; done) | (simp; omega))))) | exact keepS.out _ _ (by assumption) hb1 | (simp [*, go_sem]; done)) (first | (go_at_call 86; refine (HZ.out _ (hshS.out _ (by assumption))).mono ?_; rintro e1 w1 ⟨rfl, hb1⟩; have hz1 := hb1.size; (try simp at hz1)))
  have hS1 : w1.cell? ⟨bb, o + i, none⟩ = some (.int .u64 l[i]) ∧ w1.cell? ⟨w.heap.size, 0, none⟩ = some (.int .i64 t) ∧ w1.cell? ⟨w.heap.size, 1, none⟩ = some (.int .i64 sp) ∧ w1.cell? ⟨w.heap.size, 2, none⟩ = some (.slice a ss.length c) ∧ w.heap.size + 1 ≤ w1.heap.size ∧ Below w.heap.size w w1 := by assumption
  by_cases he : ee = 0
  · subst he
    have hsp0 : ¬ sp = 0 := by omega
    have hsp1 : (sp == 0) = false := beq_eq_false_iff_ne.2 hsp0
    have hws : IntKind.i64.wrap ((i : Int) - (3 + 2 * t)) = (i : Int) - (3 + 2 * t) := IntWalk.i64_in _ (by omega)
    have htm : ((i : Int) - (3 + 2 * t)).tmod sp = ((i : Int) - (3 + 2 * t)) % sp := Int.tmod_eq_emod_of_nonneg (by omega)
    have hwe : IntKind.i64.wrap (((i : Int) - (3 + 2 * t)) % sp) = ((i : Int) - (3 + 2 * t)) % sp := IntWalk.i64_in _ (by omega)
    have hwr : IntKind.i64.wrap (((i : Int) - (3 + 2 * t)) % sp + nn) = ((i : Int) - (3 + 2 * t)) % sp + nn := IntWalk.i64_in _ (by omega)
    go_wp2_with fail
    go_region_held3 (fun w' => w'.cell? ⟨bb, o + i, none⟩ = some (.int .u64 l[i]) ∧ w'.cell? ⟨w.heap.size, 0, none⟩ = some (.int .i64 t) ∧ w'.cell? ⟨w.heap.size, 1, none⟩ = some (.int .i64 sp) ∧ w'.cell? ⟨w.heap.size, 2, none⟩ = some (.slice a ss.length c) ∧ w.heap.size + 1 ≤ w'.heap.size ∧ Below w.heap.size w w') (first | exact keepS.out w1 _ hS1 (Below.refl _ _).drew | exact keepS.out _ _ (by assumption) hb4 | (simp [*, go_sem]; done)) (first | (go_at_call 32; refine (HB.out _).mono ?_; rintro e4 w4 ⟨rfl, hb4⟩; have hz4 := hb4.size; (try simp at hz4)))
    have hB4 : Below w.heap.size w w4 := by have hS4 : w4.cell? ⟨bb, o + i, none⟩ = some (.int .u64 l[i]) ∧ w4.cell? ⟨w.heap.size, 0, none⟩ = some (.int .i64 t) ∧ w4.cell? ⟨w.heap.size, 1, none⟩ = some (.int .i64 sp) ∧ w4.cell? ⟨w.heap.size, 2, none⟩ = some (.slice a ss.length c) ∧ w.heap.size + 1 ≤ w4.heap.size ∧ Below w.heap.size w w4 := by assumption
                                            exact hS4.2.2.2.2.2
    by_cases hcmp : sp < ((i : Int) - (3 + 2 * t)) % sp + nn
    · have hc2 : ¬ nn ≤ sp - ((i : Int) - (3 + 2 * t)) % sp := by omega
      go_wp2
      go_ret
      exact ⟨by first | rfl | simp [hc2], by (repeat (first | exact Below.refl _ _ | (with_reducible assumption) | refine Below.drew ?_ | refine Below.drewN' ?_ _ | refine Below.alloc ?_ (by first | omega | (simp; done) | (simp; omega)) _ | refine Below.setCell ?_ (by first | omega | (simp; done) | (simp; omega)) _ | refine Below.then ?_ hb9 (by first | omega | (simp; done) | (simp; omega)) | refine Below.then ?_ hb8 (by first | omega | (simp; done) | (simp; omega)) | refine Below.then ?_ hb7 (by first | omega | (simp; done) | (simp; omega)) | refine Below.then ?_ hb6 (by first | omega | (simp; done) | (simp; omega)) | refine Below.then ?_ hb5 (by first | omega | (simp; done) | (simp; omega)) | refine Below.then ?_ hb4 (by first | omega | (simp; done) | (simp; omega)) | refine Below.then ?_ hb3 (by first | omega | (simp; done) | (simp; omega)) | refine Below.then ?_ hb2 (by first | omega | (simp; done) | (simp; omega)) | refine Below.then ?_ hb1 (by first | omega | (simp; done) | (simp; omega))))⟩
    · have hc2 : nn ≤ sp - ((i : Int) - (3 + 2 * t)) % sp := by omega
      go_wp2
      go_ret
      exact ⟨by first | rfl | simp [hc2], by (repeat (first | exact Below.refl _ _ | (with_reducible assumption) | refine Below.drew ?_ | refine Below.drewN' ?_ _ | refine Below.alloc ?_ (by first | omega | (simp; done) | (simp; omega)) _ | refine Below.setCell ?_ (by first | omega | (simp; done) | (simp; omega)) _ | refine Below.then ?_ hb9 (by first | omega | (simp; done) | (simp; omega)) | refine Below.then ?_ hb8 (by first | omega | (simp; done) | (simp; omega)) | refine Below.then ?_ hb7 (by first | omega | (simp; done) | (simp; omega)) | refine Below.then ?_ hb6 (by first | omega | (simp; done) | (simp; omega)) | refine Below.then ?_ hb5 (by first | omega | (simp; done) | (simp; omega)) | refine Below.then ?_ hb4 (by first | omega | (simp; done) | (simp; omega)) | refine Below.then ?_ hb3 (by first | omega | (simp; done) | (simp; omega)) | refine Below.then ?_ hb2 (by first | omega | (simp; done) | (simp; omega)) | refine Below.then ?_ hb1 (by first | omega | (simp; done) | (simp; omega))))⟩
  · have g1 : (ee != 0) = true := bne_iff_ne.2 he
    obtain ⟨-, q0, q1, q2, q3, q4⟩ := hS1
    go_wp2_with fail
    go_quiet (fail)
    go_wp2
    go_ret
    exact ⟨by first | rfl | simp [he], by (repeat (first | exact Below.refl _ _ | (with_reducible assumption) | refine Below.drew ?_ | refine Below.drewN' ?_ _ | refine Below.alloc ?_ (by first | omega | (simp; done) | (simp; omega)) _ | refine Below.setCell ?_ (by first | omega | (simp; done) | (simp; omega)) _ | refine Below.then ?_ hb9 (by first | omega | (simp; done) | (simp; omega)) | refine Below.then ?_ hb8 (by first | omega | (simp; done) | (simp; omega)) | refine Below.then ?_ hb7 (by first | omega | (simp; done) | (simp; omega)) | refine Below.then ?_ hb6 (by first | omega | (simp; done) | (simp; omega)) | refine Below.then ?_ hb5 (by first | omega | (simp; done) | (simp; omega)) | refine Below.then ?_ hb4 (by first | omega | (simp; done) | (simp; omega)) | refine Below.then ?_ hb3 (by first | omega | (simp; done) | (simp; omega)) | refine Below.then ?_ hb2 (by first | omega | (simp; done) | (simp; omega)) | refine Below.then ?_ hb1 (by first | omega | (simp; done) | (simp; omega))))⟩
/-- a list of words, and a plan, as arguments -/
structure RIn (W : World) (la : Option Addr) (l : List Int) (a : Option Addr) (ss : List ByteArray) : Prop where
  rng : ∀ x ∈ l, 0 ≤ x ∧ x < 18446744073709551616
  len : l.length ≤ 16384
  fit : Fit ss
  wds : WdsOf W la l
  sh : SlOf W a (strV ss)
theorem RIn.below {W W' : World} {la : Option Addr} {l : List Int} {a : Option Addr} {ss : List ByteArray} (h : RIn W la l a ss) (hb : Below W.heap.size W W') : RIn W' la l a ss :=
  ⟨h.rng, h.len, h.fit, SlOf.below h.wds hb, h.sh.below hb⟩
theorem RIn.alloc {W : World} {la : Option Addr} {l : List Int} {a : Option Addr} {ss : List ByteArray} (h : RIn W la l a ss) (o : Obj) : RIn (W.alloc o) la l a ss := h.below ((Below.refl _ _).alloc (Nat.le_refl _) _)
/-- the objects from a word on -/
def walkN (t sp : Int) (ss : List ByteArray) (l : List Int) (until_ : Int) : Nat → Int → List Int
  | 0, _ => []
  | k + 1, x => if x < until_ then (if sizeO t sp ss (wordAt l x) x = 0 then walkN t sp ss l until_ k (x + 1) else x :: walkN t sp ss l until_ k (x + sizeO t sp ss (wordAt l x) x)) else []
def walkL (t sp : Int) (ss : List ByteArray) (l : List Int) (until_ x : Int) : List Int := walkN t sp ss l until_ (until_ - x).toNat x
theorem walkN_end {t sp : Int} {ss : List ByteArray} {l : List Int} {until_ x : Int} (h : until_ ≤ x) : ∀ k, walkN t sp ss l until_ k x = []
  | 0 => rfl
  | k + 1 => by unfold walkN; rw [if_neg (by omega)]
theorem walkN_any {t sp : Int} {ss : List ByteArray} {l : List Int} {until_ : Int} : ∀ (k j : Nat) (x : Int), (until_ - x).toNat ≤ k → (until_ - x).toNat ≤ j → walkN t sp ss l until_ k x = walkN t sp ss l until_ j x := by
  intro k
  induction k with
  | zero =>
    intro j x h1 h2
    rw [walkN_end (by omega), walkN_end (by omega)]
  | succ k ih =>
    intro j x h1 h2
    by_cases hx : x < until_
    · obtain ⟨j, rfl⟩ : ∃ j', j = j' + 1 := ⟨j - 1, by omega⟩
      have hs := size_nonneg t sp ss (wordAt l x) x
      unfold walkN
      rw [if_pos hx, if_pos hx]
      by_cases hz : sizeO t sp ss (wordAt l x) x = 0
      · rw [if_pos hz, if_pos hz, ih j (x + 1) (by omega) (by omega)]
      · rw [if_neg hz, if_neg hz, ih j _ (by omega) (by omega)]
    · rw [walkN_end (by omega), walkN_end (by omega)]
theorem walkL_end {t sp : Int} {ss : List ByteArray} {l : List Int} {until_ x : Int} (h : until_ ≤ x) : walkL t sp ss l until_ x = [] := walkN_end h _
theorem walkL_zero {t sp : Int} {ss : List ByteArray} {l : List Int} {until_ x : Int} (h : x < until_) (hz : sizeO t sp ss (wordAt l x) x = 0) : walkL t sp ss l until_ x = walkL t sp ss l until_ (x + 1) := by
  unfold walkL
  obtain ⟨k, hk⟩ : ∃ k, (until_ - x).toNat = k + 1 := ⟨(until_ - x).toNat - 1, by omega⟩
  rw [hk]
  show (if x < until_ then _ else _) = _
  rw [if_pos h, if_pos hz]
  exact walkN_any _ _ _ (by omega) (by omega)
theorem walkL_obj {t sp : Int} {ss : List ByteArray} {l : List Int} {until_ x : Int} (h : x < until_) (hz : sizeO t sp ss (wordAt l x) x ≠ 0) : walkL t sp ss l until_ x = x :: walkL t sp ss l until_ (x + sizeO t sp ss (wordAt l x) x) := by
  have hs := size_nonneg t sp ss (wordAt l x) x
  unfold walkL
  obtain ⟨k, hk⟩ : ∃ k, (until_ - x).toNat = k + 1 := ⟨(until_ - x).toNat - 1, by omega⟩
  rw [hk]
  show (if x < until_ then _ else _) = _
  rw [if_pos h, if_neg hz]
  exact congrArg _ (walkN_any _ _ _ (by omega) (by omega))
theorem walkL_len {t sp : Int} {ss : List ByteArray} {l : List Int} {until_ : Int} : ∀ (k : Nat) (x : Int), (walkN t sp ss l until_ k x).length ≤ k := by
  intro k
  induction k with
  | zero => intro x; exact Nat.le_refl _
  | succ k ih =>
    intro x
    unfold walkN
    split
    · split
      · exact Nat.le_succ_of_le (ih _)
      · exact Nat.succ_le_succ (ih _)
    · exact Nat.zero_le _
theorem add_nospot (b o j : Nat) : (⟨b, o, none⟩ : Addr).add j = ⟨b, o + j, none⟩ := by unfold Addr.add; split <;> simp_all
theorem infoInt : (Try.prog.info? 3).map (fun i => (i.zero, i.size, i.bytes)) = some (some (.int .i64 0), 1, 8) := by kernel_rfl
def IntsOf (W : World) (a : Option Addr) (l : List Int) : Prop := SlOf W a (l.map (fun x => Value.int .i64 x))
theorem owns_ints {w : World} {B : Nat} {e : TypeId} {fa : Option Addr} {fc n : Nat} {l : List Int} (h : w.ownsRow B e 1 (.slice fa n fc) n (l.map (fun x => Value.int .i64 x))) : IntsOf w fa l := by
  rcases h.2 with ⟨hv, h0⟩ | ⟨g, cap, cur, hv, hb, hg, _⟩
  · left
    have := h.1
    rw [h0, Nat.zero_mul] at this
    exact List.length_eq_zero_iff.1 this
  · have e1 : fa = some ⟨g, 0, none⟩ := by injection hv
    right
    refine ⟨g, 0, e1, (Array.getElem?_eq_some_iff.1 hg).1, fun i hi => ?_⟩
    have := h.cells (g := g) (by rw [e1]; rfl) i _ (List.getElem?_eq_getElem hi)
    rwa [add_nospot] at this
/-- are the numbers in range -/
def walkB (sp s f u : Int) : Bool := decide (0 ≤ s ∧ s ≤ 1) && decide (0 ≤ f) && decide (u ≤ sp) && decide (f ≤ u)
def walkE (t sp : Int) (ss : List ByteArray) (n : Nat) (s f u : Int) : Int := if rightP t sp ss n = true then (if walkB sp s f u = true then 0 else 4) else 2
def walkR (t sp : Int) (ss : List ByteArray) (l : List Int) (s f u : Int) : List Int := if walkE t sp ss l.length s f u = 0 then walkL t sp ss l (3 + 2 * t + s * sp + u) (3 + 2 * t + s * sp + f) else []
def WalkPost (t sp : Int) (ss : List ByteArray) (l : List Int) (s f u : Int) (w : World) (e : Ending) (w' : World) : Prop :=
  ∃ fa fc, e = .returned (.tuple #[.slice fa (walkR t sp ss l s f u).length fc, .int .i64 (walkE t sp ss l.length s f u)]) ∧ IntsOf w' fa (walkR t sp ss l s f u) ∧ Below w.heap.size w w'
theorem walkPost_no {t sp : Int} {ss : List ByteArray} {l : List Int} {s f u k : Int} {w w' : World} {e : Ending} (hk : walkE t sp ss l.length s f u = k) (h0 : k ≠ 0)
    (he : e = .returned (.tuple #[.slice none 0 0, .int .i64 k]) ∧ Below w.heap.size w w') : WalkPost t sp ss l s f u w e w' := by
  have e1 : walkR t sp ss l s f u = [] := by unfold walkR; rw [if_neg (by rw [hk]; exact h0)]
  unfold WalkPost
  rw [e1, hk]
  exact ⟨none, 0, he.1, .inl rfl, he.2⟩
set_option maxRecDepth 100000 in
set_option maxHeartbeats 3200000 in
theorem r7Walk_calls (la : Option Addr) (lc : Nat) (l : List Int) (t sp : Int) (a : Option Addr) (c : Nat) (ss : List ByteArray) (s f u : Int) (w : World) (h : RIn w la l a ss) :
    Calls Try.prog 31 #[.slice la l.length lc, .agg #[.int .i64 t, .int .i64 sp, .slice a ss.length c], .int .i64 s, .int .i64 f, .int .i64 u] w (WalkPost t sp ss l s f u w) := by
  have hR := fun W (h : RIn W la l a ss) => r7Right_calls la lc l.length t sp a c ss h.fit W h.sh
  have HH := Lib.hid h
  by_cases hr : rightP t sp ss l.length = true
  case neg =>
    have e1 : walkE t sp ss l.length s f u = 2 := by unfold walkE; rw [if_neg hr]
    refine Calls.mono ?_ fun _ _ he => walkPost_no e1 (by decide) he
    rw [Bool.not_eq_true] at hr
    rw [hr] at hR
    have HR := Lib.hid hR
    clear hR hr e1 h
    go_enter Try.func31, Try.ntmps31
    go_wp2_with fail
    refine (HR.out _ (HH.out.alloc _)).mono ?_; rintro e1 w1 ⟨rfl, hb1⟩; have hz1 := hb1.size; (try simp at hz1)
    go_wp2
    go_ret2
    exact ⟨rfl, by (repeat (first | exact Below.refl _ _ | (with_reducible assumption) | refine Below.drew ?_ | refine Below.drewN' ?_ _ | refine Below.alloc ?_ (by first | omega | (simp; done) | (simp; omega)) _ | refine Below.setCell ?_ (by first | omega | (simp; done) | (simp; omega)) _ | refine Below.then ?_ hb9 (by first | omega | (simp; done) | (simp; omega)) | refine Below.then ?_ hb8 (by first | omega | (simp; done) | (simp; omega)) | refine Below.then ?_ hb7 (by first | omega | (simp; done) | (simp; omega)) | refine Below.then ?_ hb6 (by first | omega | (simp; done) | (simp; omega)) | refine Below.then ?_ hb5 (by first | omega | (simp; done) | (simp; omega)) | refine Below.then ?_ hb4 (by first | omega | (simp; done) | (simp; omega)) | refine Below.then ?_ hb3 (by first | omega | (simp; done) | (simp; omega)) | refine Below.then ?_ hb2 (by first | omega | (simp; done) | (simp; omega)) | refine Below.then ?_ hb1 (by first | omega | (simp; done) | (simp; omega))))⟩
  have hr' := hr
  unfold rightP at hr'
  simp only [Bool.and_eq_true, decide_eq_true_eq] at hr'
  obtain ⟨b1, b2, b3, b4, _⟩ := plan_ok hr'.1
  rw [hr] at hR
  have HR := Lib.hid hR
  clear hR
  cases hb : walkB sp s f u with
  | false =>
    have e1 : walkE t sp ss l.length s f u = 4 := by unfold walkE; rw [if_pos hr, hb]; rfl
    refine Calls.mono ?_ fun _ _ he => walkPost_no e1 (by decide) he
    have hrr : s < 0 ∨ (¬ s < 0 ∧ (1 < s ∨ (¬ 1 < s ∧ (f < 0 ∨ (¬ f < 0 ∧ (sp < u ∨ (¬ sp < u ∧ u < f))))))) := by
      unfold walkB at hb
      simp only [Bool.and_eq_false_iff, decide_eq_false_iff_not] at hb
      omega
    clear hr hr' h hb e1
    rcases hrr with hs | ⟨hs, hs1 | ⟨hs1, hf | ⟨hf, hu | ⟨hu, hfu⟩⟩⟩⟩
    all_goals (
      go_enter Try.func31, Try.ntmps31
      go_wp2_with fail
      refine (HR.out _ (HH.out.alloc _)).mono ?_; rintro e1 w1 ⟨rfl, hb1⟩; obtain ⟨hc1, hf1⟩ := bcell hb1; have hz1 := hb1.size; (try simp at hz1)
      have q1 := hc1 w.heap.size 1 (by first | omega | (simp; done) | (simp; omega)); simp [go_sem] at q1
      go_wp2
      go_ret2
      exact ⟨rfl, by (repeat (first | exact Below.refl _ _ | (with_reducible assumption) | refine Below.drew ?_ | refine Below.drewN' ?_ _ | refine Below.alloc ?_ (by first | omega | (simp; done) | (simp; omega)) _ | refine Below.setCell ?_ (by first | omega | (simp; done) | (simp; omega)) _ | refine Below.then ?_ hb9 (by first | omega | (simp; done) | (simp; omega)) | refine Below.then ?_ hb8 (by first | omega | (simp; done) | (simp; omega)) | refine Below.then ?_ hb7 (by first | omega | (simp; done) | (simp; omega)) | refine Below.then ?_ hb6 (by first | omega | (simp; done) | (simp; omega)) | refine Below.then ?_ hb5 (by first | omega | (simp; done) | (simp; omega)) | refine Below.then ?_ hb4 (by first | omega | (simp; done) | (simp; omega)) | refine Below.then ?_ hb3 (by first | omega | (simp; done) | (simp; omega)) | refine Below.then ?_ hb2 (by first | omega | (simp; done) | (simp; omega)) | refine Below.then ?_ hb1 (by first | omega | (simp; done) | (simp; omega))))⟩)
  | true =>
    have e1 : walkE t sp ss l.length s f u = 0 := by unfold walkE; rw [if_pos hr, hb]; rfl
    have e2 : walkR t sp ss l s f u = walkL t sp ss l (3 + 2 * t + s * sp + u) (3 + 2 * t + s * sp + f) := by unfold walkR; rw [if_pos e1]
    unfold WalkPost
    rw [e1, e2]
    unfold walkB at hb
    simp only [Bool.and_eq_true, decide_eq_true_eq] at hb
    obtain ⟨⟨⟨⟨s0, s1⟩, f0⟩, u1⟩, fu⟩ := hb
    have hm : 0 ≤ s * sp ∧ s * sp ≤ sp := by
      have : s = 0 ∨ s = 1 := by omega
      rcases this with rfl | rfl
      · omega
      · omega
    have BS := fun W => r7Base_calls t sp a c ss.length s (by omega) b1 b2 b3 b4 W
    have hll := hr'.2
    have hl4 := h.len
    have SZ : ∀ (i : Nat) (W : World), RIn W la l a ss → 3 + 2 * t ≤ (i : Int) → (i : Int) < 3 + 2 * t + s * sp + u → Calls Try.prog 67 #[.slice la l.length lc, .agg #[.int .i64 t, .int .i64 sp, .slice a ss.length c], .int .i64 (i : Int)] W fun e w' => e = .returned (.int .i64 (sizeO t sp ss (wordAt l i) i)) ∧ Below W.heap.size W w' := by
      intro i W hh hi0 hu
      have hsz : (i : Int) < szP t sp := by unfold szP; omega
      have hil : i < l.length := by omega
      have hw : wordAt l (i : Int) = l[i] := by unfold wordAt; rw [Int.toNat_natCast, List.getD_eq_getElem?_getD, List.getElem?_eq_getElem hil]; rfl
      rw [hw]
      exact r7Size_calls la lc l hh.rng hh.len t sp a c ss i hh.fit hr'.1 hi0 hsz hil W hh.wds hh.sh
    generalize hbv : 3 + 2 * t + s * sp = bv at BS SZ
    have hbv0 : 3 + 2 * t ≤ bv ∧ bv ≤ 3 + 2 * t + sp := by omega
    have hlw : (walkL t sp ss l (bv + u) (bv + f)).length ≤ 4096 := by
      have : (walkL t sp ss l (bv + u) (bv + f)).length ≤ ((bv + u) - (bv + f)).toNat := walkL_len _ _
      omega
    obtain ⟨i0, hi0, hi0z, hi0s, hi0b⟩ := info_parts infoInt
    have BS := Lib.hid BS
    have SZ := Lib.hid SZ
    clear hr hr' h e1 e2
    go_enter Try.func31, Try.ntmps31
    go_wp2_with fail
    refine (HR.out _ (HH.out.alloc _)).mono ?_; rintro e1 w1 ⟨rfl, hb1⟩; obtain ⟨hc1, hf1⟩ := bcell hb1; have hz1 := hb1.size; (try simp at hz1)
    have q0 := hc1 w.heap.size 0 (by first | omega | (simp; done) | (simp; omega)); simp [go_sem] at q0
    have q1 := hc1 w.heap.size 1 (by first | omega | (simp; done) | (simp; omega)); simp [go_sem] at q1
    have q2 := hc1 w.heap.size 2 (by first | omega | (simp; done) | (simp; omega)); simp [go_sem] at q2
    have l1 : w.heap.size < w1.heap.size := by first | omega | (simp; done) | (simp; omega)
    go_wp2_with fail
    refine (BS.out _).mono ?_; rintro e2 w2 ⟨rfl, hb2⟩; have hz2 := hb2.size; (try simp at hz2)
    replace q0 := hold_cell (w2 := w2) q0 (by (repeat (first | exact Below.refl _ _ | (with_reducible assumption) | refine Below.drew ?_ | refine Below.drewN' ?_ _ | refine Below.alloc ?_ (by first | omega | (simp; done) | (simp; omega)) _ | refine Below.setCell ?_ (by first | omega | (simp; done) | (simp; omega)) _ | refine Below.then ?_ hb9 (by first | omega | (simp; done) | (simp; omega)) | refine Below.then ?_ hb8 (by first | omega | (simp; done) | (simp; omega)) | refine Below.then ?_ hb7 (by first | omega | (simp; done) | (simp; omega)) | refine Below.then ?_ hb6 (by first | omega | (simp; done) | (simp; omega)) | refine Below.then ?_ hb5 (by first | omega | (simp; done) | (simp; omega)) | refine Below.then ?_ hb4 (by first | omega | (simp; done) | (simp; omega)) | refine Below.then ?_ hb3 (by first | omega | (simp; done) | (simp; omega)) | refine Below.then ?_ hb2 (by first | omega | (simp; done) | (simp; omega)) | refine Below.then ?_ hb1 (by first | omega | (simp; done) | (simp; omega))))) (by first | omega | (simp; done) | (simp; omega))
    replace q1 := hold_cell (w2 := w2) q1 (by (repeat (first | exact Below.refl _ _ | (with_reducible assumption) | refine Below.drew ?_ | refine Below.drewN' ?_ _ | refine Below.alloc ?_ (by first | omega | (simp; done) | (simp; omega)) _ | refine Below.setCell ?_ (by first | omega | (simp; done) | (simp; omega)) _ | refine Below.then ?_ hb9 (by first | omega | (simp; done) | (simp; omega)) | refine Below.then ?_ hb8 (by first | omega | (simp; done) | (simp; omega)) | refine Below.then ?_ hb7 (by first | omega | (simp; done) | (simp; omega)) | refine Below.then ?_ hb6 (by first | omega | (simp; done) | (simp; omega)) | refine Below.then ?_ hb5 (by first | omega | (simp; done) | (simp; omega)) | refine Below.then ?_ hb4 (by first | omega | (simp; done) | (simp; omega)) | refine Below.then ?_ hb3 (by first | omega | (simp; done) | (simp; omega)) | refine Below.then ?_ hb2 (by first | omega | (simp; done) | (simp; omega)) | refine Below.then ?_ hb1 (by first | omega | (simp; done) | (simp; omega))))) (by first | omega | (simp; done) | (simp; omega))
    replace q2 := hold_cell (w2 := w2) q2 (by (repeat (first | exact Below.refl _ _ | (with_reducible assumption) | refine Below.drew ?_ | refine Below.drewN' ?_ _ | refine Below.alloc ?_ (by first | omega | (simp; done) | (simp; omega)) _ | refine Below.setCell ?_ (by first | omega | (simp; done) | (simp; omega)) _ | refine Below.then ?_ hb9 (by first | omega | (simp; done) | (simp; omega)) | refine Below.then ?_ hb8 (by first | omega | (simp; done) | (simp; omega)) | refine Below.then ?_ hb7 (by first | omega | (simp; done) | (simp; omega)) | refine Below.then ?_ hb6 (by first | omega | (simp; done) | (simp; omega)) | refine Below.then ?_ hb5 (by first | omega | (simp; done) | (simp; omega)) | refine Below.then ?_ hb4 (by first | omega | (simp; done) | (simp; omega)) | refine Below.then ?_ hb3 (by first | omega | (simp; done) | (simp; omega)) | refine Below.then ?_ hb2 (by first | omega | (simp; done) | (simp; omega)) | refine Below.then ?_ hb1 (by first | omega | (simp; done) | (simp; omega))))) (by first | omega | (simp; done) | (simp; omega))
    have hb02 : Below w.heap.size w w2 := by (repeat (first | exact Below.refl _ _ | (with_reducible assumption) | refine Below.drew ?_ | refine Below.drewN' ?_ _ | refine Below.alloc ?_ (by first | omega | (simp; done) | (simp; omega)) _ | refine Below.setCell ?_ (by first | omega | (simp; done) | (simp; omega)) _ | refine Below.then ?_ hb9 (by first | omega | (simp; done) | (simp; omega)) | refine Below.then ?_ hb8 (by first | omega | (simp; done) | (simp; omega)) | refine Below.then ?_ hb7 (by first | omega | (simp; done) | (simp; omega)) | refine Below.then ?_ hb6 (by first | omega | (simp; done) | (simp; omega)) | refine Below.then ?_ hb5 (by first | omega | (simp; done) | (simp; omega)) | refine Below.then ?_ hb4 (by first | omega | (simp; done) | (simp; omega)) | refine Below.then ?_ hb3 (by first | omega | (simp; done) | (simp; omega)) | refine Below.then ?_ hb2 (by first | omega | (simp; done) | (simp; omega)) | refine Below.then ?_ hb1 (by first | omega | (simp; done) | (simp; omega))))
    go_wp2_with fail
    go_loopw [12, 14, 15] (fun out xv _ wr => ∃ (x : Int) (pre : List Int), xv = .int .i64 x ∧ f ≤ x ∧ x ≤ u + 16 ∧ pre ++ walkL t sp ss l (bv + u) (bv + x) = walkL t sp ss l (bv + u) (bv + f) ∧ wr.ownsRow w2.heap.size 3 1 out pre.length (pre.map (fun x => Value.int .i64 x)) ∧ Below w2.heap.size w2 wr) (fun _ xv _ _ => (u - intOf xv).toNat)
    case atStart => exact ⟨f, [], rfl, by omega, by omega, rfl, World.ownsRow_nil _ _ _ _, Below.refl _ _⟩
    case round =>
      obtain ⟨x, pre, rfl, hx0, hx1, hpre, hown, hB⟩ := hrel
      have hzB := hB.size
      obtain ⟨gf, gfc, rfl⟩ := owns_slice hown
      have lw2 : w.heap.size < w2.heap.size := by omega
      have r0 := (hB.cell (p := ⟨w.heap.size, 0, none⟩) lw2).trans q0
      have r1 := (hB.cell (p := ⟨w.heap.size, 1, none⟩) lw2).trans q1
      have r2 := (hB.cell (p := ⟨w.heap.size, 2, none⟩) lw2).trans q2
      have hb0r : Below w.heap.size w wr := hb02.trans (hB.mono (by omega))
      by_cases hlt : x < u
      · obtain ⟨i, hi⟩ : ∃ i : Nat, bv + x = (i : Int) := ⟨(bv + x).toNat, by omega⟩
        have hilt : (i : Int) < bv + u := by omega
        have SZi := SZ.out i wr (HH.out.below hb0r) (by omega) hilt
        rw [← hi] at SZi hilt
        have hsn := size_nonneg t sp ss (wordAt l (bv + x)) (bv + x)
        have hsm : sizeO t sp ss (wordAt l (bv + x)) (bv + x) ≤ sp := size_small b3
        by_cases hz : sizeO t sp ss (wordAt l (bv + x)) (bv + x) = 0
        · have hw1 := walkL_zero hilt hz
          rw [hw1, Int.add_assoc] at hpre
          rw [hz] at SZi
          have SZi := Lib.hid SZi
          have HP := Lib.hid hpre
          clear hpre hw1 hz hsn hsm hi
          go_wp2_with fail
          refine (SZi.out).mono ?_; rintro e3 w3 ⟨rfl, hb3⟩; have hz3 := hb3.size; (try simp at hz3)
          have hown3 := hown.kept (grown_of_below hb3) (Classical.em _)
          go_wp2
          go_roundw
          case rel => exact ⟨x + 1, pre, by go_num, by omega, by omega, HP.out, hown3, hB.trans (hb3.mono (by omega))⟩
          case measure => simp [intOf]; omega
        · have hw1 := walkL_obj hilt hz
          have hlen : pre.length < 4096 := by
            have h1 : pre.length < (walkL t sp ss l (bv + u) (bv + f)).length := by
              rw [← hpre, hw1, List.length_append, List.length_cons]
              omega
            omega
          have s2 := (size_two hz).1
          have s10 := (size_two hz).2.1
          rw [hw1, Int.add_assoc] at hpre
          generalize sizeO t sp ss (wordAt l (bv + x)) (bv + x) = nn at SZi hz hsn hsm hpre s2 s10
          have hnz : (nn == 0) = false := beq_eq_false_iff_ne.2 hz
          have SZi := Lib.hid SZi
          have HP := Lib.hid hpre
          clear hpre hw1 hz hi
          go_wp2_with fail
          refine (SZi.out).mono ?_; rintro e3 w3 ⟨rfl, hb3⟩; have hz3 := hb3.size; (try simp at hz3)
          have hown3 := hown.kept (grown_of_below hb3) (Classical.em _)
          go_wp2_with (at_builtin; go_loud (refine wpList_append_own _ rfl _ _ 78 rfl w2.heap.size 3 i0 (.int .i64 0) 1 8 Try.underlying78 hi0 hi0z hi0s hi0b rfl (by decide) _ _ _ rfl (hown3.alloc _) ⟨w3.heap.size, 0, none⟩ 1 1 [.int .i64 (bv + x)] rfl rfl (cell_one_new _ _ _) (by simp [Value.oneCell']) (by unfold maxLen; omega) (by omega) (by rw [World.size_alloc]; omega) ?_; intro v' w4 hown' hgrow hnil; obtain ⟨gn, gnc, rfl⟩ := owns_slice hown'))
          have hB4 : Below w2.heap.size w2 w4 := ((hB.trans (hb3.mono (by omega))).alloc (by omega) _).grown hgrow (by rw [World.size_alloc]; omega) (fun j ej => (hown3.lt j ej).1)
          go_roundw
          case rel => exact ⟨x + nn, pre ++ [bv + x], by go_num, by omega, by omega, by rw [List.append_assoc]; exact HP.out, by rw [List.length_append, List.map_append]; exact hown', hB4⟩
          case measure => simp [intOf]; omega
      · have he : walkL t sp ss l (bv + u) (bv + x) = [] := walkL_end (by omega)
        rw [he, List.append_nil] at hpre
        rw [hpre] at hown
        go_wp2
        go_ret2
        exact ⟨gf, ⟨gfc, rfl⟩, owns_ints hown, hb0r⟩
theorem i64_at {W : World} {a : Option Addr} {l : List Int} (h : IntsOf W a l) (k : Nat) (hk : k < l.length) : ∃ b o, a = some ⟨b, o, none⟩ ∧ b < W.heap.size ∧ W.cell? ⟨b, o + k, none⟩ = some (.int .i64 l[k]) := by
  rcases h with h | ⟨b, o, rfl, hb, hc⟩
  · have := congrArg List.length h
    rw [List.length_map, List.length_nil] at this
    omega
  · refine ⟨b, o, rfl, hb, ?_⟩
    have := hc k (by rw [List.length_map]; exact hk)
    rwa [List.getElem_map] at this
theorem r7LySize_calls (t sp : Int) (a : Option Addr) (c m : Nat) (b1 : 1 ≤ t) (b2 : t ≤ 8) (b3 : 32 ≤ sp) (b4 : sp ≤ 4096) (w : World) :
    Calls Try.prog 74 #[.agg #[.int .i64 t, .int .i64 sp, .slice a m c]] w fun e w' => e = .returned (.int .i64 (3 + 2 * t + 2 * sp)) ∧ Below w.heap.size w w' := by
  go_enter Try.func74, Try.ntmps74
  go_wp2
  go_ret
  exact ⟨rfl, by (repeat (first | exact Below.refl _ _ | (with_reducible assumption) | refine Below.drew ?_ | refine Below.drewN' ?_ _ | refine Below.alloc ?_ (by first | omega | (simp; done) | (simp; omega)) _ | refine Below.setCell ?_ (by first | omega | (simp; done) | (simp; omega)) _ | refine Below.then ?_ hb9 (by first | omega | (simp; done) | (simp; omega)) | refine Below.then ?_ hb8 (by first | omega | (simp; done) | (simp; omega)) | refine Below.then ?_ hb7 (by first | omega | (simp; done) | (simp; omega)) | refine Below.then ?_ hb6 (by first | omega | (simp; done) | (simp; omega)) | refine Below.then ?_ hb5 (by first | omega | (simp; done) | (simp; omega)) | refine Below.then ?_ hb4 (by first | omega | (simp; done) | (simp; omega)) | refine Below.then ?_ hb3 (by first | omega | (simp; done) | (simp; omega)) | refine Below.then ?_ hb2 (by first | omega | (simp; done) | (simp; omega)) | refine Below.then ?_ hb1 (by first | omega | (simp; done) | (simp; omega))))⟩
theorem rScalar0_calls (w : World) : Calls Try.prog 75 #[.int .i64 0] w fun e w' => e = .returned (.tuple #[.int .u64 4611686018427387908, .int .i64 0]) ∧ Below w.heap.size w w' := by
  go_enter Try.func75, Try.ntmps75
  go_wp2_with (go_at_call 100; go_in)
  go_ret2
  exact ⟨rfl, by (repeat (first | exact Below.refl _ _ | (with_reducible assumption) | refine Below.drew ?_ | refine Below.drewN' ?_ _ | refine Below.alloc ?_ (by first | omega | (simp; done) | (simp; omega)) _ | refine Below.setCell ?_ (by first | omega | (simp; done) | (simp; omega)) _ | refine Below.then ?_ hb9 (by first | omega | (simp; done) | (simp; omega)) | refine Below.then ?_ hb8 (by first | omega | (simp; done) | (simp; omega)) | refine Below.then ?_ hb7 (by first | omega | (simp; done) | (simp; omega)) | refine Below.then ?_ hb6 (by first | omega | (simp; done) | (simp; omega)) | refine Below.then ?_ hb5 (by first | omega | (simp; done) | (simp; omega)) | refine Below.then ?_ hb4 (by first | omega | (simp; done) | (simp; omega)) | refine Below.then ?_ hb3 (by first | omega | (simp; done) | (simp; omega)) | refine Below.then ?_ hb2 (by first | omega | (simp; done) | (simp; omega)) | refine Below.then ?_ hb1 (by first | omega | (simp; done) | (simp; omega))))⟩
set_option maxHeartbeats 800000 in
theorem rFront_calls (low sp : Int) (h0 : 0 ≤ low) (h1 : low ≤ sp) (h2 : sp ≤ 4096) (w : World) :
    Calls Try.prog 18 #[.agg #[.int .i64 0, .int .i64 low, .int .i64 sp, .int .i64 0]] w fun e w' => e = .returned (.tuple #[.int .u64 (2 * (low + 8192 * sp)), .int .i64 0]) ∧ Below w.heap.size w w' := by
  go_enter Try.func18, Try.ntmps18
  go_wp2_with (go_at_call 43; go_in)
  go_ret2
  exact ⟨by simp, by (repeat (first | exact Below.refl _ _ | (with_reducible assumption) | refine Below.drew ?_ | refine Below.drewN' ?_ _ | refine Below.alloc ?_ (by first | omega | (simp; done) | (simp; omega)) _ | refine Below.setCell ?_ (by first | omega | (simp; done) | (simp; omega)) _ | refine Below.then ?_ hb9 (by first | omega | (simp; done) | (simp; omega)) | refine Below.then ?_ hb8 (by first | omega | (simp; done) | (simp; omega)) | refine Below.then ?_ hb7 (by first | omega | (simp; done) | (simp; omega)) | refine Below.then ?_ hb6 (by first | omega | (simp; done) | (simp; omega)) | refine Below.then ?_ hb5 (by first | omega | (simp; done) | (simp; omega)) | refine Below.then ?_ hb4 (by first | omega | (simp; done) | (simp; omega)) | refine Below.then ?_ hb3 (by first | omega | (simp; done) | (simp; omega)) | refine Below.then ?_ hb2 (by first | omega | (simp; done) | (simp; omega)) | refine Below.then ?_ hb1 (by first | omega | (simp; done) | (simp; omega))))⟩

def stW (t sp : Int) (s : ByteArray) : Nat → List Int
  | 0 => ((List.replicate (3 + 2 * t + 2 * sp).toNat 0).set 1 (2 * (2 + s.size + 8192 * sp))).set (3 + 2 * t).toNat 6
  | k + 1 => if s.data.toList.getD k 0 = 115 then (stW t sp s k).set (3 + 2 * t + 2 + k).toNat 4611686018427387908 else stW t sp s k
theorem stW_len (t sp : Int) (s : ByteArray) : ∀ k, (stW t sp s k).length = (3 + 2 * t + 2 * sp).toNat
  | 0 => by simp [stW]
  | k + 1 => by
    unfold stW
    split
    · rw [List.length_set, stW_len t sp s k]
    · exact stW_len t sp s k
def startW (t sp : Int) (ss : List ByteArray) : List Int := stW t sp (ss.getD 0 ByteArray.empty) (ss.getD 0 ByteArray.empty).size
/-- a row of words of one's own -/
def RowAt (W : World) (g : Nat) (l : List Int) : Prop := W.heap[g]? = some (.cells (u64s l) 41 (0, 0))
theorem RowAt.below {W W' : World} {g : Nat} {l : List Int} (h : RowAt W g l) (hb : Below W.heap.size W W') : RowAt W' g l := (hb.block g (Array.getElem?_eq_some_iff.1 h).1).trans h
theorem RowAt.cell {W : World} {g : Nat} {l : List Int} (h : RowAt W g l) (i : Nat) (hi : i < l.length) : W.cell? ⟨g, i, none⟩ = some (.int .u64 l[i]) := by
  unfold RowAt at h
  simp [World.cell?, h, u64s, hi]
theorem RowAt.fz {W : World} {g : Nat} {l : List Int} (h : RowAt W g l) (i : Nat) : W.frozen? ⟨g, i, none⟩ = false := by
  unfold RowAt at h
  simp [World.frozen?, h]
theorem RowAt.set {W : World} {g : Nat} {l : List Int} (h : RowAt W g l) (i : Nat) (v : Int) : RowAt (W.setCell ⟨g, i, none⟩ (.int .u64 v)) g (l.set i v) := by
  unfold RowAt at h ⊢
  simp only [World.setCell, Array.getElem?_modify, if_true, h, Option.map_some]
  congr 2
  apply Array.ext'
  simp [u64s, List.map_set]
theorem RowAt.wds {W : World} {g : Nat} {l : List Int} (h : RowAt W g l) : WdsOf W (some ⟨g, 0, none⟩) l := by
  refine .inr ⟨g, 0, rfl, (Array.getElem?_eq_some_iff.1 h).1, fun i hi => ?_⟩
  rw [List.length_map] at hi
  rw [List.getElem_map, Nat.zero_add]
  exact h.cell i hi
theorem byte_at (s : ByteArray) (k : Nat) (h : k < s.size) : s.data.toList.getD k 0 = s[k] := by
  rw [List.getD_eq_getElem?_getD, List.getElem?_eq_getElem (by simpa using h)]
  simp
  rfl

set_option maxRecDepth 1000000 in
set_option maxHeartbeats 6400000 in
theorem startH_calls (t sp : Int) (a : Option Addr) (c : Nat) (ss : List ByteArray) (hp : planB t sp ss = true) (w : World) (h : SlOf w a (strV ss)) :
    Calls Try.prog 44 #[.agg #[.int .i64 t, .int .i64 sp, .slice a ss.length c]] w fun e w' => ∃ g, e = .returned (.slice (some ⟨g, 0, none⟩) (startW t sp ss).length (startW t sp ss).length) ∧ RowAt w' g (startW t sp ss) ∧ w.heap.size ≤ g ∧ Below w.heap.size w w' := by
  obtain ⟨b1, b2, b3, b4, b5⟩ := plan_ok hp
  have hl1 := (table_len b5).1
  have hs8 : (ss.getD 0 ByteArray.empty).size ≤ 8 := by
    rw [List.getD_eq_getElem?_getD, List.getElem?_eq_getElem (by omega), Option.getD_some]
    exact shape_size (table_at b5 0 (by omega))
  have e0 : (ss.getD 0 ByteArray.empty) = ss[0] := by rw [List.getD_eq_getElem?_getD, List.getElem?_eq_getElem (by omega), Option.getD_some]
  have hN : (((3 + 2 * t + 2 * sp).toNat : Nat) : Int) = 3 + 2 * t + 2 * sp := by omega
  have hT : (((3 + 2 * t).toNat : Nat) : Int) = 3 + 2 * t := by omega
  have hsl : (startW t sp ss).length = (3 + 2 * t + 2 * sp).toNat := stW_len _ _ _ _
  rw [hsl]
  rcases h with h | ⟨sb, so, rfl, hsb, hsc⟩
  · have := congrArg List.length h
    rw [strV_len, List.length_nil] at this
    omega
  have c0 := hsc 0 (by rw [strV_len]; omega)
  rw [strV_get ss 0 (by omega), ← e0] at c0
  have LS := Lib.hid (fun W => r7LySize_calls t sp (some ⟨sb, so, none⟩) c ss.length b1 b2 b3 b4 W)
  have BS := fun W => r7Base_calls t sp (some ⟨sb, so, none⟩) c ss.length 0 (.inl rfl) b1 b2 b3 b4 W
  simp only [Int.zero_mul, Int.add_zero] at BS
  have BS := Lib.hid BS
  have MK := fun W => run_makeU64 W (3 + 2 * t + 2 * sp).toNat (by omega)
  rw [hN] at MK
  have FR := Lib.hid (fun W => rFront_calls (2 + (ss.getD 0 ByteArray.empty).size) sp (by omega) (by omega) b4 W)
  have WD := fun W => refWord_calls 0 0 W (by decide)
  rw [show hWord 0 0 = 6 by decide] at WD
  have WD := Lib.hid WD
  have SC := Lib.hid (fun W => rScalar0_calls W)
  have hlen := fun k => stW_len t sp (ss.getD 0 ByteArray.empty) k
  have hst0 : stW t sp (ss.getD 0 ByteArray.empty) 0 = ((List.replicate (3 + 2 * t + 2 * sp).toNat 0).set 1 (2 * (2 + (ss.getD 0 ByteArray.empty).size + 8192 * sp))).set (3 + 2 * t).toNat 6 := rfl
  have hstk : ∀ k, stW t sp (ss.getD 0 ByteArray.empty) (k + 1) = if (ss.getD 0 ByteArray.empty).data.toList.getD k 0 = 115 then (stW t sp (ss.getD 0 ByteArray.empty) k).set (3 + 2 * t + 2 + k).toNat 4611686018427387908 else stW t sp (ss.getD 0 ByteArray.empty) k := fun k => rfl
  unfold startW
  have hl63 : (1 : Int) ≤ (ss.length : Int) := by omega
  have hlc : (0 : Int) < (ss.length : Int) := by omega
  generalize ss.getD 0 ByteArray.empty = s at c0 FR hs8 hlen hst0 hstk
  have HST0 := Lib.hid hst0
  have HSTK := Lib.hid hstk
  have HLEN := Lib.hid hlen
  clear hsc e0 hst0 hstk hlen hp b5 hsl
  go_enter Try.func44, Try.ntmps44
  go_wp2_with fail
  refine (LS.out _).mono ?_; rintro e1 w1 ⟨rfl, hb1⟩; obtain ⟨hc1, hf1⟩ := bcell hb1; have hz1 := hb1.size; (try simp at hz1)
  have q0 := hc1 w.heap.size 0 (by first | omega | (simp; done) | (simp; omega)); simp [go_sem] at q0
  have q1 := hc1 w.heap.size 1 (by first | omega | (simp; done) | (simp; omega)); simp [go_sem] at q1
  have q2 := hc1 w.heap.size 2 (by first | omega | (simp; done) | (simp; omega)); simp [go_sem] at q2
  have hb01 : Below w.heap.size w w1 := by (repeat (first | exact Below.refl _ _ | (with_reducible assumption) | refine Below.drew ?_ | refine Below.drewN' ?_ _ | refine Below.alloc ?_ (by first | omega | (simp; done) | (simp; omega)) _ | refine Below.setCell ?_ (by first | omega | (simp; done) | (simp; omega)) _ | refine Below.then ?_ hb9 (by first | omega | (simp; done) | (simp; omega)) | refine Below.then ?_ hb8 (by first | omega | (simp; done) | (simp; omega)) | refine Below.then ?_ hb7 (by first | omega | (simp; done) | (simp; omega)) | refine Below.then ?_ hb6 (by first | omega | (simp; done) | (simp; omega)) | refine Below.then ?_ hb5 (by first | omega | (simp; done) | (simp; omega)) | refine Below.then ?_ hb4 (by first | omega | (simp; done) | (simp; omega)) | refine Below.then ?_ hb3 (by first | omega | (simp; done) | (simp; omega)) | refine Below.then ?_ hb2 (by first | omega | (simp; done) | (simp; omega)) | refine Below.then ?_ hb1 (by first | omega | (simp; done) | (simp; omega))))
  have d0 := (hb01.cell (p := ⟨sb, so + 0, none⟩) hsb).trans c0
  rw [Nat.add_zero] at d0
  have l1 : w.heap.size < w1.heap.size := by first | omega | (simp; done) | (simp; omega)
  have l1s : sb < w1.heap.size := by first | omega | (simp; done) | (simp; omega)
  clear hc1 hf1
  go_wp2_with fail
  have hr1 : RowAt (w1.alloc (Obj.cells (u64s (List.replicate (3 + 2 * t + 2 * sp).toNat 0)) 41)) w1.heap.size (List.replicate (3 + 2 * t + 2 * sp).toNat 0) := (MapKept.heap_alloc w1 _).1
  have hbA : Below w1.heap.size w1 (w1.alloc (Obj.cells (u64s (List.replicate (3 + 2 * t + 2 * sp).toNat 0)) 41)) := (Below.refl _ _).alloc (Nat.le_refl _) _
  have hzA : (w1.alloc (Obj.cells (u64s (List.replicate (3 + 2 * t + 2 * sp).toNat 0)) 41)).heap.size = w1.heap.size + 1 := by simp
  generalize w1.alloc (Obj.cells (u64s (List.replicate (3 + 2 * t + 2 * sp).toNat 0)) 41) = wA at hr1 hbA hzA ⊢
  refine (FR.out _).mono ?_
  rintro e2 w2 ⟨rfl, hb2⟩
  have hb12 : Below w1.heap.size w1 w2 := hbA.trans (hb2.mono (by omega))
  have hz2 := hb2.size
  have hr2 := hr1.below hb2
  have hc12 := fun o => hb12.cell (p := ⟨w.heap.size, o, none⟩) l1
  have P0 := Lib.hid q0
  have P1 := Lib.hid q1
  have P2 := Lib.hid q2
  replace q0 := (hc12 0).trans q0
  replace q1 := (hc12 1).trans q1
  replace q2 := (hc12 2).trans q2
  have k1 := hr2.cell 1 (by rw [List.length_replicate]; omega)
  have z1 := hr2.fz 1
  have m1 : (1 : Int) < 3 + 2 * t + 2 * sp := by omega
  clear hc12
  go_wp2_with fail
  have hr3 := hr2.set 1 (2 * (2 + s.size + 8192 * sp))
  have hb13 : Below w1.heap.size w1 (w2.setCell ⟨w1.heap.size, 1, none⟩ (.int .u64 (2 * (2 + s.size + 8192 * sp)))) := hb12.setCell (Nat.le_refl _) _
  have hz3 : (w2.setCell ⟨w1.heap.size, 1, none⟩ (.int .u64 (2 * (2 + s.size + 8192 * sp)))).heap.size = w2.heap.size := setCell_size _ _ _
  generalize w2.setCell ⟨w1.heap.size, 1, none⟩ (.int .u64 (2 * (2 + s.size + 8192 * sp))) = w3 at hr3 hb13 hz3 ⊢
  refine (BS.out _).mono ?_
  rintro e4 w4 ⟨rfl, hb4⟩
  have hz4 := hb4.size
  have hr4 := hr3.below hb4
  have hb14 : Below w1.heap.size w1 w4 := hb13.trans (hb4.mono (by omega))
  go_wp2_with fail
  refine (WD.out _).mono ?_
  rintro e5 w5 ⟨rfl, hb5⟩
  have hz5 := hb5.size
  have hr5 := hr4.below hb5
  have hb15 : Below w1.heap.size w1 w5 := hb14.trans (hb5.mono (by omega))
  have k5 := hr5.cell (3 + 2 * t).toNat (by rw [List.length_set, List.length_replicate]; omega)
  have z5 := hr5.fz (3 + 2 * t).toNat
  have m5 : (3 + 2 * t : Int) < 3 + 2 * t + 2 * sp := by omega
  have m6 : (0 : Int) ≤ 3 + 2 * t := by omega
  clear k1 z1 m1 q0 q1 q2
  go_wp2_with fail
  have hr6 := hr5.set (3 + 2 * t).toNat 6
  rw [← HST0.out] at hr6
  have hb16 : Below w1.heap.size w1 (w5.setCell ⟨w1.heap.size, (3 + 2 * t).toNat, none⟩ (.int .u64 6)) := hb15.setCell (Nat.le_refl _) _
  generalize w5.setCell ⟨w1.heap.size, (3 + 2 * t).toNat, none⟩ (.int .u64 6) = w6 at hr6 hb16 ⊢
  clear k5 z5 m5 hr1 hr2 hr3 hr4 hr5 hb12 hb13 hb14 hb15 hb2 hb4 hb5 d0 hbA c0 HST0 hsb
  go_loopw [5] (fun iv wr => ∃ k : Nat, k ≤ s.size ∧ iv = .int .i64 k ∧ RowAt wr w1.heap.size (stW t sp s k) ∧ Below w1.heap.size w1 wr) (fun iv _ => s.size - (intOf iv).toNat)
  case atStart => exact ⟨0, Nat.zero_le _, rfl, hr6, hb16⟩
  case round =>
    obtain ⟨k, hk, rfl, hr, hB⟩ := hrel
    have hzB := hB.size
    have hcr := fun o => hB.cell (p := ⟨w.heap.size, o, none⟩) l1
    have r0 := (hcr 0).trans P0.out
    have r1 := (hcr 1).trans P1.out
    have r2 := (hcr 2).trans P2.out
    clear hcr
    have hln := HLEN.out k
    by_cases hlt : k < s.size
    · have hby := byte_at s k hlt
      have i1 : (k : Int) < (s.size : Int) := by omega
      have hsk := HSTK.out k
      rw [hby] at hsk
      by_cases h115 : s[k] = 115
      · have g1 : ((s[k].toNat : Int) == 115) = true := by rw [h115]; rfl
        rw [if_pos h115] at hsk
        have HSK := Lib.hid hsk
        clear hsk hby h115
        go_wp2_with fail
        refine (BS.out _).mono ?_
        rintro e7 w7 ⟨rfl, hb7⟩
        have hz7 := hb7.size
        have hr7 := hr.below hb7
        have hb17 : Below w1.heap.size w1 w7 := hB.trans (hb7.mono (by omega))
        go_wp2_with fail
        refine (SC.out _).mono ?_
        rintro e8 w8 ⟨rfl, hb8⟩
        have hz8 := hb8.size
        have hr8 := hr7.below hb8
        have hb18 : Below w1.heap.size w1 w8 := hb17.trans (hb8.mono (by omega))
        have k8 := hr8.cell (3 + 2 * t + 2 + k).toNat (by omega)
        have z8 := hr8.fz (3 + 2 * t + 2 + k).toNat
        have m8 : (3 + 2 * t + 2 + k : Int) < 3 + 2 * t + 2 * sp := by omega
        have m9 : (0 : Int) ≤ 3 + 2 * t + 2 + k := by omega
        have hr9 := hr8.set (3 + 2 * t + 2 + k).toNat 4611686018427387908
        rw [← HSK.out] at hr9
        have hb19 : Below w1.heap.size w1 (w8.setCell ⟨w1.heap.size, (3 + 2 * t + 2 + k).toNat, none⟩ (.int .u64 4611686018427387908)) := hb18.setCell (Nat.le_refl _) _
        have HR9 := Lib.hid hr9
        have HB9 := Lib.hid hb19
        clear hr9 hb19 hr hr7 hr8
        go_wp2
        go_roundw
        case rel => exact ⟨k + 1, by omega, by go_num, HR9.out, HB9.out⟩
        case measure => simp [intOf]; omega
      · have g1 : ((s[k].toNat : Int) == 115) = false := by
          rw [beq_eq_false_iff_ne]
          intro e
          apply h115
          have : s[k].toNat = 115 := by omega
          exact UInt8.toNat_inj.1 this
        rw [if_neg h115] at hsk
        have HR := Lib.hid (hsk ▸ hr : RowAt wr w1.heap.size (stW t sp s (k + 1)))
        clear hsk hby h115 hr
        go_wp2
        go_roundw
        case rel => exact ⟨k + 1, by omega, by go_num, HR.out, hB⟩
        case measure => simp [intOf]; omega
    · obtain rfl : k = s.size := by omega
      have HR := Lib.hid hr
      clear hr
      go_wp2
      go_ret
      exact ⟨w1.heap.size, rfl, HR.out, by omega, hb01.trans (hB.mono (by omega))⟩
end Go.Proofs.Ytafenndokmccoaa
