/- The layer 'object': which word of a space; how many words the object there has. -/
import Derived.Test.YtiodkcecpnomcaaObj
import Derived.Deep.RegionHeld3
namespace Go.Proofs.Ytiodkcecpnomcaa
open Go.RowKit
set_option linter.unusedVariables false
set_option linter.unusedSimpArgs false

/-- what a heap holds on to -/
structure HIn (W : World) (p b : Nat) (l : List Int) (B : Nat) (a : Option Addr) (ss : List ByteArray) : Prop where
  ar : Ar W p b l
  ld : W.cell? ⟨B, 0, none⟩ = some (.pointer (some ⟨p, 0, none⟩))
  lt : B < W.heap.size
  sh : SlOf W a (strV ss)
theorem HIn.below {W W' : World} {p b : Nat} {l : List Int} {B : Nat} {a : Option Addr} {ss : List ByteArray} (h : HIn W p b l B a ss) (hb : Below W.heap.size W W') : HIn W' p b l B a ss :=
  ⟨h.ar.below hb, hold_cell h.ld hb h.lt, Nat.lt_of_lt_of_le h.lt hb.size, h.sh.below hb⟩
theorem HIn.alloc {W : World} {p b : Nat} {l : List Int} {B : Nat} {a : Option Addr} {ss : List ByteArray} (h : HIn W p b l B a ss) (o : Obj) : HIn (W.alloc o) p b l B a ss := h.below ((Below.refl _ _).alloc (Nat.le_refl _) _)

def inV (t sp at_ : Int) : Int := (at_ - (3 + 2 * t)) % sp
set_option maxRecDepth 100000 in
set_option maxHeartbeats 800000 in
theorem inside_ok (t sp : Int) (a : Option Addr) (c : Nat) (ss : List ByteArray) (B : Nat) (at_ : Int) (hn : ss.length ≤ maxLen) (hp : planB t sp ss = true) (h0 : 3 + 2 * t ≤ at_) (h1 : at_ < szP t sp) (w : World) (hs : SlOf w a (strV ss)) :
    Calls Try.prog 41 #[heapV t sp a ss.length c B, .int .i64 at_] w fun e w' => e = .returned (.int .i64 (inV t sp at_)) ∧ Below w.heap.size w w' := by
  obtain ⟨b1, b2, b3, b4, _⟩ := plan_ok hp
  have hP := fun W h => layPart_calls t sp a c ss at_ hn W h
  have e0 := part_ok hp (show 0 ≤ at_ by omega) h1
  have e1 : partK t sp ss at_ = 6 := by unfold partK; rw [if_pos e0, if_neg (by omega), if_neg (by omega), if_neg (by omega)]
  have e2 : partA t sp ss at_ = inV t sp at_ := by unfold partA inV; rw [if_pos e0, if_neg (by omega)]
  rw [e0, e1, e2] at hP
  generalize partN t sp ss at_ = nn at hP
  have HP := Lib.hid hP
  have HM := Lib.hid (fun n W => must_ok n W)
  have HS := Lib.hid hs
  clear hP e0 e1 e2 hp hs
  unfold heapV
  go_enter Try.func41, Try.ntmps41
  go_wp2_with fail
  refine (HP.out _ (HS.out.alloc _)).mono ?_; rintro e1 w1 ⟨rfl, hb1⟩; have hz1 := hb1.size; (try simp at hz1)
  go_wp2_with fail
  refine (HM.out _ _).mono ?_; rintro e2 w2 ⟨rfl, hb2⟩; obtain ⟨hc2, hf2⟩ := bcell hb2; have hz2 := hb2.size; (try simp at hz2)
  have v2 := hc2 w1.heap.size 2 (by first | omega | (simp; done) | (simp; omega)); simp [go_sem] at v2
  go_wp2
  go_ret
  exact ⟨rfl, by (repeat (first | exact Below.refl _ _ | (with_reducible assumption) | refine Below.drew ?_ | refine Below.drewN' ?_ _ | refine Below.alloc ?_ (by first | omega | (simp; done) | (simp; omega)) _ | refine Below.setCell ?_ (by first | omega | (simp; done) | (simp; omega)) _ | refine Below.then ?_ hb9 (by first | omega | (simp; done) | (simp; omega)) | refine Below.then ?_ hb8 (by first | omega | (simp; done) | (simp; omega)) | refine Below.then ?_ hb7 (by first | omega | (simp; done) | (simp; omega)) | refine Below.then ?_ hb6 (by first | omega | (simp; done) | (simp; omega)) | refine Below.then ?_ hb5 (by first | omega | (simp; done) | (simp; omega)) | refine Below.then ?_ hb4 (by first | omega | (simp; done) | (simp; omega)) | refine Below.then ?_ hb3 (by first | omega | (simp; done) | (simp; omega)) | refine Below.then ?_ hb2 (by first | omega | (simp; done) | (simp; omega)) | refine Below.then ?_ hb1 (by first | omega | (simp; done) | (simp; omega))))⟩
set_option maxRecDepth 100000 in
set_option maxHeartbeats 800000 in
theorem inside_no (t sp : Int) (a : Option Addr) (c : Nat) (ss : List ByteArray) (B : Nat) (at_ : Int) (hn : ss.length ≤ maxLen) (hp : planB t sp ss = true) (h0 : at_ < 3 + 2 * t ∨ szP t sp ≤ at_) (w : World) (hs : SlOf w a (strV ss)) :
    Calls Try.prog 41 #[heapV t sp a ss.length c B, .int .i64 at_] w fun e w' => e = .panicked (up 4) ∧ Below w.heap.size w w' := by
  obtain ⟨b1, b2, b3, b4, _⟩ := plan_ok hp
  have hP := fun W h => layPart_calls t sp a c ss at_ hn W h
  have hno : ((partE t sp ss at_ == 0) = true ∧ (partK t sp ss at_ == 6) = false) ∨ (partE t sp ss at_ == 0) = false := by
    by_cases e : partE t sp ss at_ = 0
    · left
      refine ⟨by rw [beq_iff_eq]; exact e, ?_⟩
      rw [beq_eq_false_iff_ne]
      unfold partK
      rw [if_pos e]
      have : 0 ≤ at_ ∧ at_ < szP t sp := by
        unfold partE placeE at e
        rw [if_pos hp] at e
        by_cases h : at_ < 0 ∨ szP t sp ≤ at_
        · rw [if_pos h] at e; cases e
        · omega
      have hlt : at_ < 3 + 2 * t := by omega
      by_cases c1 : at_ < 3
      · rw [if_pos c1]; omega
      · rw [if_neg c1]
        by_cases c2 : at_ < 3 + t
        · rw [if_pos c2]; decide
        · rw [if_neg c2, if_pos hlt]; decide
    · right
      rw [beq_eq_false_iff_ne]; exact e
  generalize partE t sp ss at_ = ee at hP hno
  generalize partK t sp ss at_ = kk at hP hno
  generalize partN t sp ss at_ = nn at hP
  generalize partA t sp ss at_ = aa at hP
  have HP := Lib.hid hP
  have HM := Lib.hid (fun n W => must_no n W)
  have HS := Lib.hid hs
  clear hP hp hs h0
  unfold heapV
  rcases hno with ⟨g1, g2⟩ | g1
  · go_enter Try.func41, Try.ntmps41
    go_wp2_with fail
    refine (HP.out _ (HS.out.alloc _)).mono ?_; rintro e1 w1 ⟨rfl, hb1⟩; have hz1 := hb1.size; (try simp at hz1)
    go_wp2_with fail
    refine (HM.out _ _).mono ?_; rintro e2 w2 ⟨rfl, hb2⟩; have hz2 := hb2.size; (try simp at hz2)
    go_wp2
    simp only [bodyPost]; refine ⟨by trivial, by first | trivial | rfl, ?_⟩; (repeat (first | exact Below.refl _ _ | (with_reducible assumption) | refine Below.drew ?_ | refine Below.drewN' ?_ _ | refine Below.alloc ?_ (by first | omega | (simp; done) | (simp; omega)) _ | refine Below.setCell ?_ (by first | omega | (simp; done) | (simp; omega)) _ | refine Below.then ?_ hb9 (by first | omega | (simp; done) | (simp; omega)) | refine Below.then ?_ hb8 (by first | omega | (simp; done) | (simp; omega)) | refine Below.then ?_ hb7 (by first | omega | (simp; done) | (simp; omega)) | refine Below.then ?_ hb6 (by first | omega | (simp; done) | (simp; omega)) | refine Below.then ?_ hb5 (by first | omega | (simp; done) | (simp; omega)) | refine Below.then ?_ hb4 (by first | omega | (simp; done) | (simp; omega)) | refine Below.then ?_ hb3 (by first | omega | (simp; done) | (simp; omega)) | refine Below.then ?_ hb2 (by first | omega | (simp; done) | (simp; omega)) | refine Below.then ?_ hb1 (by first | omega | (simp; done) | (simp; omega))))
  · go_enter Try.func41, Try.ntmps41
    go_wp2_with fail
    refine (HP.out _ (HS.out.alloc _)).mono ?_; rintro e1 w1 ⟨rfl, hb1⟩; have hz1 := hb1.size; (try simp at hz1)
    go_wp2_with fail
    refine (HM.out _ _).mono ?_; rintro e2 w2 ⟨rfl, hb2⟩; have hz2 := hb2.size; (try simp at hz2)
    go_wp2
    simp only [bodyPost]; refine ⟨by trivial, by first | trivial | rfl, ?_⟩; (repeat (first | exact Below.refl _ _ | (with_reducible assumption) | refine Below.drew ?_ | refine Below.drewN' ?_ _ | refine Below.alloc ?_ (by first | omega | (simp; done) | (simp; omega)) _ | refine Below.setCell ?_ (by first | omega | (simp; done) | (simp; omega)) _ | refine Below.then ?_ hb9 (by first | omega | (simp; done) | (simp; omega)) | refine Below.then ?_ hb8 (by first | omega | (simp; done) | (simp; omega)) | refine Below.then ?_ hb7 (by first | omega | (simp; done) | (simp; omega)) | refine Below.then ?_ hb6 (by first | omega | (simp; done) | (simp; omega)) | refine Below.then ?_ hb5 (by first | omega | (simp; done) | (simp; omega)) | refine Below.then ?_ hb4 (by first | omega | (simp; done) | (simp; omega)) | refine Below.then ?_ hb3 (by first | omega | (simp; done) | (simp; omega)) | refine Below.then ?_ hb2 (by first | omega | (simp; done) | (simp; omega)) | refine Below.then ?_ hb1 (by first | omega | (simp; done) | (simp; omega))))

def sizeO (t sp : Int) (ss : List ByteArray) (x at_ : Int) : Int := if hSizeE x ss = 0 ∧ hSizeN x ss ≤ sp - inV t sp at_ then hSizeN x ss else 0
theorem inV_range {t sp at_ : Int} (h : 32 ≤ sp) : 0 ≤ inV t sp at_ ∧ inV t sp at_ < sp := by
  unfold inV
  exact ⟨Int.emod_nonneg _ (by omega), Int.emod_lt_of_pos _ (by omega)⟩
theorem shape_small {ss : List ByteArray} {i : Int} (h : ofE ss i = 0) : (ss.getD i.toNat ByteArray.empty).size ≤ 8 := by
  have hT : tableB ss = true := by
    unfold ofE at h
    by_cases c : tableB ss = true
    · exact c
    · rw [if_neg c] at h; cases h
  have hr : 0 ≤ i ∧ i < ss.length := by
    unfold ofE at h
    rw [if_pos hT] at h
    by_cases c : 0 ≤ i ∧ i < ss.length
    · exact c
    · rw [if_neg c] at h; cases h
  have hlt : i.toNat < ss.length := by omega
  rw [List.getD_eq_getElem?_getD, List.getElem?_eq_getElem hlt, Option.getD_some]
  unfold tableB at hT
  simp only [Bool.and_eq_true, List.all_eq_true] at hT
  have := hT.2 _ (List.getElem_mem hlt)
  unfold shapeB at this
  simp only [Bool.and_eq_true, decide_eq_true_eq] at this
  exact this.2
set_option maxRecDepth 1000000 in
set_option maxHeartbeats 3200000 in
theorem objSize_calls (p b : Nat) (l : List Int) (t sp : Int) (a : Option Addr) (c : Nat) (ss : List ByteArray) (B : Nat) (i : Nat) (hn : ss.length ≤ maxLen) (hp : planB t sp ss = true) (h0 : 3 + 2 * t ≤ i) (h1 : (i : Int) < szP t sp) (hi : i < l.length) (w : World) (h : HIn w p b l B a ss) :
    Calls Try.prog 58 #[heapV t sp a ss.length c B, .int .i64 (i : Int)] w fun e w' => e = .returned (.int .i64 (sizeO t sp ss l[i] i)) ∧ Below w.heap.size w w' := by
  obtain ⟨b1, b2, b3, b4, _⟩ := plan_ok hp
  have hr := h.ar.rng l[i] (List.getElem_mem hi)
  obtain ⟨r1, r2⟩ := inV_range (t := t) (at_ := (i : Int)) b3
  have HL := Lib.hid (fun W (h : HIn W p b l B a ss) => objLoad_calls p b l i hi B W h.ar h.ld)
  have hZ := fun W h => hSize_calls l[i] hr.1 hr.2 a c ss hn W h
  have hI := fun W h => inside_ok t sp a c ss B (i : Int) hn hp h0 h1 W h
  unfold heapV at hI
  have HI := Lib.hid hI
  have HH := Lib.hid h
  have hsz : sizeO t sp ss l[i] i = if hSizeE l[i] ss = 0 ∧ hSizeN l[i] ss ≤ sp - inV t sp i then hSizeN l[i] ss else 0 := rfl
  rw [hsz]
  have hNr : 0 ≤ hSizeN l[i] ss ∧ hSizeN l[i] ss ≤ 10 := by
    unfold hSizeN
    split
    · unfold sizeN
      split
      · rename_i hz
        have := shape_small hz
        omega
      · omega
    · omega
  generalize hSizeE l[i] ss = ee at hZ
  generalize hSizeN l[i] ss = nn at hZ hNr
  have HZ := Lib.hid hZ
  have keepS := Lib.hid (show ∀ A B' : World, (A.cell? ⟨w.heap.size, 0, none⟩ = some (.int .i64 t) ∧ A.cell? ⟨w.heap.size, 1, none⟩ = some (.int .i64 sp) ∧ A.cell? ⟨w.heap.size, 2, none⟩ = some (.slice a ss.length c) ∧ A.cell? ⟨w.heap.size, 3, none⟩ = some (.func (.func 56) #[] #[.pointer (some ⟨B, 0, none⟩)]) ∧ w.heap.size + 1 ≤ A.heap.size ∧ HIn A p b l B a ss ∧ Below w.heap.size w A) → Below A.heap.size A B' → (B'.cell? ⟨w.heap.size, 0, none⟩ = some (.int .i64 t) ∧ B'.cell? ⟨w.heap.size, 1, none⟩ = some (.int .i64 sp) ∧ B'.cell? ⟨w.heap.size, 2, none⟩ = some (.slice a ss.length c) ∧ B'.cell? ⟨w.heap.size, 3, none⟩ = some (.func (.func 56) #[] #[.pointer (some ⟨B, 0, none⟩)]) ∧ w.heap.size + 1 ≤ B'.heap.size ∧ HIn B' p b l B a ss ∧ Below w.heap.size w B') from fun A B' hc hb => ⟨hold_cell hc.1 hb (by have := hc.2.2.2.2.1; show w.heap.size < _; omega), hold_cell hc.2.1 hb (by have := hc.2.2.2.2.1; show w.heap.size < _; omega), hold_cell hc.2.2.1 hb (by have := hc.2.2.2.2.1; show w.heap.size < _; omega), hold_cell hc.2.2.2.1 hb (by have := hc.2.2.2.2.1; show w.heap.size < _; omega), Nat.le_trans hc.2.2.2.2.1 hb.size, hc.2.2.2.2.2.1.below hb, Below.then hc.2.2.2.2.2.2 hb (by have := hc.2.2.2.2.1; omega)⟩)
  have hinS := Lib.hid (show ∀ A : World, (A.cell? ⟨w.heap.size, 0, none⟩ = some (.int .i64 t) ∧ A.cell? ⟨w.heap.size, 1, none⟩ = some (.int .i64 sp) ∧ A.cell? ⟨w.heap.size, 2, none⟩ = some (.slice a ss.length c) ∧ A.cell? ⟨w.heap.size, 3, none⟩ = some (.func (.func 56) #[] #[.pointer (some ⟨B, 0, none⟩)]) ∧ w.heap.size + 1 ≤ A.heap.size ∧ HIn A p b l B a ss ∧ Below w.heap.size w A) → HIn A p b l B a ss from fun A hc => hc.2.2.2.2.2.1)
  clear hI hZ h hsz hp
  unfold heapV
  go_enter Try.func58, Try.ntmps58
  go_wp2_with fail
  go_region_held3 (fun w' => w'.cell? ⟨w.heap.size, 0, none⟩ = some (.int .i64 t) ∧ w'.cell? ⟨w.heap.size, 1, none⟩ = some (.int .i64 sp) ∧ w'.cell? ⟨w.heap.size, 2, none⟩ = some (.slice a ss.length c) ∧ w'.cell? ⟨w.heap.size, 3, none⟩ = some (.func (.func 56) #[] #[.pointer (some ⟨B, 0, none⟩)]) ∧ w.heap.size + 1 ≤ w'.heap.size ∧ HIn w' p b l B a ss ∧ Below w.heap.size w w') (first | (refine ⟨by simp [go_sem], by simp [go_sem], by simp [go_sem], by simp [go_sem], by simp [go_sem], (HH.out.alloc _).below (Below.refl _ _).drew, ?_⟩; (repeat (first | exact Below.refl _ _ | (with_reducible assumption) | refine Below.drew ?_ | refine Below.drewN' ?_ _ | refine Below.alloc ?_ (by first | omega | (simp; done) | (simp; omega)) _ | refine Below.setCell ?_ (by first | omega | (simp; done) | (simp; omega)) _ | refine Below.then ?_ hb9 (by first | omega | (simp; done) | (simp; omega)) | refine Below.then ?_ hb8 (by first | omega | (simp; done) | (simp; omega)) | refine Below.then ?_ hb7 (by first | omega | (simp; done) | (simp; omega)) | refine Below.then ?_ hb6 (by first | omega | (simp; done) | (simp; omega)) | refine Below.then ?_ hb5 (by first | omega | (simp; done) | (simp; omega)) | refine Below.then ?_ hb4 (by first | omega | (simp; done) | (simp; omega)) | refine Below.then ?_ hb3 (by first | omega | (simp; done) | (simp; omega)) | refine Below.then ?_ hb2 (by first | omega | (simp; done) | (simp; omega)) | refine Below.then ?_ hb1 (by first | omega | (simp; done) | (simp; omega))))) | exact keepS.out _ _ (by assumption) hb1 | exact keepS.out _ _ (by assumption) hb2 | (simp [*, go_sem]; done)) (first | (go_at_call 56; refine (HL.out _ (hinS.out _ (by assumption))).mono ?_; rintro e1 w1 ⟨rfl, hb1⟩; have hz1 := hb1.size; (try simp at hz1)) | (go_at_call 40; refine (HZ.out _ (hinS.out _ (by assumption)).sh).mono ?_; rintro e2 w2 ⟨rfl, hb2⟩; have hz2 := hb2.size; (try simp at hz2)))
  have hS2 : w2.cell? ⟨w.heap.size, 0, none⟩ = some (.int .i64 t) ∧ w2.cell? ⟨w.heap.size, 1, none⟩ = some (.int .i64 sp) ∧ w2.cell? ⟨w.heap.size, 2, none⟩ = some (.slice a ss.length c) ∧ w2.cell? ⟨w.heap.size, 3, none⟩ = some (.func (.func 56) #[] #[.pointer (some ⟨B, 0, none⟩)]) ∧ w.heap.size + 1 ≤ w2.heap.size ∧ HIn w2 p b l B a ss ∧ Below w.heap.size w w2 := by assumption
  by_cases he : ee = 0
  · subst he
    have hwr : IntKind.i64.wrap (sp - inV t sp (i : Int)) = sp - inV t sp (i : Int) := IntWalk.i64_in _ (by omega)
    go_wp2_with fail
    go_region_held3 (fun w' => w'.cell? ⟨w.heap.size, 0, none⟩ = some (.int .i64 t) ∧ w'.cell? ⟨w.heap.size, 1, none⟩ = some (.int .i64 sp) ∧ w'.cell? ⟨w.heap.size, 2, none⟩ = some (.slice a ss.length c) ∧ w'.cell? ⟨w.heap.size, 3, none⟩ = some (.func (.func 56) #[] #[.pointer (some ⟨B, 0, none⟩)]) ∧ w.heap.size + 1 ≤ w'.heap.size ∧ HIn w' p b l B a ss ∧ Below w.heap.size w w') (first | (refine keepS.out w2 _ hS2 ?_; exact (Below.refl _ _).drew) | exact keepS.out _ _ (by assumption) hb3 | (simp [*, go_sem]; done)) (first | (go_at_call 41; refine (HI.out _ (hinS.out _ (by assumption)).sh).mono ?_; rintro e3 w3 ⟨rfl, hb3⟩; have hz3 := hb3.size; (try simp at hz3)))
    by_cases hcmp : sp - inV t sp (i : Int) < nn
    · have hc2 : ¬ nn ≤ sp - inV t sp (i : Int) := by omega
      go_wp2
      go_ret
      exact ⟨by first | rfl | simp [hc2], by (repeat (first | exact Below.refl _ _ | (with_reducible assumption) | refine Below.drew ?_ | refine Below.drewN' ?_ _ | refine Below.alloc ?_ (by first | omega | (simp; done) | (simp; omega)) _ | refine Below.setCell ?_ (by first | omega | (simp; done) | (simp; omega)) _ | refine Below.then ?_ hb9 (by first | omega | (simp; done) | (simp; omega)) | refine Below.then ?_ hb8 (by first | omega | (simp; done) | (simp; omega)) | refine Below.then ?_ hb7 (by first | omega | (simp; done) | (simp; omega)) | refine Below.then ?_ hb6 (by first | omega | (simp; done) | (simp; omega)) | refine Below.then ?_ hb5 (by first | omega | (simp; done) | (simp; omega)) | refine Below.then ?_ hb4 (by first | omega | (simp; done) | (simp; omega)) | refine Below.then ?_ hb3 (by first | omega | (simp; done) | (simp; omega)) | refine Below.then ?_ hb2 (by first | omega | (simp; done) | (simp; omega)) | refine Below.then ?_ hb1 (by first | omega | (simp; done) | (simp; omega))))⟩
    · have hc2 : nn ≤ sp - inV t sp (i : Int) := by omega
      go_wp2
      go_ret
      exact ⟨by first | rfl | simp [hc2], by (repeat (first | exact Below.refl _ _ | (with_reducible assumption) | refine Below.drew ?_ | refine Below.drewN' ?_ _ | refine Below.alloc ?_ (by first | omega | (simp; done) | (simp; omega)) _ | refine Below.setCell ?_ (by first | omega | (simp; done) | (simp; omega)) _ | refine Below.then ?_ hb9 (by first | omega | (simp; done) | (simp; omega)) | refine Below.then ?_ hb8 (by first | omega | (simp; done) | (simp; omega)) | refine Below.then ?_ hb7 (by first | omega | (simp; done) | (simp; omega)) | refine Below.then ?_ hb6 (by first | omega | (simp; done) | (simp; omega)) | refine Below.then ?_ hb5 (by first | omega | (simp; done) | (simp; omega)) | refine Below.then ?_ hb4 (by first | omega | (simp; done) | (simp; omega)) | refine Below.then ?_ hb3 (by first | omega | (simp; done) | (simp; omega)) | refine Below.then ?_ hb2 (by first | omega | (simp; done) | (simp; omega)) | refine Below.then ?_ hb1 (by first | omega | (simp; done) | (simp; omega))))⟩
  · have g1 : (ee != 0) = true := bne_iff_ne.2 he
    obtain ⟨c0, c1, c2, c3, c4, c5, c6⟩ := hS2
    go_wp2_with fail
    go_quiet (fail)
    go_wp2
    go_ret
    exact ⟨rfl, by (repeat (first | exact Below.refl _ _ | (with_reducible assumption) | refine Below.drew ?_ | refine Below.drewN' ?_ _ | refine Below.alloc ?_ (by first | omega | (simp; done) | (simp; omega)) _ | refine Below.setCell ?_ (by first | omega | (simp; done) | (simp; omega)) _ | refine Below.then ?_ hb9 (by first | omega | (simp; done) | (simp; omega)) | refine Below.then ?_ hb8 (by first | omega | (simp; done) | (simp; omega)) | refine Below.then ?_ hb7 (by first | omega | (simp; done) | (simp; omega)) | refine Below.then ?_ hb6 (by first | omega | (simp; done) | (simp; omega)) | refine Below.then ?_ hb5 (by first | omega | (simp; done) | (simp; omega)) | refine Below.then ?_ hb4 (by first | omega | (simp; done) | (simp; omega)) | refine Below.then ?_ hb3 (by first | omega | (simp; done) | (simp; omega)) | refine Below.then ?_ hb2 (by first | omega | (simp; done) | (simp; omega)) | refine Below.then ?_ hb1 (by first | omega | (simp; done) | (simp; omega))))⟩
end Go.Proofs.Ytiodkcecpnomcaa
