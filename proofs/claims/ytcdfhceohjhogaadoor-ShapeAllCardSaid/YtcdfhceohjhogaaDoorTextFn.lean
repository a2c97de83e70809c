/- The layer 'shape': a table's text. -/
import Derived.Test.YtcdfhceohjhogaaDoorShapeText
import Derived.Test.YtcdfhceohjhogaaDoorShelf
import Derived.OwnWalk
import Derived.Lib.Join
namespace Go.Proofs.YtcdfhceohjhogaaDoor
open Go.RowKit Go.Shelf
set_option linter.unusedVariables false
set_option linter.unusedSimpArgs false
attribute [local go_sem] Oper.semAt_some

/-- a shape's piece of the text; the text -/
def dash : ByteArray := ⟨#[45]⟩
def pieceOf (s : ByteArray) : ByteArray := if s.size = 0 then dash else s
def textOf (ss : List ByteArray) : ByteArray := ⟨(Lib.join ((ss.map pieceOf).map (·.data.toList)) [32]).toArray⟩
def textS (ss : List ByteArray) : ByteArray := if tableB ss = true then textOf ss else ⟨#[]⟩

theorem fieldsOf_size {s : ByteArray} (h : shapeB s = true) : (fieldsOf s).length = s.size := by
  unfold fieldsOf; rw [if_pos h, fieldsTo_len]
theorem pieceOf_small {s : ByteArray} (h : s.size ≤ 8) : (pieceOf s).data.toList.length ≤ 8 := by
  unfold pieceOf
  split
  · simp [dash]
  · simpa using h
theorem lens_small (l : List (List UInt8)) (m : Nat) (h : ∀ x ∈ l, x.length ≤ m) : Lib.lens l ≤ l.length * m := by
  induction l with
  | nil => simp [Lib.lens]
  | cons x r ih =>
    have h1 := h x (by simp)
    have h2 := ih (fun y hy => h y (by simp [hy]))
    have e : Lib.lens (x :: r) = x.length + Lib.lens r := by simp [Lib.lens]
    rw [e, List.length_cons, Nat.succ_mul]
    omega
theorem join_small (l : List (List UInt8)) (m : Nat) (h : ∀ x ∈ l, x.length ≤ m) : (Lib.join l [32]).length ≤ l.length * (m + 1) := by
  cases l with
  | nil => simp [Lib.join_nil]
  | cons x r =>
    rw [Lib.join_length]
    have := lens_small (x :: r) m h
    rw [Nat.mul_add]
    simp at this ⊢
    omega

theorem infoStr : (Tryd.prog.info? 9).map (fun i => (i.zero, i.size, i.bytes)) = some (some (.string ByteArray.empty), 1, 16) := by kernel_rfl

set_option maxHeartbeats 1600000 in
theorem textFn_calls (a : Option Addr) (c : Nat) (ss : List ByteArray) (ht : tableB ss = true) (B : Nat) (w : World) (h : SlOf w a (strV ss)) (_hB : B < w.heap.size) (hbx : w.cell? ⟨B, 0, none⟩ = some (.slice a ss.length c)) :
    Calls Tryd.prog 65 #[.pointer (some ⟨B, 0, none⟩)] w fun e w' => e = .returned (.string (textOf ss)) ∧ Below w.heap.size w w' := by
  have HS := Lib.hid h
  have hlen := table_len ht
  obtain ⟨i0, hi, hi0, hi1, hi2⟩ := info_parts infoStr
  clear h
  go_enter Tryd.func65, Tryd.ntmps65
  go_wp2
  go_loopw [2, 7] (fun out i wr => ∃ k : Nat, k ≤ ss.length ∧ i = .int .i64 k ∧ Below w.heap.size w wr ∧ wr.ownsRow w.heap.size 9 1 out k (((ss.map pieceOf).take k).map Value.string)) (fun _ i _ => ss.length - (intOf i).toNat)
  case atStart => exact ⟨0, Nat.zero_le _, rfl, Below.refl _ _, World.ownsRow_nil _ _ _ _⟩
  case round =>
    obtain ⟨k, hk, rfl, hBe, hown⟩ := hrel
    have hzB := hBe.size
    by_cases hlt : k < ss.length
    · rcases HS.out.below hBe with h0 | ⟨b, o, rfl, hbl, hcell⟩
      · have := congrArg List.length h0; rw [strV_len, List.length_nil] at this; omega
      have hcx := hcell k (by rw [strV_len]; exact hlt)
      rw [strV_get ss k hlt] at hcx
      clear hcell
      have hfl := fieldsOf_size (table_at ht k hlt)
      have hfc := fun w => fields_calls ss[k] w
      rw [hfl] at hfc
      have HF := Lib.hid hfc
      have hp : ((ss.map pieceOf).take (k + 1)).map Value.string = ((ss.map pieceOf).take k).map Value.string ++ [.string (pieceOf ss[k])] := by
        rw [List.take_add_one]; simp [hlt]
      have HP := Lib.hid hp
      clear hfc hfl hp
      by_cases hs0 : ss[k].size = 0
      · have hpc : pieceOf ss[k] = ⟨#[45]⟩ := by unfold pieceOf; rw [if_pos hs0]; rfl
        rw [hpc] at HP
        rw [hs0] at HF
        clear hpc hs0
        go_wp2_with fail
        refine (HF.out _).mono ?_; rintro e1 w1 ⟨rfl, hb1⟩; have hz1 := hb1.size; (try simp at hz1)
        have hown1 := hown.kept (grown_of_below hb1) (Classical.em _)
        go_wp2_with (at_builtin; go_loud (refine wpList_append_own _ rfl _ _ 94 rfl w.heap.size 9 i0 (.string ByteArray.empty) 1 16 Tryd.underlying94 hi hi0 hi1 hi2 rfl (by decide) _ _ _ rfl (hown1.alloc _) ⟨w1.heap.size, 0, none⟩ 1 1 [.string ⟨#[45]⟩] rfl rfl (cell_one_new _ _ _) (fun x hx => by simp at hx; subst hx; rfl) (by unfold maxLen; omega) (by omega) (by simp; omega) ?_; intro v' w3 hown' hgrow hnil))
        have hB3 := ((Below.then hBe hb1 hBe.size).alloc (by omega) _).grown hgrow (by simp; omega) (fun j ej => (hown1.lt j ej).1)
        go_roundw
        case rel => exact ⟨k + 1, by omega, by go_num, hB3, by rw [HP.out]; exact hown'⟩
        case measure => simp [intOf]; omega
      · have hpc : pieceOf ss[k] = ss[k] := by unfold pieceOf; rw [if_neg hs0]
        rw [hpc] at HP
        have hne : (((ss[k].size : Nat) : Int) == 0) = false := by rw [beq_eq_false_iff_ne]; omega
        clear hpc
        go_wp2_with fail
        refine (HF.out _).mono ?_; rintro e1 w1 ⟨rfl, hb1⟩; have hz1 := hb1.size; (try simp at hz1)
        have hown1 := hown.kept (grown_of_below hb1) (Classical.em _)
        go_wp2_with (at_builtin; go_loud (refine wpList_append_own _ rfl _ _ 94 rfl w.heap.size 9 i0 (.string ByteArray.empty) 1 16 Tryd.underlying94 hi hi0 hi1 hi2 rfl (by decide) _ _ _ rfl (hown1.alloc _) ⟨w1.heap.size, 0, none⟩ 1 1 [.string ss[k]] rfl rfl (cell_one_new _ _ _) (fun x hx => by simp at hx; subst hx; rfl) (by unfold maxLen; omega) (by omega) (by simp; omega) ?_; intro v' w3 hown' hgrow hnil))
        have hB3 := ((Below.then hBe hb1 hBe.size).alloc (by omega) _).grown hgrow (by simp; omega) (fun j ej => (hown1.lt j ej).1)
        go_roundw
        case rel => exact ⟨k + 1, by omega, by go_num, hB3, by rw [HP.out]; exact hown'⟩
        case measure => simp [intOf]; omega
    · obtain rfl : k = ss.length := by omega
      rw [List.take_of_length_le (by simp)] at hown
      have hcells := fun g (hg : _ = some g) => hown.cells (g := g) hg
      rcases hown.2 with ⟨_, h0⟩ | ⟨g, cap, cur, rfl, hgb, hgc, hrest⟩
      · omega
      have hsm : ∀ x ∈ (ss.map pieceOf).map (·.data.toList), x.length ≤ 8 := by
        intro x hx
        simp only [List.map_map, List.mem_map, Function.comp] at hx
        obtain ⟨s, hs, rfl⟩ := hx
        obtain ⟨j, hj, rfl⟩ := List.mem_iff_getElem.1 hs
        exact pieceOf_small (shape_size (table_at ht j hj))
      have hjl := join_small _ 8 hsm
      simp only [List.length_map] at hjl
      have hJ := Tryd.strings_Join g 0 cap (ss.map pieceOf) ⟨#[32]⟩ wr (fun j x hx => by
        have := hcells g rfl j (.string x) (by rw [List.getElem?_map, hx]; rfl)
        have ea : (⟨g, 0, none⟩ : Addr).add j = ⟨g, 0 + j, none⟩ := by unfold Addr.add; split <;> simp_all
        rw [ea] at this
        exact this) (Array.getElem?_eq_some_iff.1 hgc).1 (by rw [List.length_map]; omega) (by rw [List.length_map]; exact hrest.1) (by
        show (Lib.join _ [32]).length ≤ _
        omega)
      rw [List.length_map] at hJ
      have HJ := Lib.hid hJ
      clear hJ hjl hsm hcells hgc hrest hown
      go_wp2_with fail
      refine (HJ.out).mono ?_; rintro e1 w1 ⟨rfl, hb1⟩; have hz1 := hb1.size; (try simp at hz1)
      go_wp2
      go_ret
      exact ⟨by simp [textOf], Below.then hBe hb1 hBe.size⟩

set_option maxHeartbeats 1600000 in
theorem text_calls (a : Option Addr) (c : Nat) (ss : List ByteArray) (hn : ss.length ≤ maxLen) (w : World) (h : SlOf w a (strV ss)) :
    Calls Tryd.prog 40 #[.slice a ss.length c] w fun e w' => e = .returned (.tuple #[.string (textS ss), .int .i64 (checkE ss)]) ∧ Below w.heap.size w w' := by
  have HS := Lib.hid h
  have hck := fun w h => check_calls a c ss hn w h
  clear h
  cases ht : tableB ss with
  | true =>
    have e1 : checkE ss = 0 := by simp [checkE, ht]
    have e2 : textS ss = textOf ss := by simp [textS, ht]
    have htx := fun B w h hB hbx => textFn_calls a c ss ht B w h hB hbx
    rw [e1] at hck ⊢
    rw [e2]
    have HC := Lib.hid hck
    have HT := Lib.hid htx
    clear hck htx e1 e2 ht
    go_enter Tryd.func40, Tryd.ntmps40
    go_wp2_with fail
    refine (HC.out _ (HS.out.alloc _)).mono ?_; rintro e1 w1 ⟨rfl, hb1⟩; obtain ⟨hc1, hf1⟩ := bcell hb1; have hz1 := hb1.size; (try simp at hz1)
    go_wp2_with (go_at_call 64; go_in)
    refine (HT.out w.heap.size _ ((HS.out.alloc _).below hb1) (by omega) ((hb1.cell (p := ⟨w.heap.size, 0, none⟩) (by simp)).trans (by simp))).mono ?_; rintro e2 w2 ⟨rfl, hb2⟩; obtain ⟨hc2, hf2⟩ := bcell hb2; have hz2 := hb2.size; (try simp at hz2)
    go_wp2
    go_ret2
    exact ⟨rfl, by (repeat (first | exact Below.refl _ _ | (with_reducible assumption) | refine Below.drew ?_ | refine Below.drewN' ?_ _ | refine Below.alloc ?_ (by first | omega | (simp; done) | (simp; omega)) _ | refine Below.setCell ?_ (by first | omega | (simp; done) | (simp; omega)) _ | refine Below.then ?_ hb9 (by first | omega | (simp; done) | (simp; omega)) | refine Below.then ?_ hb8 (by first | omega | (simp; done) | (simp; omega)) | refine Below.then ?_ hb7 (by first | omega | (simp; done) | (simp; omega)) | refine Below.then ?_ hb6 (by first | omega | (simp; done) | (simp; omega)) | refine Below.then ?_ hb5 (by first | omega | (simp; done) | (simp; omega)) | refine Below.then ?_ hb4 (by first | omega | (simp; done) | (simp; omega)) | refine Below.then ?_ hb3 (by first | omega | (simp; done) | (simp; omega)) | refine Below.then ?_ hb2 (by first | omega | (simp; done) | (simp; omega)) | refine Below.then ?_ hb1 (by first | omega | (simp; done) | (simp; omega))))⟩
  | false =>
    have e1 : checkE ss = 2 := by simp [checkE, ht]
    have e2 : textS ss = ⟨#[]⟩ := by simp [textS, ht]
    rw [e1] at hck ⊢
    rw [e2]
    have HC := Lib.hid hck
    clear hck e1 e2 ht
    go_enter Tryd.func40, Tryd.ntmps40
    go_wp2_with fail
    refine (HC.out _ (HS.out.alloc _)).mono ?_; rintro e1 w1 ⟨rfl, hb1⟩; obtain ⟨hc1, hf1⟩ := bcell hb1; have hz1 := hb1.size; (try simp at hz1)
    go_wp2_with (go_at_call 64; go_in)
    go_ret2
    exact ⟨rfl, by (repeat (first | exact Below.refl _ _ | (with_reducible assumption) | refine Below.drew ?_ | refine Below.drewN' ?_ _ | refine Below.alloc ?_ (by first | omega | (simp; done) | (simp; omega)) _ | refine Below.setCell ?_ (by first | omega | (simp; done) | (simp; omega)) _ | refine Below.then ?_ hb9 (by first | omega | (simp; done) | (simp; omega)) | refine Below.then ?_ hb8 (by first | omega | (simp; done) | (simp; omega)) | refine Below.then ?_ hb7 (by first | omega | (simp; done) | (simp; omega)) | refine Below.then ?_ hb6 (by first | omega | (simp; done) | (simp; omega)) | refine Below.then ?_ hb5 (by first | omega | (simp; done) | (simp; omega)) | refine Below.then ?_ hb4 (by first | omega | (simp; done) | (simp; omega)) | refine Below.then ?_ hb3 (by first | omega | (simp; done) | (simp; omega)) | refine Below.then ?_ hb2 (by first | omega | (simp; done) | (simp; omega)) | refine Below.then ?_ hb1 (by first | omega | (simp; done) | (simp; omega))))⟩

end Go.Proofs.YtcdfhceohjhogaaDoor
