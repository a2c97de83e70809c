/- A table's text and the table of a text: each is the other's inverse; a table that may be has a short text. -/
import Derived.Test.YtcdfhceohjhogaaDoorRead
import Derived.Test.YtcdfhceohjhogaaDoorTextFn
namespace Go.Proofs.YtcdfhceohjhogaaDoor
open Go.RowKit

theorem splitSp_cut (p r : List UInt8) (h : ∀ c ∈ p, c ≠ 32) : splitSp (p ++ 32 :: r) = p :: splitSp r := by
  induction p with
  | nil => simp [splitSp]
  | cons c p ih =>
    rw [List.cons_append, splitSp, if_neg (h c (by simp)), ih (fun x hx => h x (by simp [hx]))]
theorem splitSp_end (p : List UInt8) (h : ∀ c ∈ p, c ≠ 32) : splitSp p = [p] := by
  induction p with
  | nil => rfl
  | cons c p ih => rw [splitSp, if_neg (h c (by simp)), ih (fun x hx => h x (by simp [hx]))]

theorem split_le (l : List UInt8) : ∀ x ∈ splitSp l, x.length ≤ l.length := by
  induction l with
  | nil => simp [splitSp]
  | cons c cs ih =>
    intro x hx
    unfold splitSp at hx
    by_cases hc : c = 32
    · rw [if_pos hc] at hx
      rcases List.mem_cons.1 hx with rfl | hx
      · simp
      · have := ih x hx; simp; omega
    · rw [if_neg hc] at hx
      cases hs : splitSp cs with
      | nil => exact absurd hs (splitSp_ne cs)
      | cons p ps =>
        rw [hs] at hx ih
        rcases List.mem_cons.1 hx with rfl | hx
        · have := ih p (by simp); simp; omega
        · have := ih x (by simp [hx]); simp; omega

theorem split_join (xs : List (List UInt8)) (h0 : xs ≠ []) (h : ∀ x ∈ xs, ∀ c ∈ x, c ≠ 32) : splitSp (Lib.join xs [32]) = xs := by
  cases xs with
  | nil => exact absurd rfl h0
  | cons x r =>
    clear h0
    induction r generalizing x with
    | nil => rw [Lib.join_one]; exact splitSp_end x (h x (by simp))
    | cons y r ih =>
      have e : Lib.join (x :: y :: r) [32] = x ++ 32 :: Lib.join (y :: r) [32] := by
        rw [Lib.join_cons, Lib.join_cons]; simp [Lib.joinTail]
      rw [e, splitSp_cut _ _ (h x (by simp)), ih y (fun z hz => h z (by simp at hz ⊢; exact .inr hz))]
theorem join_split (l : List UInt8) : Lib.join (splitSp l) [32] = l := by
  induction l with
  | nil => rfl
  | cons c cs ih =>
    unfold splitSp
    have hne := splitSp_ne cs
    by_cases hc : c = 32
    · rw [if_pos hc]
      cases hs : splitSp cs with
      | nil => exact absurd hs hne
      | cons p ps =>
        rw [hs] at ih
        rw [Lib.join_cons] at ih ⊢
        subst hc
        rw [← ih]
        simp [Lib.joinTail]
    · rw [if_neg hc]
      cases hs : splitSp cs with
      | nil => exact absurd hs hne
      | cons p ps =>
        rw [hs] at ih
        rw [Lib.join_cons] at ih ⊢
        rw [← ih]
        rfl

theorem unDash_piece (s : ByteArray) (h : shapeB s = true) : unDash (pieceOf s).data.toList = s := by
  unfold pieceOf
  by_cases h0 : s.size = 0
  · rw [if_pos h0]
    have he : s = ⟨#[]⟩ := (by simpa using h0 : s = ByteArray.empty)
    rw [he]; rfl
  · rw [if_neg h0]
    unfold unDash
    rw [if_neg]
    intro e
    have h1 := shape_letter h 0 (by omega)
    have e1 : s[0]'(by omega) = 45 := by
      have : s.data[0]'(by show 0 < s.size; omega) = 45 := by
        have e2 : s.data.toList[0]? = some 45 := by rw [e]; rfl
        rw [Array.getElem?_toList, Array.getElem?_eq_getElem (show 0 < s.data.size by show 0 < s.size; omega)] at e2
        exact Option.some.inj e2
      exact this
    rw [e1] at h1
    exact absurd h1 (by decide)
theorem piece_unDash (x : List UInt8) (h : x ≠ []) : (pieceOf (unDash x)).data.toList = x := by
  unfold unDash
  split
  · rename_i e; subst e; rfl
  · unfold pieceOf
    have : ¬ (⟨x.toArray⟩ : ByteArray).size = 0 := by
      show ¬ x.toArray.size = 0
      simpa using h
    rw [if_neg this]

theorem shape_noblank {s : ByteArray} (h : shapeB s = true) : ∀ c ∈ (pieceOf s).data.toList, c ≠ 32 ∧ (pieceOf s).data.toList ≠ [] := by
  intro c hc
  unfold pieceOf at hc ⊢
  by_cases h0 : s.size = 0
  · rw [if_pos h0] at hc ⊢
    have : c = 45 := by simpa [dash] using hc
    subst this
    exact ⟨by decide, by decide⟩
  · rw [if_neg h0] at hc ⊢
    simp only [shapeB, lettersOk, Bool.and_eq_true, List.all_eq_true] at h
    have := h.1 c hc
    refine ⟨?_, fun e => by rw [e] at hc; simp at hc⟩
    rintro rfl
    exact absurd this (by decide)
theorem piece_ne (s : ByteArray) : (pieceOf s).data.toList ≠ [] := by
  unfold pieceOf
  split
  · decide
  · rename_i h
    intro e
    apply h
    have : s.data.toList.length = 0 := by rw [e]; rfl
    simpa using this

/-- a table's text is read as the table -/
theorem pieces_text (ss : List ByteArray) (ht : tableB ss = true) : piecesOf (textOf ss) = (ss.map pieceOf).map (·.data.toList) := by
  have hlen := table_len ht
  unfold piecesOf textOf
  show splitSp (Lib.join _ [32]).toArray.toList = _
  rw [List.toList_toArray, split_join]
  · intro e
    have := congrArg List.length e
    simp at this
    subst this
    simp at hlen
  · intro x hx c hc
    simp only [List.map_map, List.mem_map, Function.comp] at hx
    obtain ⟨s, hs, rfl⟩ := hx
    obtain ⟨j, hj, rfl⟩ := List.mem_iff_getElem.1 hs
    exact (shape_noblank (table_at ht j hj) c hc).1
theorem pieces_undash (ss : List ByteArray) (ht : tableB ss = true) : (piecesOf (textOf ss)).map unDash = ss := by
  rw [pieces_text ss ht, List.map_map, List.map_map]
  have : ∀ s ∈ ss, ((unDash ∘ fun x => x.data.toList) ∘ pieceOf) s = s := by
    intro s hs
    obtain ⟨j, hj, rfl⟩ := List.mem_iff_getElem.1 hs
    exact unDash_piece _ (table_at ht j hj)
  rw [List.map_congr_left this, List.map_id']
theorem read_text_ok (ss : List ByteArray) (ht : tableB ss = true) : readB (textOf ss) = true := by
  have hlen := table_len ht
  unfold readB
  rw [pieces_undash ss ht, ht, Bool.and_true, decide_eq_true_eq]
  refine ⟨fun x hx => ?_, ?_⟩
  · rw [pieces_text ss ht, List.map_map] at hx
    obtain ⟨s, _, rfl⟩ := List.mem_map.1 hx
    exact piece_ne s
  · rw [pieces_text ss ht]; simp; omega
theorem readL_text (ss : List ByteArray) (ht : tableB ss = true) : readL (textOf ss) = ss := by
  unfold readL
  rw [if_pos (read_text_ok ss ht), pieces_undash ss ht]
theorem readE_text (ss : List ByteArray) (ht : tableB ss = true) : readE (textOf ss) = 0 := by
  unfold readE
  rw [if_pos (read_text_ok ss ht)]

/-- a text that is read as a table is the table's text -/
theorem text_readL (s : ByteArray) (h : readB s = true) : textOf (readL s) = s := by
  have h0 := h
  unfold readB at h0
  simp only [Bool.and_eq_true, decide_eq_true_eq] at h0
  unfold readL
  rw [if_pos h]
  unfold textOf
  rw [List.map_map, List.map_map]
  have : ∀ x ∈ piecesOf s, (((fun x => x.data.toList) ∘ pieceOf) ∘ unDash) x = x := fun x hx => piece_unDash x (h0.1.1 x hx)
  rw [List.map_congr_left this, List.map_id']
  unfold piecesOf
  rw [join_split]
theorem read_table (s : ByteArray) (h : readB s = true) : tableB (readL s) = true := by
  have h0 := h
  unfold readB at h0
  simp only [Bool.and_eq_true, decide_eq_true_eq] at h0
  unfold readL
  rw [if_pos h]
  exact h0.2
theorem textOf_small (ss : List ByteArray) (ht : tableB ss = true) : (textOf ss).size ≤ 144 := by
  have hlen := table_len ht
  have hsm : ∀ x ∈ (ss.map pieceOf).map (·.data.toList), x.length ≤ 8 := by
    intro x hx
    simp only [List.map_map, List.mem_map, Function.comp] at hx
    obtain ⟨s, hs, rfl⟩ := hx
    obtain ⟨j, hj, rfl⟩ := List.mem_iff_getElem.1 hs
    exact pieceOf_small (shape_size (table_at ht j hj))
  have := join_small _ 8 hsm
  simp only [List.length_map] at this
  show (Lib.join _ [32]).length ≤ _
  omega
theorem read_small (s : ByteArray) (h : readB s = true) : s.size ≤ 144 := by
  rw [← text_readL s h]
  exact textOf_small _ (read_table s h)

end Go.Proofs.YtcdfhceohjhogaaDoor
