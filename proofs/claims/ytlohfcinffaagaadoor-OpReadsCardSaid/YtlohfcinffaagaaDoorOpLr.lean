/- The statement OpReads. -/
import Derived.Test.YtlohfcinffaagaaDoorOpLu0
import Derived.Test.YtlohfcinffaagaaDoorQOp11
namespace Go.Proofs.YtlohfcinffaagaaDoor
open Go.RowKit Go.Proofs.YtlohfcinffaagaaDoorW.PrintWords Go.Proofs.YtlohfcinffaagaaDoorQ.Op
set_option linter.unusedVariables false
set_option linter.unusedSimpArgs false

def pieceIn (s : ByteArray) (b k : Nat) : List UInt8 := (s.data.toList.drop b).take (k - b)
theorem piece_extract (s : ByteArray) (b k : Nat) : (s.extract b k).data.toList = pieceIn s b k := by
  rw [ByteArray.data_extract]
  simp [pieceIn, List.extract_eq_take_drop]
theorem piece_succ (s : ByteArray) (b k : Nat) (hb : b ≤ k) (hk : k < s.size) : pieceIn s b (k + 1) = pieceIn s b k ++ [s[k]] := by
  have h2 : s.data.size = s.size := rfl
  unfold pieceIn
  rw [show k + 1 - b = (k - b) + 1 from by omega, List.take_succ_eq_append_getElem (by simp; omega)]
  congr 2
  rw [List.getElem_drop]
  have e : b + (k - b) = k := by omega
  simp only [e]
  exact Array.getElem_toList _
theorem drop_cut (s : ByteArray) (b k : Nat) (hb : b ≤ k) (hk : k < s.size) : s.data.toList.drop b = pieceIn s b k ++ s[k] :: s.data.toList.drop (k + 1) := by
  have h2 : s.data.size = s.size := rfl
  have h1 : s.data.toList.drop k = s[k] :: s.data.toList.drop (k + 1) := by
    rw [List.drop_eq_getElem_cons (by rw [Array.length_toList]; exact hk)]
    rfl
  unfold pieceIn
  rw [← h1]
  have : s.data.toList.drop k = (s.data.toList.drop b).drop (k - b) := by rw [List.drop_drop]; congr 1; omega
  rw [this, List.take_append_drop]
theorem drop_end (s : ByteArray) (b : Nat) : s.data.toList.drop b = pieceIn s b s.size := by
  unfold pieceIn
  exact (List.take_of_length_le (by rw [List.length_drop, Array.length_toList]; exact Nat.le_refl _)).symm
theorem bt_at' (s : ByteArray) (i : Nat) (h : i < s.size) : bt s (i : Int) = s[i].toNat := by simp [bt, h]
theorem words_loop (s : ByteArray) (hs : s.size ≤ 300) (T : List (List UInt8)) : ∀ (d k i b : Nat) (out : List ByteArray), s.size - i = d → i ≤ s.size → b ≤ i → (∀ c ∈ pieceIn s b i, c ≠ 32) → out.map (·.data.toList) ++ splitSp (s.data.toList.drop b) = T → out.length ≤ i → d + 2 ≤ k →
    ∃ P, lapidaryref08_Words.l0 k s out (b : Int) (i : Int) = some P ∧ P.map (·.data.toList) = T
  | 0, k, i, b, out, hd, hi, hb, hn, hT, hl, hk => by
    obtain ⟨k, rfl⟩ : ∃ m, k = m + 1 := ⟨k - 1, by omega⟩
    obtain rfl : i = s.size := by omega
    refine ⟨out ++ [s.extract b s.size], ?_, ?_⟩
    · simp only [lapidaryref08_Words.l0]
      rw [if_pos (by omega), if_pos (by trivial), if_pos (by omega), if_pos (by omega), if_pos (by omega)]
      obtain ⟨k, rfl⟩ : ∃ m, k = m + 1 := ⟨k - 1, by omega⟩
      simp only [lapidaryref08_Words.l0]
      rw [if_neg (by unfold wrap64; omega)]
      simp
    · rw [List.map_append, ← hT, drop_end, splitSp_end _ hn]
      simp only [List.map_cons, List.map_nil, piece_extract]
  | d + 1, k, i, b, out, hd, hi, hb, hn, hT, hl, hk => by
    obtain ⟨k, rfl⟩ : ∃ m, k = m + 1 := ⟨k - 1, by omega⟩
    have hlt : i < s.size := by omega
    have hw : wrap64 ((i : Int) + 1) = ((i + 1 : Nat) : Int) := wr1 hlt (by omega)
    simp only [lapidaryref08_Words.l0]
    rw [if_pos (by omega), if_neg (by omega), if_pos (by omega), if_pos (by omega), bt_at' s i hlt, hw]
    by_cases hc : s[i].toNat = 32
    · have hc' : s[i] = 32 := UInt8.toNat_inj.1 hc
      rw [if_pos (by omega), if_pos (by omega), if_pos (by omega), if_pos (by omega)]
      have hnew : (out ++ [s.extract b i]).map (·.data.toList) ++ splitSp (s.data.toList.drop (i + 1)) = T := by
        rw [← hT, drop_cut s b i hb hlt, hc', splitSp_cut _ _ hn]
        simp only [List.map_append, List.map_cons, List.map_nil, piece_extract, List.append_assoc, List.singleton_append]
      have := words_loop s hs T d k (i + 1) (i + 1) (out ++ [s.extract b i]) (by omega) (by omega) (Nat.le_refl _) (by simp [pieceIn]) hnew (by simp; omega) (by omega)
      simpa using this
    · rw [if_neg (by omega)]
      refine words_loop s hs T d k (i + 1) b out (by omega) (by omega) (by omega) ?_ hT (by omega) (by omega)
      intro c hm
      rw [piece_succ s b i hb hlt] at hm
      rcases List.mem_append.1 hm with hm | hm
      · exact hn c hm
      · simp only [List.mem_singleton] at hm
        rw [hm]
        intro e
        rw [e] at hc
        exact hc rfl
theorem words_f (s : ByteArray) (hs : s.size ≤ 300) (k : Nat) (hk : s.size + 2 ≤ k) : ∃ P, lapidaryref08_Words.f k s = some P ∧ P.map (·.data.toList) = splitSp s.data.toList := by
  unfold lapidaryref08_Words.f
  exact words_loop s hs _ s.size k 0 0 [] (by omega) (by omega) (Nat.le_refl _) (by simp [pieceIn]) (by simp) (by simp) hk

def resultOf (r : Option OpN) : Int × Int × Int × Int × Int × Int × Int × Int × Int := match r with | some o => (o.k, o.a, o.b, o.c, o.f, o.s, o.x, o.y, 0) | none => (0, 0, 0, 0, 0, 0, 0, 0, 186)
theorem with_f (o : OpN) (n : Nat) (hn : n ≤ 6) (v : Int) : lapidaryref08_with.f o.k o.a o.b o.c o.f o.s o.x o.y ((letterN n).toNat : Int) v = some ((o.set n v).k, (o.set n v).a, (o.set n v).b, (o.set n v).c, (o.set n v).f, (o.set n v).s, (o.set n v).x, (o.set n v).y) := by
  obtain rfl | rfl | rfl | rfl | rfl | rfl | rfl : n = 0 ∨ n = 1 ∨ n = 2 ∨ n = 3 ∨ n = 4 ∨ n = 5 ∨ n = 6 := by omega
  all_goals rfl
theorem names_bt (k : Int) (j : Nat) (h : j < (opNames k).length) : bt (namesB k) (j : Int) = ((letterN (opNames k)[j]).toNat : Int) := by
  have hs := names_size k
  rw [bt_at' _ j (by omega), names_at k j h]
theorem nums_loop (kk : Int) (L : List (List UInt8)) (P : List ByteArray) (hP : P.map (·.data.toList) = L) (hlen : (opNames kk).length + 1 = P.length) (hsz : ∀ p ∈ P, p.size ≤ 140737488351232) :
    ∀ (d k j : Nat) (o : OpN), (opNames kk).length - j = d → j ≤ (opNames kk).length → numsTo (opNames kk) L j (OpN.only kk) = some o → d + 1 ≤ k →
    lapidaryref08_Read.l1 k P (namesB kk) (j : Int) o.k o.a o.b o.c o.f o.s o.x o.y = some (resultOf (numsTo (opNames kk) L (opNames kk).length (OpN.only kk)))
  | 0, k, j, o, hd, hj, ho, hk => by
    obtain ⟨k, rfl⟩ : ∃ m, k = m + 1 := ⟨k - 1, by omega⟩
    have hs := names_size kk
    simp only [lapidaryref08_Read.l1]
    rw [if_neg (by omega), show (opNames kk).length = j by omega, ho]
    rfl
  | d + 1, k, j, o, hd, hj, ho, hk => by
    obtain ⟨k, rfl⟩ : ∃ m, k = m + 1 := ⟨k - 1, by omega⟩
    have hs := names_size kk
    have hnl := names_len kk
    have hlt : j < (opNames kk).length := by omega
    have hn6 : (opNames kk)[j] ≤ 6 := names_le kk _ (List.getElem_mem hlt)
    have hw : wrap64 (1 + (j : Int)) = ((j + 1 : Nat) : Int) := by unfold wrap64; omega
    have hpj : j + 1 < P.length := by omega
    have hrd : rdOf ByteArray.empty P ((j + 1 : Nat) : Int) = P[j + 1] := by
      unfold rdOf
      rw [Int.toNat_natCast, List.getD_eq_getElem?_getD, List.getElem?_eq_getElem hpj]
      rfl
    have hL : L.getD (j + 1) [] = P[j + 1].data.toList := by
      rw [← hP, List.getD_eq_getElem?_getD, List.getElem?_map, List.getElem?_eq_getElem hpj]
      rfl
    have hnd : (opNames kk).getD j 0 = (opNames kk)[j] := by rw [List.getD_eq_getElem?_getD, List.getElem?_eq_getElem hlt]; rfl
    have hst := numsTo_step ho
    rw [hL, hnd] at hst
    simp only [lapidaryref08_Read.l1]
    rw [if_pos (by omega), hw, if_pos (by omega), if_pos (by omega), hrd]
    have hW : lapidaryref08_Whole.f P[j + 1] = some (wholeN (wholeV P[j + 1].data.toList), (wholeV P[j + 1].data.toList).isSome) := by
      unfold lapidaryref08_Whole.f
      rw [if_pos (hsz _ (List.getElem_mem hpj))]
    rw [hW]
    simp only [Option.bind_some]
    cases hv : wholeV P[j + 1].data.toList with
    | none =>
      rw [hv] at hst
      rw [if_neg (by simp), numsTo_none (j := j + 1) hst _ hlt]
      rfl
    | some v =>
      rw [hv] at hst
      have ih := nums_loop kk L P hP hlen hsz d k (j + 1) (o.set (opNames kk)[j] v) (by omega) (by omega) hst (by omega)
      rw [if_pos (by rw [Option.isSome_some]), if_pos (by omega), names_bt kk j hlt, with_f o _ hn6]
      simp only [Option.bind_some, wholeN, Option.getD_some]
      rw [wr1 hlt (by omega)]
      exact ih
theorem kinds_loop (L : List (List UInt8)) (P : List ByteArray) (hP : P.map (·.data.toList) = L) (h1 : 1 ≤ P.length) (hlp : P.length ≤ 1000) (hsz : ∀ p ∈ P, p.size ≤ 140737488351232) :
    ∀ (d k j : Nat), 12 - j = d → 1 ≤ j → j ≤ 12 → (∀ i : Nat, 1 ≤ i → i < j → kindB L i = false) → 2 * d + 10 ≤ k → lapidaryref08_Read.l0 k P (j : Int) = some (resultOf (readO L))
  | 0, k, j, hd, hj1, hj, hno, hk => by
    obtain ⟨k, rfl⟩ : ∃ m, k = m + 1 := ⟨k - 1, by omega⟩
    have h0 : kindOf L = 0 := kindOf_none fun i hi => by
      have hi' : 1 ≤ i ∧ i ≤ 11 := by unfold opIs at hi; simpa using hi
      have := hno i.toNat (by omega) (by omega)
      rwa [Int.toNat_of_nonneg (by omega)] at this
    simp only [lapidaryref08_Read.l0]
    rw [if_neg (by omega)]
    unfold readO
    rw [if_pos h0]
    rfl
  | d + 1, k, j, hd, hj1, hj, hno, hk => by
    obtain ⟨k, rfl⟩ : ∃ m, k = m + 1 := ⟨k - 1, by omega⟩
    have hjo : opIs (j : Int) = true := by unfold opIs; simp only [decide_eq_true_eq]; omega
    have hns := names_size (j : Int)
    have hnl := names_len (j : Int)
    have hrd : rdOf ByteArray.empty P 0 = P[0] := by
      unfold rdOf
      rw [show ((0 : Int)).toNat = 0 from rfl, List.getD_eq_getElem?_getD, List.getElem?_eq_getElem (by omega)]
      rfl
    have hhd : L.headD [] = P[0].data.toList := by
      rw [← hP]
      cases P with
      | nil => simp at h1
      | cons x r => rfl
    have hLl : L.length = P.length := by rw [← hP, List.length_map]
    have hw : wrap64 (1 + ((namesB (j : Int)).size : Int)) = (((opNames (j : Int)).length + 1 : Nat) : Int) := by unfold wrap64; omega
    have hkb : kindB L (j : Int) = (decide (P[0].toList = (opName (j : Int)).toList) && decide ((P.length : Int) = (((opNames (j : Int)).length + 1 : Nat) : Int))) := by
      unfold kindB
      rw [hhd, hLl, ByteArray.toList_eq, ByteArray.toList_eq, Bool.eq_iff_iff]
      simp only [Bool.and_eq_true, decide_eq_true_eq]
      constructor
      · rintro ⟨a, b⟩; exact ⟨a.symm, by omega⟩
      · rintro ⟨a, b⟩; exact ⟨a.symm, by omega⟩
    have hwj : wrap64 ((j : Int) + 1) = ((j + 1 : Nat) : Int) := by unfold wrap64; omega
    simp only [lapidaryref08_Read.l0, lapidaryref08_Names.f, lapidaryref08_Name.f, Option.bind_some]
    rw [if_pos (by omega), if_pos (by omega), hrd]
    obtain ⟨k, rfl⟩ : ∃ m, k = m + 1 := ⟨k - 1, by omega⟩
    have ihn : kindB L (j : Int) = false → lapidaryref08_Read.l0 k P ((j + 1 : Nat) : Int) = some (resultOf (readO L)) := fun h =>
      kinds_loop L P hP h1 hlp hsz d k (j + 1) (by omega) (by omega) (by omega) (fun i hi hlt => by
        by_cases e : i = j
        · subst e; exact h
        · exact hno i hi (by omega)) (by omega)
    by_cases hn : P[0].toList = (opName (j : Int)).toList
    · rw [if_pos hn, hw]
      simp only [lapidaryref08_Read.j1]
      by_cases hl : (P.length : Int) = (((opNames (j : Int)).length + 1 : Nat) : Int)
      · rw [if_neg (by rw [bne_iff_ne]; exact fun h => h hl)]
        have hk1 : kindB L (j : Int) = true := by rw [hkb, decide_eq_true hn, decide_eq_true hl]; rfl
        have hko := kindOf_some hjo hk1
        have hro : readO L = numsTo (opNames (j : Int)) L (opNames (j : Int)).length (OpN.only (j : Int)) := by
          unfold readO
          rw [hko, if_neg (by omega)]
        rw [hro]
        exact nums_loop (j : Int) L P hP (by omega) hsz (opNames (j : Int)).length k 0 (OpN.only (j : Int)) (by omega) (by omega) rfl (by omega)
      · rw [if_pos (bne_iff_ne.2 hl), hwj]
        exact ihn (by rw [hkb, decide_eq_false hl, Bool.and_false])
    · rw [if_neg hn]
      simp only [lapidaryref08_Read.j1]
      rw [if_pos (by trivial), hwj]
      exact ihn (by rw [hkb, decide_eq_false hn, Bool.false_and])
theorem refRead_f (s : ByteArray) (hs : s.size ≤ 300) : lapidaryref08_Read.f 400 s = some (resultOf (readO (splitSp s.data.toList))) := by
  unfold lapidaryref08_Read.f
  obtain ⟨P, h1, h2⟩ := words_f s hs 400 (by omega)
  rw [h1]
  simp only [Option.bind_some]
  have hne := splitSp_ne s.data.toList
  have hl : P.length = (splitSp s.data.toList).length := by rw [← h2, List.length_map]
  have hcb := count_blank s
  have hsl := split_pieces s.size s (Nat.le_refl _)
  have hsn := split_len s.size s (Nat.le_refl _)
  have hlen : (splitSp s.data.toList).length ≤ 302 := by rw [← hsl, List.length_map, hsn]; omega
  have hp1 : 1 ≤ P.length := by
    rw [hl]
    rcases Nat.eq_zero_or_pos (splitSp s.data.toList).length with h | h
    · exact absurd (List.eq_nil_of_length_eq_zero h) hne
    · exact h
  refine kinds_loop _ P h2 hp1 (by omega) (fun p hp => ?_) 11 400 1 (by omega) (by omega) (by omega) (fun i h3 h4 => by omega) (by omega)
  have hm : p.data.toList ∈ splitSp s.data.toList := by rw [← h2]; exact List.mem_map.2 ⟨p, hp, rfl⟩
  have := split_le _ _ hm
  rw [Array.length_toList, Array.length_toList] at this
  have h5 : p.data.size = p.size := rfl
  have h6 : s.data.size = s.size := rfl
  omega
theorem opRead_f (s : ByteArray) (hs : s.size ≤ 1000) : op_Read.f s = some (resultOf (readO (splitSp s.data.toList))) := by
  cases h : readO (splitSp s.data.toList) with
  | none => exact opRead_none hs h
  | some o => exact opRead_some hs h
theorem opReads_pure (s : ByteArray) : lapidarylaw08_OpReads.f 400 s = some true := by
  unfold lapidarylaw08_OpReads.f
  by_cases h : (s.size : Int) > 300
  · rw [if_pos h, works_f]; rfl
  · rw [if_neg h, opRead_f s (by omega), refRead_f s (by omega), works_f]
    simp only [Option.bind_some, lapidarylaw08_num.f]
    cases hr : readO (splitSp s.data.toList) with
    | none =>
      have ht : op_Text.f 0 0 0 0 0 0 0 0 = some (textS (OpN.only 0), toldE (OpN.only 0)) := text_f 0 0 0 0 0 0 0 0 only_fit
      simp only [resultOf]
      rw [ht]
      simp
    | some o =>
      obtain ⟨hb, hf, hts⟩ := read_some hr
      have ht : op_Text.f o.k o.a o.b o.c o.f o.s o.x o.y = some (textS o, toldE o) := text_f _ _ _ _ _ _ _ _ hf
      have e1 : textS o = s := by unfold textS; rw [hb, if_pos (by trivial)]; exact hts
      have e2 : toldE o = 0 := by unfold toldE; rw [hb]; rfl
      simp only [resultOf]
      rw [ht, e1, e2]
      simp
theorem opReads_walk (w : World) (s : ByteArray) (_ : s.size ≤ maxLen) (hT : WOk w) :
    Calls Tryd.prog 7 #[.string s] w fun e w' => e = .returned (.bool true) ∧ Below w.heap.size w w' :=
  lapidarylaw08_OpReads.calls 400 s true w (opReads_pure s) hT

end Go.Proofs.YtlohfcinffaagaaDoor
