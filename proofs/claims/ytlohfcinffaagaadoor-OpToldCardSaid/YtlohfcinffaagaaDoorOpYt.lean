/- The reference of layer 'op': an operation's text. -/
import Derived.Test.YtlohfcinffaagaaDoorOpJ
import Derived.Test.YtlohfcinffaagaaDoorOpYa
import Derived.Deep.RegionHeld3
import Derived.LoopTactic
namespace Go.Proofs.YtlohfcinffaagaaDoor
open Go.RowKit Go.Proofs.YtlohfcinffaagaaDoorW.PrintWords Go.Proofs.YtlohfcinffaagaaDoorQ.OpA
set_option linter.unusedVariables false
set_option linter.unusedSimpArgs false
attribute [local go_sem] Oper.semAt_some

/-- the text's beginning -/
def textTo (o : OpN) (j : Nat) : ByteArray := ⟨(Lib.join ((piecesO o j).map (·.data.toList)) [32]).toArray⟩
theorem textTo_succ (o : OpN) (j : Nat) (h : j < (opNames o.k).length) : textTo o (j + 1) = (textTo o j ++ (⟨#[32]⟩ : ByteArray)) ++ numS (o.get (opNames o.k)[j]) := by
  have key : ∀ (x : List UInt8) (A : List (List UInt8)) (y : List UInt8), Lib.join (x :: (A ++ [y])) [32] = Lib.join (x :: A) [32] ++ 32 :: y := by
    intro x A y
    rw [Lib.join_cons, Lib.join_cons]
    simp [Lib.joinTail]
  apply bytes_inj'
  unfold textTo piecesO
  rw [List.take_succ_eq_append_getElem h]
  simp only [List.map_cons, List.map_append, List.map_nil]
  rw [key]
  generalize Lib.join _ [32] = J
  simp [ByteArray.data_append]
theorem textTo_zero (o : OpN) : textTo o 0 = opName o.k := by
  apply bytes_inj'
  unfold textTo piecesO
  simp [Lib.join_one]
theorem textTo_size (o : OpN) (hf : fitB o = true) (j : Nat) : (textTo o j).size ≤ 1000 := by
  have hF := fit_of hf
  have hnl := names_len o.k
  have hsm : ∀ x ∈ (piecesO o j).map (·.data.toList), x.length ≤ 30 := by
    intro x hx
    obtain ⟨s, hs, rfl⟩ := List.mem_map.1 hx
    unfold piecesO at hs
    rcases List.mem_cons.1 hs with rfl | hs
    · have := opName_small o.k
      show (opName o.k).data.toList.length ≤ 30
      rw [Array.length_toList]
      exact Nat.le_trans this (by decide)
    · obtain ⟨m, _, rfl⟩ := List.mem_map.1 hs
      have := numS_len (o.get m) (hF m).1 (hF m).2
      show (numS (o.get m)).data.toList.length ≤ 30
      rw [Array.length_toList]
      exact this
  have hjl := join_small _ 30 hsm
  have hpl : (piecesO o j).length ≤ 5 := by
    unfold piecesO
    simp only [List.length_cons, List.length_map, List.length_take]
    omega
  simp only [List.length_map] at hjl
  unfold textTo
  show (Lib.join _ [32]).toArray.size ≤ 1000
  rw [List.size_toArray]
  omega
theorem names_size (k : Int) : (namesB k).size = (opNames k).length := by
  show ((opNames k).map letterN).toArray.size = _
  simp
theorem names_at (k : Int) (j : Nat) (h : j < (opNames k).length) (h' : j < (namesB k).size) : (namesB k)[j] = letterN (opNames k)[j] := by
  have e : (namesB k).data[j]? = some (letterN (opNames k)[j]) := by
    show ((opNames k).map letterN).toArray[j]? = _
    simp [h]
  exact (Array.getElem?_eq_some_iff.1 e).2
theorem refName_f (k : Int) : lapidaryref08_Name.f k = some (opName k) := by
  cases hk : opIs k with
  | true => rcases kinds_of hk with rfl | rfl | rfl | rfl | rfl | rfl | rfl | rfl | rfl | rfl | rfl <;> rfl
  | false =>
    have b1 : k ≤ 0 ∨ 11 < k := by unfold opIs at hk; simp only [decide_eq_false_iff_not] at hk; omega
    have e1 : opName k = ⟨#[]⟩ := by unfold opName; repeat (rw [if_neg (by omega)])
    rw [e1]
    unfold lapidaryref08_Name.f
    rcases b1 with b1 | b1
    · rw [if_pos (by omega)]
    · rw [if_neg (by omega), if_pos (by omega)]
theorem refName_calls (k : Int) (w : World) : Calls Tryd.prog 10 #[.int .i64 k] w fun e w' => e = .returned (.string (opName k)) ∧ Below w.heap.size w w' :=
  lapidaryref08_Name.calls k _ w (refName_f k)

set_option maxRecDepth 1000000 in
set_option maxHeartbeats 6400000 in
theorem refText_calls (o : OpN) (hf : fitB o = true) (w : World) : Calls Tryd.prog 22 #[opVal o] w fun e w' => e = .returned (.string (textO o)) ∧ Below w.heap.size w w' := by
  unfold opVal
  have hF := fit_of hf
  have hs := names_size o.k
  have hnl := names_len o.k
  have hz := fun j => textTo_size o hf j
  have H1 := Lib.hid (fun W => refName_calls o.k W)
  have H2 := Lib.hid (fun W => refNames_calls o.k W)
  obtain ⟨nb, hnb⟩ : ∃ b, namesB o.k = b := ⟨_, rfl⟩
  have HAT := Lib.hid (fun j h h' => names_at o.k j h h')
  rw [hnb] at hs H2 HAT
  have HS := Lib.hid hs
  have HZ := Lib.hid hz
  have HF := Lib.hid hF
  have hnl' : nb.size ≤ 4 := by omega
  clear hz hF hf hs hnl
  go_enter Tryd.func22, Tryd.ntmps22
  go_wp2_with fail
  refine (H1.out _).mono ?_
  rintro e1 w1 ⟨rfl, hb1⟩
  have O1 := Lib.hid ((OpAt.new w o 35 _ rfl).below hb1)
  have hz1 := hb1.size
  simp at hz1
  go_wp2_with fail
  refine (H2.out _).mono ?_; rintro e2 w2 ⟨rfl, hb2⟩; have hz2 := hb2.size; (try simp at hz2)
  have O2 := Lib.hid (O1.out.below hb2)
  go_wp2_with fail
  go_loopw [4, 6] (fun s i wr => ∃ j : Nat, j ≤ nb.size ∧ i = .int .i64 j ∧ s = .string (textTo o j) ∧ Below w.heap.size w wr ∧ OpAt wr w.heap.size o) (fun _ i _ => nb.size - (intOf i).toNat)
  case atStart => exact ⟨0, Nat.zero_le _, rfl, by rw [textTo_zero], by (repeat (first | exact Below.refl _ _ | (with_reducible assumption) | refine Below.drew ?_ | refine Below.drewN' ?_ _ | refine Below.alloc ?_ (by first | omega | (simp; done) | (simp; omega)) _ | refine Below.setCell ?_ (by first | omega | (simp; done) | (simp; omega)) _ | refine Below.then ?_ hb9 (by first | omega | (simp; done) | (simp; omega)) | refine Below.then ?_ hb8 (by first | omega | (simp; done) | (simp; omega)) | refine Below.then ?_ hb7 (by first | omega | (simp; done) | (simp; omega)) | refine Below.then ?_ hb6 (by first | omega | (simp; done) | (simp; omega)) | refine Below.then ?_ hb5 (by first | omega | (simp; done) | (simp; omega)) | refine Below.then ?_ hb4 (by first | omega | (simp; done) | (simp; omega)) | refine Below.then ?_ hb3 (by first | omega | (simp; done) | (simp; omega)) | refine Below.then ?_ hb2 (by first | omega | (simp; done) | (simp; omega)) | refine Below.then ?_ hb1 (by first | omega | (simp; done) | (simp; omega)))), O2.out⟩
  case round =>
    obtain ⟨j, hj, rfl, rfl, hb9, ho9⟩ := hrel
    have HB9 := Lib.hid hb9
    have HO9 := Lib.hid ho9
    clear ho9 hb9
    by_cases hlt : j < nb.size
    · have hl2 : j < (opNames o.k).length := by rw [← HS.out]; exact hlt
      have hn6 : (opNames o.k)[j] ≤ 6 := names_le o.k _ (List.getElem_mem hl2)
      have hby := HAT.out j hl2 hlt
      have hts := textTo_succ o j hl2
      obtain ⟨n, hn⟩ : ∃ n, (opNames o.k)[j] = n := ⟨_, rfl⟩
      rw [hn] at hn6 hby hts
      have hg := fun W => get_calls o n hn6 W
      rw [← hby] at hg
      unfold opVal at hg
      have HG := Lib.hid hg
      have hv := HF.out n
      have HV := Lib.hid (fun W => number_calls (o.get n) hv.1 hv.2 W)
      have hnz := numS_len (o.get n) hv.1 hv.2
      have htz := HZ.out j
      obtain ⟨T, hT⟩ : ∃ T, textTo o j = T := ⟨_, rfl⟩
      rw [hT] at hts htz ⊢
      have HTS := Lib.hid hts
      have k1 : ¬ 9223372036854775807 < T.size + 1 := by omega
      have k2 : ¬ 9223372036854775807 < T.size + 1 + (numS (o.get n)).size := by omega
      clear hts hT hg hby hn hv
      go_wp2_with fail
      refine wp_region_held_drew (S := fun A => OpAt A w.heap.size o) (by kernel_rfl) HO9.out.drew (fun hHeld => ?_)
      (refine wpAnyH_take (i := 0) (oi := ?oiz0) (v := ?vz0) ?hiz0 ?hsz0 ?hfz0 ?hrz0 ?hQz0 ?hyz0 ?hSz0 ?hz0)
      (case hiz0 => rfl)
      (case hsz0 => kernel_rfl)
      (case hfz0 => kernel_rfl)
      (case hrz0 => kernel_rfl)
      (case hQz0 => first | exact fun _ _ _ h => h | exact fun _ _ _ h => (nomatch h.1))
      (case hSz0 => assumption)
      (case hyz0 => (refine Or.inl ⟨by rfl, ?_⟩; intro W hW; (try dsimp only at hW); go_simp; try with_reducible rfl))
      (try simp only [List.getElem_toArray, List.getElem_cons_succ, List.getElem_cons_zero, Act.put, List.setIfInBounds_toArray, List.set_cons_zero, List.set_cons_succ])
      (refine wpAnyH_take (i := 1) (oi := ?oiz1) (v := ?vz1) ?hiz1 ?hsz1 ?hfz1 ?hrz1 ?hQz1 ?hyz1 ?hSz1 ?hz1)
      (case hiz1 => rfl)
      (case hsz1 => kernel_rfl)
      (case hfz1 => kernel_rfl)
      (case hrz1 => kernel_rfl)
      (case hQz1 => first | exact fun _ _ _ h => h | exact fun _ _ _ h => (nomatch h.1))
      (case hSz1 => assumption)
      (case hyz1 => (refine Or.inl ⟨by rfl, ?_⟩; intro W hW; (try dsimp only at hW); go_simp; try with_reducible rfl))
      (try simp only [List.getElem_toArray, List.getElem_cons_succ, List.getElem_cons_zero, Act.put, List.setIfInBounds_toArray, List.set_cons_zero, List.set_cons_succ])
      (refine wpAnyH_take (i := 2) (oi := ?oiz2) (v := ?vz2) ?hiz2 ?hsz2 ?hfz2 ?hrz2 ?hQz2 ?hyz2 ?hSz2 ?hz2)
      (case hiz2 => rfl)
      (case hsz2 => kernel_rfl)
      (case hfz2 => kernel_rfl)
      (case hrz2 => kernel_rfl)
      (case hQz2 => first | exact fun _ _ _ h => h | exact fun _ _ _ h => (nomatch h.1))
      (case hSz2 => assumption)
      (case hyz2 => (refine Or.inl ⟨by rfl, ?_⟩; intro W hW; obtain ⟨q1, q2, q3, q4, q5, q6, q7, q8, q9, qf⟩ := hW; go_simp; try with_reducible rfl))
      (try simp only [List.getElem_toArray, List.getElem_cons_succ, List.getElem_cons_zero, Act.put, List.setIfInBounds_toArray, List.set_cons_zero, List.set_cons_succ])
      (refine wpAnyH_take (i := 3) (oi := ?oiz3) (v := ?vz3) ?hiz3 ?hsz3 ?hfz3 ?hrz3 ?hQz3 ?hyz3 ?hSz3 ?hz3)
      (case hiz3 => rfl)
      (case hsz3 => kernel_rfl)
      (case hfz3 => kernel_rfl)
      (case hrz3 => kernel_rfl)
      (case hQz3 => first | exact fun _ _ _ h => h | exact fun _ _ _ h => (nomatch h.1))
      (case hSz3 => assumption)
      (case hyz3 => (refine Or.inl ⟨by rfl, ?_⟩; intro W hW; (try dsimp only at hW); go_simp; try with_reducible rfl))
      (try simp only [List.getElem_toArray, List.getElem_cons_succ, List.getElem_cons_zero, Act.put, List.setIfInBounds_toArray, List.set_cons_zero, List.set_cons_succ])
      (refine wpAnyH_take (i := 4) (oi := ?oiz4) (v := ?vz4) ?hiz4 ?hsz4 ?hfz4 ?hrz4 ?hQz4 ?hyz4 ?hSz4 ?hz4)
      (case hiz4 => rfl)
      (case hsz4 => kernel_rfl)
      (case hfz4 => kernel_rfl)
      (case hrz4 => kernel_rfl)
      (case hQz4 => first | exact fun _ _ _ h => h | exact fun _ _ _ h => (nomatch h.1))
      (case hSz4 => assumption)
      (case hyz4 => (refine Or.inl ⟨by rfl, ?_⟩; intro W hW; (try dsimp only at hW); go_simp; try with_reducible rfl))
      (try simp only [List.getElem_toArray, List.getElem_cons_succ, List.getElem_cons_zero, Act.put, List.setIfInBounds_toArray, List.set_cons_zero, List.set_cons_succ])
      (refine wpAnyH_take (i := 5) (oi := ?oiz5) (v := ?vz5) ?hiz5 ?hsz5 ?hfz5 ?hrz5 ?hQz5 ?hyz5 ?hSz5 ?hz5)
      (case hiz5 => rfl)
      (case hsz5 => kernel_rfl)
      (case hfz5 => kernel_rfl)
      (case hrz5 => kernel_rfl)
      (case hQz5 => first | exact fun _ _ _ h => h | exact fun _ _ _ h => (nomatch h.1))
      (case hSz5 => assumption)
      (case hyz5 => (refine Or.inl ⟨by rfl, ?_⟩; intro W hW; (try dsimp only at hW); go_simp; try with_reducible rfl))
      (try simp only [List.getElem_toArray, List.getElem_cons_succ, List.getElem_cons_zero, Act.put, List.setIfInBounds_toArray, List.set_cons_zero, List.set_cons_succ])
      refine wpAnyH_ready (rs := [6]) (by kernel_rfl) (by simp) ?_
      refine AllReadyH.cons rfl (fun K hK => ?_) (AllReadyH.nil)
      go_simp
      refine (HG.out _).mono ?_
      rintro e5 w5 ⟨rfl, hb5⟩
      have B5 : Below wr.heap.size wr w5 := (Below.refl _ _).drew.trans hb5
      refine hK.out _ _ (by exact hHeld.below hb5) (fun hHeld1 => ?_)
      clear hK K hHeld hb5
      try simp only [List.getElem_toArray, List.getElem_cons_succ, List.getElem_cons_zero, Act.put, List.setIfInBounds_toArray, List.set_cons_zero, List.set_cons_succ]
      refine wpAnyH_ready (rs := [7]) (by kernel_rfl) (by simp) ?_
      refine AllReadyH.cons rfl (fun K hK => ?_) (AllReadyH.nil)
      go_simp
      refine (HV.out _).mono ?_
      rintro e6 w6 ⟨rfl, hb6⟩
      have B6 := B5.trans (hb6.mono B5.size)
      refine hK.out _ _ (by exact hHeld1.below hb6) (fun hHeld2 => ?_)
      clear hK K hHeld1 hb6
      try simp only [List.getElem_toArray, List.getElem_cons_succ, List.getElem_cons_zero, Act.put, List.setIfInBounds_toArray, List.set_cons_zero, List.set_cons_succ]
      (refine wpAnyH_take (i := 8) (oi := ?oiz8) (v := ?vz8) ?hiz8 ?hsz8 ?hfz8 ?hrz8 ?hQz8 ?hyz8 ?hSz8 ?hz8)
      (case hiz8 => rfl)
      (case hsz8 => kernel_rfl)
      (case hfz8 => kernel_rfl)
      (case hrz8 => kernel_rfl)
      (case hQz8 => first | exact fun _ _ _ h => h | exact fun _ _ _ h => (nomatch h.1))
      (case hSz8 => assumption)
      (case hyz8 => (refine Or.inl ⟨by rfl, ?_⟩; intro W hW; (try dsimp only at hW); go_simp; try with_reducible rfl))
      (try simp only [List.getElem_toArray, List.getElem_cons_succ, List.getElem_cons_zero, Act.put, List.setIfInBounds_toArray, List.set_cons_zero, List.set_cons_succ])
      (refine wpAnyH_take (i := 9) (oi := ?oiz9) (v := ?vz9) ?hiz9 ?hsz9 ?hfz9 ?hrz9 ?hQz9 ?hyz9 ?hSz9 ?hz9)
      (case hiz9 => rfl)
      (case hsz9 => kernel_rfl)
      (case hfz9 => kernel_rfl)
      (case hrz9 => kernel_rfl)
      (case hQz9 => first | exact fun _ _ _ h => h | exact fun _ _ _ h => (nomatch h.1))
      (case hSz9 => assumption)
      (case hyz9 => (refine Or.inl ⟨by rfl, ?_⟩; intro W hW; (try dsimp only at hW); go_simp; try with_reducible rfl))
      (try simp only [List.getElem_toArray, List.getElem_cons_succ, List.getElem_cons_zero, Act.put, List.setIfInBounds_toArray, List.set_cons_zero, List.set_cons_succ])
      refine wpAnyH_done (by kernel_rfl) ?_ _
      have BW := HB9.out.trans (B6.mono HB9.out.size)
      have O9' := HO9.out.below B6
      clear B5 B6 hHeld2
      go_wp2
      refine ⟨?_, ?_⟩
      · exact ⟨j + 1, by omega, by go_num, by rw [HTS.out], BW, O9'⟩
      · simp [intOf]; omega
    · obtain rfl : j = nb.size := by omega
      clear hlt
      go_wp2
      go_ret
      refine ⟨?_, HB9.out⟩
      have e : textTo o nb.size = textO o := by rw [HS.out]; rfl
      rw [← e]
      rfl

end Go.Proofs.YtlohfcinffaagaaDoor
