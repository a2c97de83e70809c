/- The layer 'op': an operation's text. -/
import Derived.Test.YtlohfcinffaagaaDoorOpC
import Derived.OwnWalk
import Derived.Lib.Join
import Derived.Deep.RegionHeld3
import Derived.Laws.OwnMore
import Derived.Maps.AppendAt
namespace Go.Proofs.YtlohfcinffaagaaDoor
open Go.RowKit Go.Shelf
set_option linter.unusedVariables false
set_option linter.unusedSimpArgs false
attribute [local go_sem] Oper.semAt_some

/-- an operation's pieces; its text -/
def piecesO (o : OpN) (j : Nat) : List ByteArray := opName o.k :: ((opNames o.k).take j).map (fun n => numS (o.get n))
def textO (o : OpN) : ByteArray := ⟨(Lib.join ((piecesO o (opNames o.k).length).map (·.data.toList)) [32]).toArray⟩
def textS (o : OpN) : ByteArray := if bareB o = true then textO o else ⟨#[]⟩
theorem pieces_succ (o : OpN) (j : Nat) (h : j < (opNames o.k).length) : (piecesO o (j + 1)).map Value.string = (piecesO o j).map Value.string ++ [.string (numS (o.get (opNames o.k)[j]))] := by
  unfold piecesO
  rw [List.take_succ_eq_append_getElem h]
  simp only [List.map_append, List.map_cons, List.map_nil, List.cons_append]
theorem piecesO_len (o : OpN) (j : Nat) (h : j ≤ (opNames o.k).length) : (piecesO o j).length = j + 1 := by simp [piecesO]; omega
theorem lens_small (l : List (List UInt8)) (m : Nat) (h : ∀ x ∈ l, x.length ≤ m) : Lib.lens l ≤ l.length * m := by
  induction l with
  | nil => simp [Lib.lens]
  | cons x r ih =>
    have h1 := h x (by simp)
    have h2 := ih (fun y hy => h y (by simp [hy]))
    have e : Lib.lens (x :: r) = x.length + Lib.lens r := by simp [Lib.lens]
    rw [e, List.length_cons, Nat.succ_mul]
    omega
theorem join_small (l : List (List UInt8)) (m : Nat) (h : ∀ x ∈ l, x.length ≤ m) : (Lib.join l [32]).length ≤ l.length * (m + 1) := by
  cases l with
  | nil => simp [Lib.join_nil]
  | cons x r =>
    rw [Lib.join_length]
    have := lens_small (x :: r) m h
    rw [Nat.mul_add]
    simp at this ⊢
    omega
theorem infoStr : (Tryd.prog.info? 9).map (fun i => (i.zero, i.size, i.bytes)) = some (some (.string ByteArray.empty), 1, 16) := by kernel_rfl
/-- each number is one of 64 bits -/
def FitO (o : OpN) : Prop := ∀ n, -9223372036854775808 ≤ o.get n ∧ o.get n ≤ 9223372036854775807
theorem grown_of_below {w w' : World} (h : Below w.heap.size w w') : w.grownBy w' none := ⟨h.os, h.tape, h.output, h.size, fun k hk _ => h.block k hk⟩
theorem opName_small (k : Int) : (opName k).size ≤ 7 := by
  unfold opName
  repeat' split
  all_goals decide

set_option maxRecDepth 1000000 in
set_option maxHeartbeats 3200000 in
theorem text_calls (o : OpN) (hF : FitO o) (w : World) (hT : WOk w) :
    Calls Tryd.prog 19 #[opVal o] w fun e w' => e = .returned (.tuple #[.string (textS o), .int .i64 (toldE o)]) ∧ Below w.heap.size w w' := by
  have hB := fun W => bare_calls o W
  unfold opVal at hB
  unfold opVal
  cases hb : bareB o with
  | false =>
    have e1 : textS o = ⟨#[]⟩ := by unfold textS; rw [hb]; rfl
    have e2 : toldE o = 180 := by unfold toldE; rw [hb]; rfl
    rw [hb] at hB
    rw [e1, e2]
    have HB := Lib.hid hB
    clear hB e1 e2 hb
    go_enter Tryd.func19, Tryd.ntmps19
    go_wp2_with fail
    refine (HB.out _).mono ?_; rintro e1 w1 ⟨rfl, hb1⟩; have hz1 := hb1.size; (try simp at hz1)
    go_wp2
    go_ret2
    exact ⟨rfl, by (repeat (first | exact Below.refl _ _ | (with_reducible assumption) | refine Below.drew ?_ | refine Below.drewN' ?_ _ | refine Below.alloc ?_ (by first | omega | (simp; done) | (simp; omega)) _ | refine Below.setCell ?_ (by first | omega | (simp; done) | (simp; omega)) _ | refine Below.then ?_ hb9 (by first | omega | (simp; done) | (simp; omega)) | refine Below.then ?_ hb8 (by first | omega | (simp; done) | (simp; omega)) | refine Below.then ?_ hb7 (by first | omega | (simp; done) | (simp; omega)) | refine Below.then ?_ hb6 (by first | omega | (simp; done) | (simp; omega)) | refine Below.then ?_ hb5 (by first | omega | (simp; done) | (simp; omega)) | refine Below.then ?_ hb4 (by first | omega | (simp; done) | (simp; omega)) | refine Below.then ?_ hb3 (by first | omega | (simp; done) | (simp; omega)) | refine Below.then ?_ hb2 (by first | omega | (simp; done) | (simp; omega)) | refine Below.then ?_ hb1 (by first | omega | (simp; done) | (simp; omega))))⟩
  | true =>
    have e1 : textS o = textO o := by unfold textS; rw [hb]; rfl
    have e2 : toldE o = 0 := by unfold toldE; rw [hb]; rfl
    rw [hb] at hB
    rw [e1, e2]
    have HB := Lib.hid hB
    have HO := Lib.hid (fun W => of_calls o.k W)
    have HF := Lib.hid hF
    have HT := Lib.hid hT
    have hnl := names_len o.k
    obtain ⟨i0, hi, hi0, hi1, hi2⟩ := Go.info_parts infoStr
    clear hB e1 e2 hb hF hT
    go_enter Tryd.func19, Tryd.ntmps19
    go_wp2_with fail
    refine (HB.out _).mono ?_; rintro e1 w1 ⟨rfl, hb1⟩; have hz1 := hb1.size; (try simp at hz1)
    have O1 := (OpAt.new w o 35 _ rfl).below hb1
    obtain ⟨q1, q2, q3, q4, q5, q6, q7, q8, q9, qf⟩ := O1
    have O1 := Lib.hid (OpAt.mk q1 q2 q3 q4 q5 q6 q7 q8 q9 qf)
    go_wp2_with fail
    refine (HO.out _).mono ?_
    rintro e2 w2 ⟨a, c, rfl, hs, hb2⟩
    have HS := Lib.hid hs
    have hz2 := hb2.size
    have O2 := O1.out.below hb2
    have HO2 := Lib.hid O2
    clear hs q1 q2 q3 q4 q5 q6 q7 q8 q9 qf O2
    go_wp2_with fail
    have hown0 := World.ownsRow_lit (base := w2.heap.size) (e := 9) (size := 1) (w2.alloc (.cells #[.string (opName o.k), .slice a (opNames o.k).length c] 61)) #[.string (opName o.k)] 1 (by simp) (by decide) (by simp)
    simp only [World.size_alloc] at hown0
    go_loopw [6, 24] (fun l i wr => ∃ j : Nat, j ≤ (opNames o.k).length ∧ i = .int .i64 j ∧ Below w2.heap.size w2 wr ∧ wr.ownsRow w2.heap.size 9 1 l (j + 1) ((piecesO o j).map Value.string)) (fun _ i _ => (opNames o.k).length - (intOf i).toNat)
    case atStart => exact ⟨0, Nat.zero_le _, rfl, by (repeat (first | exact Below.refl _ _ | (with_reducible assumption) | refine Below.drew ?_ | refine Below.drewN' ?_ _ | refine Below.alloc ?_ (by first | omega | (simp; done) | (simp; omega)) _ | refine Below.setCell ?_ (by first | omega | (simp; done) | (simp; omega)) _ | refine Below.then ?_ hb9 (by first | omega | (simp; done) | (simp; omega)) | refine Below.then ?_ hb8 (by first | omega | (simp; done) | (simp; omega)) | refine Below.then ?_ hb7 (by first | omega | (simp; done) | (simp; omega)) | refine Below.then ?_ hb6 (by first | omega | (simp; done) | (simp; omega)) | refine Below.then ?_ hb5 (by first | omega | (simp; done) | (simp; omega)) | refine Below.then ?_ hb4 (by first | omega | (simp; done) | (simp; omega)) | refine Below.then ?_ hb3 (by first | omega | (simp; done) | (simp; omega)) | refine Below.then ?_ hb2 (by first | omega | (simp; done) | (simp; omega)) | refine Below.then ?_ hb1 (by first | omega | (simp; done) | (simp; omega)))), hown0⟩
    case round =>
      obtain ⟨j, hj, rfl, hb9, hown⟩ := hrel
      clear hown0
      have hzB := hb9.size
      have O9 := HO2.out.below hb9
      have HO9 := Lib.hid O9
      clear O9
      by_cases hlt : j < (opNames o.k).length
      · rcases HS.out.below hb9 with h0 | ⟨b, off, rfl, hbl, hcell⟩
        · have := congrArg List.length h0; rw [nmV_len, List.length_nil] at this; omega
        have hcx := hcell j (by rw [nmV_len]; exact hlt)
        rw [nmV_get _ j hlt] at hcx
        have hn6 : (opNames o.k)[j] ≤ 6 := names_le o.k _ (List.getElem_mem hlt)
        have hP := Lib.hid (pieces_succ o j hlt)
        obtain ⟨n, hn⟩ : ∃ n, (opNames o.k)[j] = n := ⟨_, rfl⟩
        rw [hn] at hcx hn6 hP
        have hpt := fun W => parts_at n hn6 W
        have HN := Lib.hid hown
        have BW : Below w.heap.size w wr := by (repeat (first | exact Below.refl _ _ | (with_reducible assumption) | refine Below.drew ?_ | refine Below.drewN' ?_ _ | refine Below.alloc ?_ (by first | omega | (simp; done) | (simp; omega)) _ | refine Below.setCell ?_ (by first | omega | (simp; done) | (simp; omega)) _ | refine Below.then ?_ hb9 (by first | omega | (simp; done) | (simp; omega)) | refine Below.then ?_ hb8 (by first | omega | (simp; done) | (simp; omega)) | refine Below.then ?_ hb7 (by first | omega | (simp; done) | (simp; omega)) | refine Below.then ?_ hb6 (by first | omega | (simp; done) | (simp; omega)) | refine Below.then ?_ hb5 (by first | omega | (simp; done) | (simp; omega)) | refine Below.then ?_ hb4 (by first | omega | (simp; done) | (simp; omega)) | refine Below.then ?_ hb3 (by first | omega | (simp; done) | (simp; omega)) | refine Below.then ?_ hb2 (by first | omega | (simp; done) | (simp; omega)) | refine Below.then ?_ hb1 (by first | omega | (simp; done) | (simp; omega))))
        have hzW := BW.size
        clear hcell hn
        go_wp2_with fail
        clear hcx
        refine wp_region_held_drew (S := fun A => OpAt A w.heap.size o) (by kernel_rfl) HO9.out.drew (fun hHeld => ?_)
        (refine wpAnyH_take (i := 0) (oi := ?oiz0) (v := ?vz0) ?hiz0 ?hsz0 ?hfz0 ?hrz0 ?hQz0 ?hyz0 ?hSz0 ?hz0)
        (case hiz0 => rfl)
        (case hsz0 => kernel_rfl)
        (case hfz0 => kernel_rfl)
        (case hrz0 => kernel_rfl)
        (case hQz0 => first | exact fun _ _ _ h => h | exact fun _ _ _ h => (nomatch h.1))
        (case hSz0 => assumption)
        (case hyz0 => (refine Or.inl ⟨by rfl, ?_⟩; intro W hW; (try dsimp only at hW); go_simp; try with_reducible rfl))
        (try simp only [List.getElem_toArray, List.getElem_cons_succ, List.getElem_cons_zero, Act.put, List.setIfInBounds_toArray, List.set_cons_zero, List.set_cons_succ])
        (refine wpAnyH_take (i := 2) (oi := ?oiz2) (v := ?vz2) ?hiz2 ?hsz2 ?hfz2 ?hrz2 ?hQz2 ?hyz2 ?hSz2 ?hz2)
        (case hiz2 => rfl)
        (case hsz2 => kernel_rfl)
        (case hfz2 => kernel_rfl)
        (case hrz2 => kernel_rfl)
        (case hQz2 => first | exact fun _ _ _ h => h | exact fun _ _ _ h => (nomatch h.1))
        (case hSz2 => assumption)
        (case hyz2 => (refine Or.inl ⟨by rfl, ?_⟩; intro W hW; (try dsimp only at hW); go_simp; try with_reducible rfl))
        (try simp only [List.getElem_toArray, List.getElem_cons_succ, List.getElem_cons_zero, Act.put, List.setIfInBounds_toArray, List.set_cons_zero, List.set_cons_succ])
        (refine wpAnyH_take (i := 4) (oi := ?oiz4) (v := ?vz4) ?hiz4 ?hsz4 ?hfz4 ?hrz4 ?hQz4 ?hyz4 ?hSz4 ?hz4)
        (case hiz4 => rfl)
        (case hsz4 => kernel_rfl)
        (case hfz4 => kernel_rfl)
        (case hrz4 => kernel_rfl)
        (case hQz4 => first | exact fun _ _ _ h => h | exact fun _ _ _ h => (nomatch h.1))
        (case hSz4 => assumption)
        (case hyz4 => (refine Or.inl ⟨by rfl, ?_⟩; intro W hW; obtain ⟨q1, q2, q3, q4, q5, q6, q7, q8, q9, qf⟩ := hW; go_simp; try with_reducible rfl))
        (try simp only [List.getElem_toArray, List.getElem_cons_succ, List.getElem_cons_zero, Act.put, List.setIfInBounds_toArray, List.set_cons_zero, List.set_cons_succ])
        (refine wpAnyH_take (i := 5) (oi := ?oiz5) (v := ?vz5) ?hiz5 ?hsz5 ?hfz5 ?hrz5 ?hQz5 ?hyz5 ?hSz5 ?hz5)
        (case hiz5 => rfl)
        (case hsz5 => kernel_rfl)
        (case hfz5 => kernel_rfl)
        (case hrz5 => kernel_rfl)
        (case hQz5 => first | exact fun _ _ _ h => h | exact fun _ _ _ h => (nomatch h.1))
        (case hSz5 => assumption)
        (case hyz5 => (refine Or.inl ⟨by rfl, ?_⟩; intro W hW; (try dsimp only at hW); go_simp; try with_reducible rfl))
        (try simp only [List.getElem_toArray, List.getElem_cons_succ, List.getElem_cons_zero, Act.put, List.setIfInBounds_toArray, List.set_cons_zero, List.set_cons_succ])
        refine wpAnyH_ready (rs := [1, 6]) (by kernel_rfl) (by simp) ?_
        refine AllReadyH.cons rfl (fun K' hK => ?g1) (AllReadyH.cons rfl (fun K' hK => ?g2) AllReadyH.nil)
        case' g1 =>
          go_simp
          refine (parts_calls _).mono ?_
          rintro e3 w3 ⟨rfl, hb3⟩
          refine hK.out _ _ (by exact hHeld.below hb3) (fun hHeld1 => ?_)
          clear hK K'
          try simp only [List.getElem_toArray, List.getElem_cons_succ, List.getElem_cons_zero, Act.put, List.setIfInBounds_toArray, List.set_cons_zero, List.set_cons_succ]
          (refine wpAnyH_take (i := 3) (oi := ?oiz3) (v := ?vz3) ?hiz3 ?hsz3 ?hfz3 ?hrz3 ?hQz3 ?hyz3 ?hSz3 ?hz3)
          (case hiz3 => rfl)
          (case hsz3 => kernel_rfl)
          (case hfz3 => kernel_rfl)
          (case hrz3 => kernel_rfl)
          (case hQz3 => first | exact fun _ _ _ h => h | exact fun _ _ _ h => (nomatch h.1))
          (case hSz3 => assumption)
          (case hyz3 => (refine Or.inl ⟨by rfl, ?_⟩; intro W hW; (try dsimp only at hW); go_simp; try with_reducible rfl))
          (try simp only [List.getElem_toArray, List.getElem_cons_succ, List.getElem_cons_zero, Act.put, List.setIfInBounds_toArray, List.set_cons_zero, List.set_cons_succ])
          refine wpAnyH_ready (rs := [6]) (by kernel_rfl) (by simp) ?_
          refine AllReadyH.cons rfl (fun K hK => ?_) (AllReadyH.nil)
          go_simp
          refine hK.out _ _ (by exact hHeld1.alloc _) (fun hHeld2 => ?_)
          clear hK K
          try simp only [List.getElem_toArray, List.getElem_cons_succ, List.getElem_cons_zero, Act.put, List.setIfInBounds_toArray, List.set_cons_zero, List.set_cons_succ]
          have A4 := OpAt.new w3 o 75 _ rfl
          have B4 : Below wr.heap.size wr (w3.alloc (.cells #[.int .i64 o.k, .int .i64 o.a, .int .i64 o.b, .int .i64 o.c, .int .i64 o.f, .int .i64 o.s, .int .i64 o.x, .int .i64 o.y] 75)) := ((Below.refl _ _).drew.trans hb3).alloc hb3.size _
          clear hHeld hHeld1 hb3
          revert hHeld2 A4 B4
          generalize w3.alloc (.cells #[.int .i64 o.k, .int .i64 o.a, .int .i64 o.b, .int .i64 o.c, .int .i64 o.f, .int .i64 o.s, .int .i64 o.x, .int .i64 o.y] 75) = W4
          intro hHeld2 A4 B4
        case' g2 =>
          go_simp
          refine hK.out _ _ (by exact hHeld.alloc _) (fun hHeld1 => ?_)
          clear hK K'
          try simp only [List.getElem_toArray, List.getElem_cons_succ, List.getElem_cons_zero, Act.put, List.setIfInBounds_toArray, List.set_cons_zero, List.set_cons_succ]
          refine wpAnyH_ready (rs := [1]) (by kernel_rfl) (by simp) ?_
          refine AllReadyH.cons rfl (fun K hK => ?_) (AllReadyH.nil)
          go_simp
          refine (parts_calls _).mono ?_
          rintro e3 w3 ⟨rfl, hb3⟩
          refine hK.out _ _ (by exact hHeld1.below hb3) (fun hHeld2 => ?_)
          clear hK K
          try simp only [List.getElem_toArray, List.getElem_cons_succ, List.getElem_cons_zero, Act.put, List.setIfInBounds_toArray, List.set_cons_zero, List.set_cons_succ]
          (refine wpAnyH_take (i := 3) (oi := ?oiy3) (v := ?vy3) ?hiy3 ?hsy3 ?hfy3 ?hry3 ?hQy3 ?hyy3 ?hSy3 ?hy3)
          (case hiy3 => rfl)
          (case hsy3 => kernel_rfl)
          (case hfy3 => kernel_rfl)
          (case hry3 => kernel_rfl)
          (case hQy3 => first | exact fun _ _ _ h => h | exact fun _ _ _ h => (nomatch h.1))
          (case hSy3 => assumption)
          (case hyy3 => (refine Or.inl ⟨by rfl, ?_⟩; intro W hW; skip; go_simp; try with_reducible rfl))
          (try simp only [List.getElem_toArray, List.getElem_cons_succ, List.getElem_cons_zero, Act.put, List.setIfInBounds_toArray, List.set_cons_zero, List.set_cons_succ])
          have A4 := (OpAt.new wr.drew o 75 wr.heap.size (by simp)).below hb3
          have B4 : Below wr.heap.size wr w3 := ((Below.refl wr.heap.size wr).drew.alloc (by simp) _).trans (hb3.mono (by simp))
          clear hHeld hHeld1 hb3
          revert hHeld2 A4 B4
          generalize w3 = W4
          intro hHeld2 A4 B4
        all_goals
          refine wpAnyH_ready (rs := [7]) (by kernel_rfl) (by simp) ?_
          refine AllReadyH.cons rfl (fun K hK => ?_) (AllReadyH.nil)
          go_simp
          refine (partGet_calls n hn6 _ (o.get n) _ A4.lt (A4.at n hn6)).mono ?_
          rintro e5 w5 ⟨rfl, hb5⟩
          refine hK.out _ _ (by exact hHeld2.below hb5) (fun hHeld5 => ?_)
          clear hK K
          try simp only [List.getElem_toArray, List.getElem_cons_succ, List.getElem_cons_zero, Act.put, List.setIfInBounds_toArray, List.set_cons_zero, List.set_cons_succ]
          have B5 := B4.trans (hb5.mono B4.size)
          have hT5 := (HT.out.below (w' := w5) (BW.trans (B5.mono hzW))).pow
          refine wpAnyH_ready (rs := [8]) (by kernel_rfl) (by simp) ?_
          refine AllReadyH.cons rfl (fun K hK => ?_) (AllReadyH.nil)
          go_simp
          refine (formatInt_calls (o.get n) (HF.out n).1 (HF.out n).2 _ hT5).mono ?_
          rintro e6 w6 ⟨rfl, hb6⟩
          refine hK.out _ _ (by exact hHeld5.below hb6) (fun hHeld6 => ?_)
          clear hK K
          try simp only [List.getElem_toArray, List.getElem_cons_succ, List.getElem_cons_zero, Act.put, List.setIfInBounds_toArray, List.set_cons_zero, List.set_cons_succ]
          have B6 := B5.trans (hb6.mono B5.size)
          refine wpAnyH_ready (rs := [9]) (by kernel_rfl) (by simp) ?_
          refine AllReadyH.cons rfl (fun K hK => ?_) (AllReadyH.nil)
          go_simp
          refine hK.out _ _ (by exact hHeld6.alloc _) (fun hHeld7 => ?_)
          clear hK K
          try simp only [List.getElem_toArray, List.getElem_cons_succ, List.getElem_cons_zero, Act.put, List.setIfInBounds_toArray, List.set_cons_zero, List.set_cons_succ]
          refine wpAnyH_ready (rs := [10]) (by kernel_rfl) (by simp) ?_
          refine AllReadyH.cons rfl (fun K hK => ?_) (AllReadyH.nil)
          rw [if_pos (by simp [Region.wanted])]
          have hown9 := (HN.out.kept (grown_of_below B6) (Classical.em _)).alloc (.cells #[.string (numS (o.get n))] 9)
          refine wp_append_own _ (.tmp 28) (.tmp 37) 64 rfl w2.heap.size 9 i0 (.string ByteArray.empty) 1 16 Tryd.underlying64 hi hi0 hi1 hi2 rfl (by decide) _ _ _ rfl hown9 ⟨w6.heap.size, 0, none⟩ 1 1 [.string (numS (o.get n))] rfl rfl (cell_one_new _ _ _) (fun x hx => by simp at hx; subst hx; rfl) (by unfold maxLen; omega) (by omega) (by have := B6.size; simp; omega) ?_
          intro v' w10 hown' hgrow hnil
          have B10 : Below w2.heap.size w2 w10 := ((hb9.trans (B6.mono hzB)).alloc (by have := B6.size; omega) _).grown hgrow (by have := B6.size; simp; omega) (fun j ej => (hown9.lt j ej).1)
          refine hK.out _ _ (by exact HO2.out.below B10) (fun hHeld10 => ?_)
          clear hK K
          try simp only [List.getElem_toArray, List.getElem_cons_succ, List.getElem_cons_zero, Act.put, List.setIfInBounds_toArray, List.set_cons_zero, List.set_cons_succ]
          refine wpAnyH_ready (rs := [11]) (by kernel_rfl) (by simp) ?_
          refine AllReadyH.cons rfl (fun K hK => ?_) (AllReadyH.nil)
          go_simp
          refine hK.out _ _ (by exact HO2.out.below B10) (fun hHeld11 => ?_)
          clear hK K
          try simp only [List.getElem_toArray, List.getElem_cons_succ, List.getElem_cons_zero, Act.put, List.setIfInBounds_toArray, List.set_cons_zero, List.set_cons_succ]
          refine wpAnyH_done (by kernel_rfl) ?_ _
          clear hHeld2 A4 B4 hHeld5 hHeld6 hHeld7 hHeld10 hHeld11 hown9 hgrow hnil hb5 hb6 B5 B6 hT5
          rw [← hP.out] at hown'
          go_wp2
          refine ⟨?_, ?_⟩
          · exact ⟨j + 1, by omega, by go_num, B10, hown'⟩
          · simp [intOf]; omega
      · obtain rfl : j = (opNames o.k).length := by omega
        have hcells := fun g (hg : _ = some g) => hown.cells (g := g) hg
        rcases hown.2 with ⟨_, h0⟩ | ⟨g, cap, cur, rfl, hgb, hgc, hrest⟩
        · omega
        have hpl := piecesO_len o (opNames o.k).length (Nat.le_refl _)
        have hsm : ∀ x ∈ (piecesO o (opNames o.k).length).map (·.data.toList), x.length ≤ 30 := by
          intro x hx
          obtain ⟨s, hs, rfl⟩ := List.mem_map.1 hx
          unfold piecesO at hs
          rcases List.mem_cons.1 hs with rfl | hs
          · have := opName_small o.k
            show (opName o.k).data.toList.length ≤ 30
            rw [Array.length_toList]
            exact Nat.le_trans this (by decide)
          · obtain ⟨m, _, rfl⟩ := List.mem_map.1 hs
            have := numS_len (o.get m) (HF.out m).1 (HF.out m).2
            show (numS (o.get m)).data.toList.length ≤ 30
            rw [Array.length_toList]
            exact this
        have hjl := join_small _ 30 hsm
        simp only [List.length_map] at hjl
        have hJ := Tryd.strings_Join g 0 cap (piecesO o (opNames o.k).length) ⟨#[32]⟩ wr (fun j x hx => by
          have := hcells g rfl j (.string x) (by rw [List.getElem?_map, hx]; rfl)
          have ea : (⟨g, 0, none⟩ : Addr).add j = ⟨g, 0 + j, none⟩ := by unfold Addr.add; split <;> simp_all
          rw [ea] at this
          exact this) (Array.getElem?_eq_some_iff.1 hgc).1 (by omega) (by have := hrest.1; omega) (by
          show (Lib.join _ [32]).length ≤ _
          omega)
        rw [hpl] at hJ
        have HJ := Lib.hid hJ
        clear hJ hjl hsm hcells hgc hrest hown hpl
        go_wp2_with fail
        refine (HJ.out).mono ?_; rintro e3 w3 ⟨rfl, hb3⟩; have hz3 := hb3.size; (try simp at hz3)
        go_wp2
        go_ret2
        exact ⟨rfl, by (repeat (first | exact Below.refl _ _ | (with_reducible assumption) | refine Below.drew ?_ | refine Below.drewN' ?_ _ | refine Below.alloc ?_ (by first | omega | (simp; done) | (simp; omega)) _ | refine Below.setCell ?_ (by first | omega | (simp; done) | (simp; omega)) _ | refine Below.then ?_ hb9 (by first | omega | (simp; done) | (simp; omega)) | refine Below.then ?_ hb8 (by first | omega | (simp; done) | (simp; omega)) | refine Below.then ?_ hb7 (by first | omega | (simp; done) | (simp; omega)) | refine Below.then ?_ hb6 (by first | omega | (simp; done) | (simp; omega)) | refine Below.then ?_ hb5 (by first | omega | (simp; done) | (simp; omega)) | refine Below.then ?_ hb4 (by first | omega | (simp; done) | (simp; omega)) | refine Below.then ?_ hb3 (by first | omega | (simp; done) | (simp; omega)) | refine Below.then ?_ hb2 (by first | omega | (simp; done) | (simp; omega)) | refine Below.then ?_ hb1 (by first | omega | (simp; done) | (simp; omega))))⟩

end Go.Proofs.YtlohfcinffaagaaDoor
