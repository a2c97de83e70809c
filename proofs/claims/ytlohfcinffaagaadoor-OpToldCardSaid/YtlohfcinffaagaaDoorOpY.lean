/- The reference of layer 'op': is an operation bare? -/
import Derived.Test.YtlohfcinffaagaaDoorOpYa
import Derived.Deep.RegionHeld3
import Derived.LoopTactic
namespace Go.Proofs.YtlohfcinffaagaaDoor
open Go.RowKit
set_option linter.unusedVariables false
set_option linter.unusedSimpArgs false
attribute [local go_sem] Oper.semAt_some

theorem zero_step {o : OpN} {j : Nat} (h : ZeroTo o j) (hj : (opNames o.k).contains j = true ∨ o.get j = 0) : ZeroTo o (j + 1) := by
  intro n hn
  by_cases e : n = j
  · subst e; exact hj
  · exact h n (by omega)

set_option maxRecDepth 1000000 in
set_option maxHeartbeats 12800000 in
theorem refBare_calls (o : OpN) (w : World) : Calls Tryd.prog 20 #[opVal o] w fun e w' => e = .returned (.bool (bareB o)) ∧ Below w.heap.size w w' := by
  unfold opVal
  cases hk : opIs o.k with
  | false =>
    have e : bareB o = false := by unfold bareB; rw [hk]; rfl
    have b1 : o.k ≤ 0 ∨ 11 < o.k := by unfold opIs at hk; simp only [decide_eq_false_iff_not] at hk; omega
    rw [e]
    clear e hk
    rcases b1 with b1 | b1
    · have b2 : o.k < 1 := by omega
      go_enter Tryd.func20, Tryd.ntmps20
      go_wp2
      go_ret
      exact ⟨rfl, by (repeat (first | exact Below.refl _ _ | (with_reducible assumption) | refine Below.drew ?_ | refine Below.drewN' ?_ _ | refine Below.alloc ?_ (by first | omega | (simp; done) | (simp; omega)) _ | refine Below.setCell ?_ (by first | omega | (simp; done) | (simp; omega)) _ | refine Below.then ?_ hb9 (by first | omega | (simp; done) | (simp; omega)) | refine Below.then ?_ hb8 (by first | omega | (simp; done) | (simp; omega)) | refine Below.then ?_ hb7 (by first | omega | (simp; done) | (simp; omega)) | refine Below.then ?_ hb6 (by first | omega | (simp; done) | (simp; omega)) | refine Below.then ?_ hb5 (by first | omega | (simp; done) | (simp; omega)) | refine Below.then ?_ hb4 (by first | omega | (simp; done) | (simp; omega)) | refine Below.then ?_ hb3 (by first | omega | (simp; done) | (simp; omega)) | refine Below.then ?_ hb2 (by first | omega | (simp; done) | (simp; omega)) | refine Below.then ?_ hb1 (by first | omega | (simp; done) | (simp; omega))))⟩
    · have b2 : ¬ o.k < 1 := by omega
      go_enter Tryd.func20, Tryd.ntmps20
      go_wp2
      go_ret
      exact ⟨rfl, by (repeat (first | exact Below.refl _ _ | (with_reducible assumption) | refine Below.drew ?_ | refine Below.drewN' ?_ _ | refine Below.alloc ?_ (by first | omega | (simp; done) | (simp; omega)) _ | refine Below.setCell ?_ (by first | omega | (simp; done) | (simp; omega)) _ | refine Below.then ?_ hb9 (by first | omega | (simp; done) | (simp; omega)) | refine Below.then ?_ hb8 (by first | omega | (simp; done) | (simp; omega)) | refine Below.then ?_ hb7 (by first | omega | (simp; done) | (simp; omega)) | refine Below.then ?_ hb6 (by first | omega | (simp; done) | (simp; omega)) | refine Below.then ?_ hb5 (by first | omega | (simp; done) | (simp; omega)) | refine Below.then ?_ hb4 (by first | omega | (simp; done) | (simp; omega)) | refine Below.then ?_ hb3 (by first | omega | (simp; done) | (simp; omega)) | refine Below.then ?_ hb2 (by first | omega | (simp; done) | (simp; omega)) | refine Below.then ?_ hb1 (by first | omega | (simp; done) | (simp; omega))))⟩
  | true =>
    have b1 : ¬ o.k < 1 := by unfold opIs at hk; simp only [decide_eq_true_eq] at hk; omega
    have b2 : ¬ 11 < o.k := by unfold opIs at hk; simp only [decide_eq_true_eq] at hk; omega
    have HK := Lib.hid hk
    clear hk
    go_enter Tryd.func20, Tryd.ntmps20
    go_wp2_with fail
    have O0 := OpAt.new w o 35 _ rfl
    have HO0 := Lib.hid O0
    clear O0
    go_loopw [5] (fun i wr => ∃ (j : Nat) (t : Int), j ≤ 7 ∧ i = .int .i64 t ∧ t = j ∧ Below w.heap.size w wr ∧ OpAt wr w.heap.size o ∧ ZeroTo o j) (fun i _ => 7 - (intOf i).toNat)
    case atStart => exact ⟨0, 0, by omega, rfl, rfl, by (repeat (first | exact Below.refl _ _ | (with_reducible assumption) | refine Below.drew ?_ | refine Below.drewN' ?_ _ | refine Below.alloc ?_ (by first | omega | (simp; done) | (simp; omega)) _ | refine Below.setCell ?_ (by first | omega | (simp; done) | (simp; omega)) _ | refine Below.then ?_ hb9 (by first | omega | (simp; done) | (simp; omega)) | refine Below.then ?_ hb8 (by first | omega | (simp; done) | (simp; omega)) | refine Below.then ?_ hb7 (by first | omega | (simp; done) | (simp; omega)) | refine Below.then ?_ hb6 (by first | omega | (simp; done) | (simp; omega)) | refine Below.then ?_ hb5 (by first | omega | (simp; done) | (simp; omega)) | refine Below.then ?_ hb4 (by first | omega | (simp; done) | (simp; omega)) | refine Below.then ?_ hb3 (by first | omega | (simp; done) | (simp; omega)) | refine Below.then ?_ hb2 (by first | omega | (simp; done) | (simp; omega)) | refine Below.then ?_ hb1 (by first | omega | (simp; done) | (simp; omega)))), HO0.out, fun n hn => by omega⟩
    case round =>
      obtain ⟨j, t, hj, rfl, ht, hb9, ho9, hz9⟩ := hrel
      have HB9 := Lib.hid hb9
      have HO9 := Lib.hid ho9
      have hzt := Lib.hid hz9
      clear hz9 ho9 hb9
      by_cases hlt : j < 7
      · obtain rfl | rfl | rfl | rfl | rfl | rfl | rfl : j = 0 ∨ j = 1 ∨ j = 2 ∨ j = 3 ∨ j = 4 ∨ j = 5 ∨ j = 6 := by omega
        · obtain rfl : t = 0 := by omega
          clear ht hlt
          have HN := Lib.hid (fun W => named_calls o.k 0 (by omega) W)
          cases hc : (opNames o.k).contains 0 with
          | true =>
            rw [hc] at HN
            have HC := Lib.hid hc
            clear hc
            go_wp2_with fail
            refine wp_region_held_drew (S := fun A => OpAt A w.heap.size o) (by kernel_rfl) HO9.out.drew (fun hHeld => ?_)
            (refine wpAnyH_take (i := 0) (oi := ?oin0_0) (v := ?vn0_0) ?hin0_0 ?hsn0_0 ?hfn0_0 ?hrn0_0 ?hQn0_0 ?hyn0_0 ?hSn0_0 ?hn0_0)
            (case hin0_0 => rfl)
            (case hsn0_0 => kernel_rfl)
            (case hfn0_0 => kernel_rfl)
            (case hrn0_0 => kernel_rfl)
            (case hQn0_0 => first | exact fun _ _ _ h => h | exact fun _ _ _ h => (nomatch h.1))
            (case hSn0_0 => assumption)
            (case hyn0_0 => (refine Or.inl ⟨by rfl, ?_⟩; intro W hW; skip; go_simp; try with_reducible rfl))
            (try simp only [List.getElem_toArray, List.getElem_cons_succ, List.getElem_cons_zero, Act.put, List.setIfInBounds_toArray, List.set_cons_zero, List.set_cons_succ])
            (refine wpAnyH_take (i := 2) (oi := ?oin0_2) (v := ?vn0_2) ?hin0_2 ?hsn0_2 ?hfn0_2 ?hrn0_2 ?hQn0_2 ?hyn0_2 ?hSn0_2 ?hn0_2)
            (case hin0_2 => rfl)
            (case hsn0_2 => kernel_rfl)
            (case hfn0_2 => kernel_rfl)
            (case hrn0_2 => kernel_rfl)
            (case hQn0_2 => first | exact fun _ _ _ h => h | exact fun _ _ _ h => (nomatch h.1))
            (case hSn0_2 => assumption)
            (case hyn0_2 => (refine Or.inl ⟨by rfl, ?_⟩; intro W hW; skip; go_simp; try with_reducible rfl))
            (try simp only [List.getElem_toArray, List.getElem_cons_succ, List.getElem_cons_zero, Act.put, List.setIfInBounds_toArray, List.set_cons_zero, List.set_cons_succ])
            (refine wpAnyH_take (i := 3) (oi := ?oin0_3) (v := ?vn0_3) ?hin0_3 ?hsn0_3 ?hfn0_3 ?hrn0_3 ?hQn0_3 ?hyn0_3 ?hSn0_3 ?hn0_3)
            (case hin0_3 => rfl)
            (case hsn0_3 => kernel_rfl)
            (case hfn0_3 => kernel_rfl)
            (case hrn0_3 => kernel_rfl)
            (case hQn0_3 => first | exact fun _ _ _ h => h | exact fun _ _ _ h => (nomatch h.1))
            (case hSn0_3 => assumption)
            (case hyn0_3 => (refine Or.inl ⟨by rfl, ?_⟩; intro W hW; skip; go_simp; try with_reducible rfl))
            (try simp only [List.getElem_toArray, List.getElem_cons_succ, List.getElem_cons_zero, Act.put, List.setIfInBounds_toArray, List.set_cons_zero, List.set_cons_succ])
            (refine wpAnyH_take (i := 4) (oi := ?oin0_4) (v := ?vn0_4) ?hin0_4 ?hsn0_4 ?hfn0_4 ?hrn0_4 ?hQn0_4 ?hyn0_4 ?hSn0_4 ?hn0_4)
            (case hin0_4 => rfl)
            (case hsn0_4 => kernel_rfl)
            (case hfn0_4 => kernel_rfl)
            (case hrn0_4 => kernel_rfl)
            (case hQn0_4 => first | exact fun _ _ _ h => h | exact fun _ _ _ h => (nomatch h.1))
            (case hSn0_4 => assumption)
            (case hyn0_4 => (refine Or.inl ⟨by rfl, ?_⟩; intro W hW; skip; go_simp; try with_reducible rfl))
            (try simp only [List.getElem_toArray, List.getElem_cons_succ, List.getElem_cons_zero, Act.put, List.setIfInBounds_toArray, List.set_cons_zero, List.set_cons_succ])
            refine wpAnyH_ready (rs := [1]) (by kernel_rfl) (by simp) ?_
            refine AllReadyH.cons rfl (fun K hK => ?_) (AllReadyH.nil)
            go_simp
            refine (refNames_calls o.k _).mono ?_
            rintro e3 w3 ⟨rfl, hb3⟩
            have B3 : Below wr.heap.size wr w3 := (Below.refl _ _).drew.trans hb3
            refine hK.out _ _ (by exact hHeld.below hb3) (fun hHeld1 => ?_)
            clear hK K hHeld hb3
            try simp only [List.getElem_toArray, List.getElem_cons_succ, List.getElem_cons_zero, Act.put, List.setIfInBounds_toArray, List.set_cons_zero, List.set_cons_succ]
            refine wpAnyH_ready (rs := [5]) (by kernel_rfl) (by simp) ?_
            refine AllReadyH.cons rfl (fun K hK => ?_) (AllReadyH.nil)
            go_simp
            refine (HN.out _).mono ?_
            rintro e4 w4 ⟨rfl, hb4⟩
            have B4 := B3.trans (hb4.mono B3.size)
            refine hK.out _ _ (by exact hHeld1.below hb4) (fun hHeld2 => ?_)
            clear hK K hHeld1 hb4
            try simp only [List.getElem_toArray, List.getElem_cons_succ, List.getElem_cons_zero, Act.put, List.setIfInBounds_toArray, List.set_cons_zero, List.set_cons_succ]
            (refine wpAnyH_take (i := 6) (oi := ?oin0_6) (v := ?vn0_6) ?hin0_6 ?hsn0_6 ?hfn0_6 ?hrn0_6 ?hQn0_6 ?hyn0_6 ?hSn0_6 ?hn0_6)
            (case hin0_6 => rfl)
            (case hsn0_6 => kernel_rfl)
            (case hfn0_6 => kernel_rfl)
            (case hrn0_6 => kernel_rfl)
            (case hQn0_6 => first | exact fun _ _ _ h => h | exact fun _ _ _ h => (nomatch h.1))
            (case hSn0_6 => assumption)
            (case hyn0_6 => (refine Or.inl ⟨by rfl, ?_⟩; intro W hW; skip; go_simp; try with_reducible rfl))
            (try simp only [List.getElem_toArray, List.getElem_cons_succ, List.getElem_cons_zero, Act.put, List.setIfInBounds_toArray, List.set_cons_zero, List.set_cons_succ])
            (refine wpAnyH_take (i := 7) (oi := ?oin0_7) (v := ?vn0_7) ?hin0_7 ?hsn0_7 ?hfn0_7 ?hrn0_7 ?hQn0_7 ?hyn0_7 ?hSn0_7 ?hn0_7)
            (case hin0_7 => rfl)
            (case hsn0_7 => kernel_rfl)
            (case hfn0_7 => kernel_rfl)
            (case hrn0_7 => kernel_rfl)
            (case hQn0_7 => first | exact fun _ _ _ h => h | exact fun _ _ _ h => (nomatch h.1))
            (case hSn0_7 => assumption)
            (case hyn0_7 => (refine Or.inl ⟨by rfl, ?_⟩; intro W hW; skip; go_simp; try with_reducible rfl))
            (try simp only [List.getElem_toArray, List.getElem_cons_succ, List.getElem_cons_zero, Act.put, List.setIfInBounds_toArray, List.set_cons_zero, List.set_cons_succ])
            (refine wpAnyH_take (i := 8) (oi := ?oin0_8) (v := undef) ?hin0_8 ?hsn0_8 ?hfn0_8 ?hrn0_8 ?hQn0_8 ?hyn0_8 ?hSn0_8 ?hn0_8)
            (case hin0_8 => rfl)
            (case hsn0_8 => kernel_rfl)
            (case hfn0_8 => kernel_rfl)
            (case hrn0_8 => kernel_rfl)
            (case hQn0_8 => first | exact fun _ _ _ h => h | exact fun _ _ _ h => (nomatch h.1))
            (case hSn0_8 => assumption)
            (case hyn0_8 => exact Or.inr ⟨by rfl, rfl⟩)
            (try simp only [List.getElem_toArray, List.getElem_cons_succ, List.getElem_cons_zero, Act.put, List.setIfInBounds_toArray, List.set_cons_zero, List.set_cons_succ])
            (refine wpAnyH_take (i := 9) (oi := ?oin0_9) (v := undef) ?hin0_9 ?hsn0_9 ?hfn0_9 ?hrn0_9 ?hQn0_9 ?hyn0_9 ?hSn0_9 ?hn0_9)
            (case hin0_9 => rfl)
            (case hsn0_9 => kernel_rfl)
            (case hfn0_9 => kernel_rfl)
            (case hrn0_9 => kernel_rfl)
            (case hQn0_9 => first | exact fun _ _ _ h => h | exact fun _ _ _ h => (nomatch h.1))
            (case hSn0_9 => assumption)
            (case hyn0_9 => exact Or.inr ⟨by rfl, rfl⟩)
            (try simp only [List.getElem_toArray, List.getElem_cons_succ, List.getElem_cons_zero, Act.put, List.setIfInBounds_toArray, List.set_cons_zero, List.set_cons_succ])
            (refine wpAnyH_take (i := 10) (oi := ?oin0_10) (v := undef) ?hin0_10 ?hsn0_10 ?hfn0_10 ?hrn0_10 ?hQn0_10 ?hyn0_10 ?hSn0_10 ?hn0_10)
            (case hin0_10 => rfl)
            (case hsn0_10 => kernel_rfl)
            (case hfn0_10 => kernel_rfl)
            (case hrn0_10 => kernel_rfl)
            (case hQn0_10 => first | exact fun _ _ _ h => h | exact fun _ _ _ h => (nomatch h.1))
            (case hSn0_10 => assumption)
            (case hyn0_10 => exact Or.inr ⟨by rfl, rfl⟩)
            (try simp only [List.getElem_toArray, List.getElem_cons_succ, List.getElem_cons_zero, Act.put, List.setIfInBounds_toArray, List.set_cons_zero, List.set_cons_succ])
            (refine wpAnyH_take (i := 11) (oi := ?oin0_11) (v := undef) ?hin0_11 ?hsn0_11 ?hfn0_11 ?hrn0_11 ?hQn0_11 ?hyn0_11 ?hSn0_11 ?hn0_11)
            (case hin0_11 => rfl)
            (case hsn0_11 => kernel_rfl)
            (case hfn0_11 => kernel_rfl)
            (case hrn0_11 => kernel_rfl)
            (case hQn0_11 => first | exact fun _ _ _ h => h | exact fun _ _ _ h => (nomatch h.1))
            (case hSn0_11 => assumption)
            (case hyn0_11 => exact Or.inr ⟨by rfl, rfl⟩)
            (try simp only [List.getElem_toArray, List.getElem_cons_succ, List.getElem_cons_zero, Act.put, List.setIfInBounds_toArray, List.set_cons_zero, List.set_cons_succ])
            (refine wpAnyH_take (i := 12) (oi := ?oin0_12) (v := undef) ?hin0_12 ?hsn0_12 ?hfn0_12 ?hrn0_12 ?hQn0_12 ?hyn0_12 ?hSn0_12 ?hn0_12)
            (case hin0_12 => rfl)
            (case hsn0_12 => kernel_rfl)
            (case hfn0_12 => kernel_rfl)
            (case hrn0_12 => kernel_rfl)
            (case hQn0_12 => first | exact fun _ _ _ h => h | exact fun _ _ _ h => (nomatch h.1))
            (case hSn0_12 => assumption)
            (case hyn0_12 => exact Or.inr ⟨by rfl, rfl⟩)
            (try simp only [List.getElem_toArray, List.getElem_cons_succ, List.getElem_cons_zero, Act.put, List.setIfInBounds_toArray, List.set_cons_zero, List.set_cons_succ])
            (refine wpAnyH_take (i := 13) (oi := ?oin0_13) (v := undef) ?hin0_13 ?hsn0_13 ?hfn0_13 ?hrn0_13 ?hQn0_13 ?hyn0_13 ?hSn0_13 ?hn0_13)
            (case hin0_13 => rfl)
            (case hsn0_13 => kernel_rfl)
            (case hfn0_13 => kernel_rfl)
            (case hrn0_13 => kernel_rfl)
            (case hQn0_13 => first | exact fun _ _ _ h => h | exact fun _ _ _ h => (nomatch h.1))
            (case hSn0_13 => assumption)
            (case hyn0_13 => exact Or.inr ⟨by rfl, rfl⟩)
            (try simp only [List.getElem_toArray, List.getElem_cons_succ, List.getElem_cons_zero, Act.put, List.setIfInBounds_toArray, List.set_cons_zero, List.set_cons_succ])
            (refine wpAnyH_take (i := 14) (oi := ?oin0_14) (v := ?vn0_14) ?hin0_14 ?hsn0_14 ?hfn0_14 ?hrn0_14 ?hQn0_14 ?hyn0_14 ?hSn0_14 ?hn0_14)
            (case hin0_14 => rfl)
            (case hsn0_14 => kernel_rfl)
            (case hfn0_14 => kernel_rfl)
            (case hrn0_14 => kernel_rfl)
            (case hQn0_14 => first | exact fun _ _ _ h => h | exact fun _ _ _ h => (nomatch h.1))
            (case hSn0_14 => assumption)
            (case hyn0_14 => (refine Or.inl ⟨by rfl, ?_⟩; intro W hW; skip; go_simp; try with_reducible rfl))
            (try simp only [List.getElem_toArray, List.getElem_cons_succ, List.getElem_cons_zero, Act.put, List.setIfInBounds_toArray, List.set_cons_zero, List.set_cons_succ])
            refine wpAnyH_done (by kernel_rfl) ?_ _
            have BW := HB9.out.trans (B4.mono HB9.out.size)
            have O9' := HO9.out.below (B4)
            go_wp2
            refine ⟨?_, ?_⟩
            · exact ⟨1, 1, by omega, rfl, rfl, BW, O9', zero_step hzt.out (.inl HC.out)⟩
            · simp [intOf]
          | false =>
            rw [hc] at HN
            have HG := Lib.hid (fun W => get_calls o 0 (by omega) W)
            unfold opVal at HG
            by_cases hv : o.a = 0
            · have hv' : o.get 0 = 0 := hv
              rw [hv'] at HG
              have HV := Lib.hid hv'
              clear hv hv' hc
              go_wp2_with fail
              refine wp_region_held_drew (S := fun A => OpAt A w.heap.size o) (by kernel_rfl) HO9.out.drew (fun hHeld => ?_)
              (refine wpAnyH_take (i := 0) (oi := ?oiz0_0) (v := ?vz0_0) ?hiz0_0 ?hsz0_0 ?hfz0_0 ?hrz0_0 ?hQz0_0 ?hyz0_0 ?hSz0_0 ?hz0_0)
              (case hiz0_0 => rfl)
              (case hsz0_0 => kernel_rfl)
              (case hfz0_0 => kernel_rfl)
              (case hrz0_0 => kernel_rfl)
              (case hQz0_0 => first | exact fun _ _ _ h => h | exact fun _ _ _ h => (nomatch h.1))
              (case hSz0_0 => assumption)
              (case hyz0_0 => (refine Or.inl ⟨by rfl, ?_⟩; intro W hW; skip; go_simp; try with_reducible rfl))
              (try simp only [List.getElem_toArray, List.getElem_cons_succ, List.getElem_cons_zero, Act.put, List.setIfInBounds_toArray, List.set_cons_zero, List.set_cons_succ])
              (refine wpAnyH_take (i := 2) (oi := ?oiz0_2) (v := ?vz0_2) ?hiz0_2 ?hsz0_2 ?hfz0_2 ?hrz0_2 ?hQz0_2 ?hyz0_2 ?hSz0_2 ?hz0_2)
              (case hiz0_2 => rfl)
              (case hsz0_2 => kernel_rfl)
              (case hfz0_2 => kernel_rfl)
              (case hrz0_2 => kernel_rfl)
              (case hQz0_2 => first | exact fun _ _ _ h => h | exact fun _ _ _ h => (nomatch h.1))
              (case hSz0_2 => assumption)
              (case hyz0_2 => (refine Or.inl ⟨by rfl, ?_⟩; intro W hW; skip; go_simp; try with_reducible rfl))
              (try simp only [List.getElem_toArray, List.getElem_cons_succ, List.getElem_cons_zero, Act.put, List.setIfInBounds_toArray, List.set_cons_zero, List.set_cons_succ])
              (refine wpAnyH_take (i := 3) (oi := ?oiz0_3) (v := ?vz0_3) ?hiz0_3 ?hsz0_3 ?hfz0_3 ?hrz0_3 ?hQz0_3 ?hyz0_3 ?hSz0_3 ?hz0_3)
              (case hiz0_3 => rfl)
              (case hsz0_3 => kernel_rfl)
              (case hfz0_3 => kernel_rfl)
              (case hrz0_3 => kernel_rfl)
              (case hQz0_3 => first | exact fun _ _ _ h => h | exact fun _ _ _ h => (nomatch h.1))
              (case hSz0_3 => assumption)
              (case hyz0_3 => (refine Or.inl ⟨by rfl, ?_⟩; intro W hW; skip; go_simp; try with_reducible rfl))
              (try simp only [List.getElem_toArray, List.getElem_cons_succ, List.getElem_cons_zero, Act.put, List.setIfInBounds_toArray, List.set_cons_zero, List.set_cons_succ])
              (refine wpAnyH_take (i := 4) (oi := ?oiz0_4) (v := ?vz0_4) ?hiz0_4 ?hsz0_4 ?hfz0_4 ?hrz0_4 ?hQz0_4 ?hyz0_4 ?hSz0_4 ?hz0_4)
              (case hiz0_4 => rfl)
              (case hsz0_4 => kernel_rfl)
              (case hfz0_4 => kernel_rfl)
              (case hrz0_4 => kernel_rfl)
              (case hQz0_4 => first | exact fun _ _ _ h => h | exact fun _ _ _ h => (nomatch h.1))
              (case hSz0_4 => assumption)
              (case hyz0_4 => (refine Or.inl ⟨by rfl, ?_⟩; intro W hW; skip; go_simp; try with_reducible rfl))
              (try simp only [List.getElem_toArray, List.getElem_cons_succ, List.getElem_cons_zero, Act.put, List.setIfInBounds_toArray, List.set_cons_zero, List.set_cons_succ])
              refine wpAnyH_ready (rs := [1]) (by kernel_rfl) (by simp) ?_
              refine AllReadyH.cons rfl (fun K hK => ?_) (AllReadyH.nil)
              go_simp
              refine (refNames_calls o.k _).mono ?_
              rintro e3 w3 ⟨rfl, hb3⟩
              have B3 : Below wr.heap.size wr w3 := (Below.refl _ _).drew.trans hb3
              refine hK.out _ _ (by exact hHeld.below hb3) (fun hHeld1 => ?_)
              clear hK K hHeld hb3
              try simp only [List.getElem_toArray, List.getElem_cons_succ, List.getElem_cons_zero, Act.put, List.setIfInBounds_toArray, List.set_cons_zero, List.set_cons_succ]
              refine wpAnyH_ready (rs := [5]) (by kernel_rfl) (by simp) ?_
              refine AllReadyH.cons rfl (fun K hK => ?_) (AllReadyH.nil)
              go_simp
              refine (HN.out _).mono ?_
              rintro e4 w4 ⟨rfl, hb4⟩
              have B4 := B3.trans (hb4.mono B3.size)
              refine hK.out _ _ (by exact hHeld1.below hb4) (fun hHeld2 => ?_)
              clear hK K hHeld1 hb4
              try simp only [List.getElem_toArray, List.getElem_cons_succ, List.getElem_cons_zero, Act.put, List.setIfInBounds_toArray, List.set_cons_zero, List.set_cons_succ]
              (refine wpAnyH_take (i := 6) (oi := ?oiz0_6) (v := ?vz0_6) ?hiz0_6 ?hsz0_6 ?hfz0_6 ?hrz0_6 ?hQz0_6 ?hyz0_6 ?hSz0_6 ?hz0_6)
              (case hiz0_6 => rfl)
              (case hsz0_6 => kernel_rfl)
              (case hfz0_6 => kernel_rfl)
              (case hrz0_6 => kernel_rfl)
              (case hQz0_6 => first | exact fun _ _ _ h => h | exact fun _ _ _ h => (nomatch h.1))
              (case hSz0_6 => assumption)
              (case hyz0_6 => (refine Or.inl ⟨by rfl, ?_⟩; intro W hW; skip; go_simp; try with_reducible rfl))
              (try simp only [List.getElem_toArray, List.getElem_cons_succ, List.getElem_cons_zero, Act.put, List.setIfInBounds_toArray, List.set_cons_zero, List.set_cons_succ])
              (refine wpAnyH_take (i := 7) (oi := ?oiz0_7) (v := ?vz0_7) ?hiz0_7 ?hsz0_7 ?hfz0_7 ?hrz0_7 ?hQz0_7 ?hyz0_7 ?hSz0_7 ?hz0_7)
              (case hiz0_7 => rfl)
              (case hsz0_7 => kernel_rfl)
              (case hfz0_7 => kernel_rfl)
              (case hrz0_7 => kernel_rfl)
              (case hQz0_7 => first | exact fun _ _ _ h => h | exact fun _ _ _ h => (nomatch h.1))
              (case hSz0_7 => assumption)
              (case hyz0_7 => (refine Or.inl ⟨by rfl, ?_⟩; intro W hW; skip; go_simp; try with_reducible rfl))
              (try simp only [List.getElem_toArray, List.getElem_cons_succ, List.getElem_cons_zero, Act.put, List.setIfInBounds_toArray, List.set_cons_zero, List.set_cons_succ])
              (refine wpAnyH_take (i := 8) (oi := ?oiz0_8) (v := ?vz0_8) ?hiz0_8 ?hsz0_8 ?hfz0_8 ?hrz0_8 ?hQz0_8 ?hyz0_8 ?hSz0_8 ?hz0_8)
              (case hiz0_8 => rfl)
              (case hsz0_8 => kernel_rfl)
              (case hfz0_8 => kernel_rfl)
              (case hrz0_8 => kernel_rfl)
              (case hQz0_8 => first | exact fun _ _ _ h => h | exact fun _ _ _ h => (nomatch h.1))
              (case hSz0_8 => assumption)
              (case hyz0_8 => (refine Or.inl ⟨by rfl, ?_⟩; intro W hW; obtain ⟨q1, q2, q3, q4, q5, q6, q7, q8, q9, qf⟩ := hW; go_simp; try with_reducible rfl))
              (try simp only [List.getElem_toArray, List.getElem_cons_succ, List.getElem_cons_zero, Act.put, List.setIfInBounds_toArray, List.set_cons_zero, List.set_cons_succ])
              (refine wpAnyH_take (i := 9) (oi := ?oiz0_9) (v := ?vz0_9) ?hiz0_9 ?hsz0_9 ?hfz0_9 ?hrz0_9 ?hQz0_9 ?hyz0_9 ?hSz0_9 ?hz0_9)
              (case hiz0_9 => rfl)
              (case hsz0_9 => kernel_rfl)
              (case hfz0_9 => kernel_rfl)
              (case hrz0_9 => kernel_rfl)
              (case hQz0_9 => first | exact fun _ _ _ h => h | exact fun _ _ _ h => (nomatch h.1))
              (case hSz0_9 => assumption)
              (case hyz0_9 => (refine Or.inl ⟨by rfl, ?_⟩; intro W hW; skip; go_simp; try with_reducible rfl))
              (try simp only [List.getElem_toArray, List.getElem_cons_succ, List.getElem_cons_zero, Act.put, List.setIfInBounds_toArray, List.set_cons_zero, List.set_cons_succ])
              (refine wpAnyH_take (i := 10) (oi := ?oiz0_10) (v := ?vz0_10) ?hiz0_10 ?hsz0_10 ?hfz0_10 ?hrz0_10 ?hQz0_10 ?hyz0_10 ?hSz0_10 ?hz0_10)
              (case hiz0_10 => rfl)
              (case hsz0_10 => kernel_rfl)
              (case hfz0_10 => kernel_rfl)
              (case hrz0_10 => kernel_rfl)
              (case hQz0_10 => first | exact fun _ _ _ h => h | exact fun _ _ _ h => (nomatch h.1))
              (case hSz0_10 => assumption)
              (case hyz0_10 => (refine Or.inl ⟨by rfl, ?_⟩; intro W hW; skip; go_simp; try with_reducible rfl))
              (try simp only [List.getElem_toArray, List.getElem_cons_succ, List.getElem_cons_zero, Act.put, List.setIfInBounds_toArray, List.set_cons_zero, List.set_cons_succ])
              (refine wpAnyH_take (i := 11) (oi := ?oiz0_11) (v := ?vz0_11) ?hiz0_11 ?hsz0_11 ?hfz0_11 ?hrz0_11 ?hQz0_11 ?hyz0_11 ?hSz0_11 ?hz0_11)
              (case hiz0_11 => rfl)
              (case hsz0_11 => kernel_rfl)
              (case hfz0_11 => kernel_rfl)
              (case hrz0_11 => kernel_rfl)
              (case hQz0_11 => first | exact fun _ _ _ h => h | exact fun _ _ _ h => (nomatch h.1))
              (case hSz0_11 => assumption)
              (case hyz0_11 => (refine Or.inl ⟨by rfl, ?_⟩; intro W hW; skip; go_simp; try with_reducible rfl))
              (try simp only [List.getElem_toArray, List.getElem_cons_succ, List.getElem_cons_zero, Act.put, List.setIfInBounds_toArray, List.set_cons_zero, List.set_cons_succ])
              refine wpAnyH_ready (rs := [12]) (by kernel_rfl) (by simp) ?_
              refine AllReadyH.cons rfl (fun K hK => ?_) (AllReadyH.nil)
              go_simp
              refine (HG.out _).mono ?_
              rintro e5 w5 ⟨rfl, hb5⟩
              have B5 := B4.trans (hb5.mono B4.size)
              refine hK.out _ _ (by exact hHeld2.below hb5) (fun hHeld3 => ?_)
              clear hK K hHeld2 hb5
              try simp only [List.getElem_toArray, List.getElem_cons_succ, List.getElem_cons_zero, Act.put, List.setIfInBounds_toArray, List.set_cons_zero, List.set_cons_succ]
              (refine wpAnyH_take (i := 13) (oi := ?oiz0_13) (v := ?vz0_13) ?hiz0_13 ?hsz0_13 ?hfz0_13 ?hrz0_13 ?hQz0_13 ?hyz0_13 ?hSz0_13 ?hz0_13)
              (case hiz0_13 => rfl)
              (case hsz0_13 => kernel_rfl)
              (case hfz0_13 => kernel_rfl)
              (case hrz0_13 => kernel_rfl)
              (case hQz0_13 => first | exact fun _ _ _ h => h | exact fun _ _ _ h => (nomatch h.1))
              (case hSz0_13 => assumption)
              (case hyz0_13 => (refine Or.inl ⟨by rfl, ?_⟩; intro W hW; skip; go_simp; try with_reducible rfl))
              (try simp only [List.getElem_toArray, List.getElem_cons_succ, List.getElem_cons_zero, Act.put, List.setIfInBounds_toArray, List.set_cons_zero, List.set_cons_succ])
              (refine wpAnyH_take (i := 14) (oi := ?oiz0_14) (v := ?vz0_14) ?hiz0_14 ?hsz0_14 ?hfz0_14 ?hrz0_14 ?hQz0_14 ?hyz0_14 ?hSz0_14 ?hz0_14)
              (case hiz0_14 => rfl)
              (case hsz0_14 => kernel_rfl)
              (case hfz0_14 => kernel_rfl)
              (case hrz0_14 => kernel_rfl)
              (case hQz0_14 => first | exact fun _ _ _ h => h | exact fun _ _ _ h => (nomatch h.1))
              (case hSz0_14 => assumption)
              (case hyz0_14 => (refine Or.inl ⟨by rfl, ?_⟩; intro W hW; skip; go_simp; try with_reducible rfl))
              (try simp only [List.getElem_toArray, List.getElem_cons_succ, List.getElem_cons_zero, Act.put, List.setIfInBounds_toArray, List.set_cons_zero, List.set_cons_succ])
              refine wpAnyH_done (by kernel_rfl) ?_ _
              have BW := HB9.out.trans (B5.mono HB9.out.size)
              have O9' := HO9.out.below (B5)
              go_wp2
              refine ⟨?_, ?_⟩
              · exact ⟨1, 1, by omega, rfl, rfl, BW, O9', zero_step hzt.out (.inr HV.out)⟩
              · simp [intOf]
            · have hv' : (o.a != 0) = true := by rw [bne_iff_ne]; exact hv
              have HNB := Lib.hid (nonzero_bare o 0 (by omega) hc hv)
              have hg' : ∀ W, Calls Tryd.prog 32 #[.agg #[.int .i64 o.k, .int .i64 o.a, .int .i64 o.b, .int .i64 o.c, .int .i64 o.f, .int .i64 o.s, .int .i64 o.x, .int .i64 o.y], .int .u8 (letterN 0).toNat] W fun e w' => e = .returned (.int .i64 o.a) ∧ Below W.heap.size W w' := HG.out
              replace HG := Lib.hid hg'
              clear hv hc hg'
              go_wp2_with fail
              refine wp_region_held_drew (S := fun A => OpAt A w.heap.size o) (by kernel_rfl) HO9.out.drew (fun hHeld => ?_)
              (refine wpAnyH_take (i := 0) (oi := ?oib0_0) (v := ?vb0_0) ?hib0_0 ?hsb0_0 ?hfb0_0 ?hrb0_0 ?hQb0_0 ?hyb0_0 ?hSb0_0 ?hb0_0)
              (case hib0_0 => rfl)
              (case hsb0_0 => kernel_rfl)
              (case hfb0_0 => kernel_rfl)
              (case hrb0_0 => kernel_rfl)
              (case hQb0_0 => first | exact fun _ _ _ h => h | exact fun _ _ _ h => (nomatch h.1))
              (case hSb0_0 => assumption)
              (case hyb0_0 => (refine Or.inl ⟨by rfl, ?_⟩; intro W hW; skip; go_simp; try with_reducible rfl))
              (try simp only [List.getElem_toArray, List.getElem_cons_succ, List.getElem_cons_zero, Act.put, List.setIfInBounds_toArray, List.set_cons_zero, List.set_cons_succ])
              (refine wpAnyH_take (i := 2) (oi := ?oib0_2) (v := ?vb0_2) ?hib0_2 ?hsb0_2 ?hfb0_2 ?hrb0_2 ?hQb0_2 ?hyb0_2 ?hSb0_2 ?hb0_2)
              (case hib0_2 => rfl)
              (case hsb0_2 => kernel_rfl)
              (case hfb0_2 => kernel_rfl)
              (case hrb0_2 => kernel_rfl)
              (case hQb0_2 => first | exact fun _ _ _ h => h | exact fun _ _ _ h => (nomatch h.1))
              (case hSb0_2 => assumption)
              (case hyb0_2 => (refine Or.inl ⟨by rfl, ?_⟩; intro W hW; skip; go_simp; try with_reducible rfl))
              (try simp only [List.getElem_toArray, List.getElem_cons_succ, List.getElem_cons_zero, Act.put, List.setIfInBounds_toArray, List.set_cons_zero, List.set_cons_succ])
              (refine wpAnyH_take (i := 3) (oi := ?oib0_3) (v := ?vb0_3) ?hib0_3 ?hsb0_3 ?hfb0_3 ?hrb0_3 ?hQb0_3 ?hyb0_3 ?hSb0_3 ?hb0_3)
              (case hib0_3 => rfl)
              (case hsb0_3 => kernel_rfl)
              (case hfb0_3 => kernel_rfl)
              (case hrb0_3 => kernel_rfl)
              (case hQb0_3 => first | exact fun _ _ _ h => h | exact fun _ _ _ h => (nomatch h.1))
              (case hSb0_3 => assumption)
              (case hyb0_3 => (refine Or.inl ⟨by rfl, ?_⟩; intro W hW; skip; go_simp; try with_reducible rfl))
              (try simp only [List.getElem_toArray, List.getElem_cons_succ, List.getElem_cons_zero, Act.put, List.setIfInBounds_toArray, List.set_cons_zero, List.set_cons_succ])
              (refine wpAnyH_take (i := 4) (oi := ?oib0_4) (v := ?vb0_4) ?hib0_4 ?hsb0_4 ?hfb0_4 ?hrb0_4 ?hQb0_4 ?hyb0_4 ?hSb0_4 ?hb0_4)
              (case hib0_4 => rfl)
              (case hsb0_4 => kernel_rfl)
              (case hfb0_4 => kernel_rfl)
              (case hrb0_4 => kernel_rfl)
              (case hQb0_4 => first | exact fun _ _ _ h => h | exact fun _ _ _ h => (nomatch h.1))
              (case hSb0_4 => assumption)
              (case hyb0_4 => (refine Or.inl ⟨by rfl, ?_⟩; intro W hW; skip; go_simp; try with_reducible rfl))
              (try simp only [List.getElem_toArray, List.getElem_cons_succ, List.getElem_cons_zero, Act.put, List.setIfInBounds_toArray, List.set_cons_zero, List.set_cons_succ])
              refine wpAnyH_ready (rs := [1]) (by kernel_rfl) (by simp) ?_
              refine AllReadyH.cons rfl (fun K hK => ?_) (AllReadyH.nil)
              go_simp
              refine (refNames_calls o.k _).mono ?_
              rintro e3 w3 ⟨rfl, hb3⟩
              have B3 : Below wr.heap.size wr w3 := (Below.refl _ _).drew.trans hb3
              refine hK.out _ _ (by exact hHeld.below hb3) (fun hHeld1 => ?_)
              clear hK K hHeld hb3
              try simp only [List.getElem_toArray, List.getElem_cons_succ, List.getElem_cons_zero, Act.put, List.setIfInBounds_toArray, List.set_cons_zero, List.set_cons_succ]
              refine wpAnyH_ready (rs := [5]) (by kernel_rfl) (by simp) ?_
              refine AllReadyH.cons rfl (fun K hK => ?_) (AllReadyH.nil)
              go_simp
              refine (HN.out _).mono ?_
              rintro e4 w4 ⟨rfl, hb4⟩
              have B4 := B3.trans (hb4.mono B3.size)
              refine hK.out _ _ (by exact hHeld1.below hb4) (fun hHeld2 => ?_)
              clear hK K hHeld1 hb4
              try simp only [List.getElem_toArray, List.getElem_cons_succ, List.getElem_cons_zero, Act.put, List.setIfInBounds_toArray, List.set_cons_zero, List.set_cons_succ]
              (refine wpAnyH_take (i := 6) (oi := ?oib0_6) (v := ?vb0_6) ?hib0_6 ?hsb0_6 ?hfb0_6 ?hrb0_6 ?hQb0_6 ?hyb0_6 ?hSb0_6 ?hb0_6)
              (case hib0_6 => rfl)
              (case hsb0_6 => kernel_rfl)
              (case hfb0_6 => kernel_rfl)
              (case hrb0_6 => kernel_rfl)
              (case hQb0_6 => first | exact fun _ _ _ h => h | exact fun _ _ _ h => (nomatch h.1))
              (case hSb0_6 => assumption)
              (case hyb0_6 => (refine Or.inl ⟨by rfl, ?_⟩; intro W hW; skip; go_simp; try with_reducible rfl))
              (try simp only [List.getElem_toArray, List.getElem_cons_succ, List.getElem_cons_zero, Act.put, List.setIfInBounds_toArray, List.set_cons_zero, List.set_cons_succ])
              (refine wpAnyH_take (i := 7) (oi := ?oib0_7) (v := ?vb0_7) ?hib0_7 ?hsb0_7 ?hfb0_7 ?hrb0_7 ?hQb0_7 ?hyb0_7 ?hSb0_7 ?hb0_7)
              (case hib0_7 => rfl)
              (case hsb0_7 => kernel_rfl)
              (case hfb0_7 => kernel_rfl)
              (case hrb0_7 => kernel_rfl)
              (case hQb0_7 => first | exact fun _ _ _ h => h | exact fun _ _ _ h => (nomatch h.1))
              (case hSb0_7 => assumption)
              (case hyb0_7 => (refine Or.inl ⟨by rfl, ?_⟩; intro W hW; skip; go_simp; try with_reducible rfl))
              (try simp only [List.getElem_toArray, List.getElem_cons_succ, List.getElem_cons_zero, Act.put, List.setIfInBounds_toArray, List.set_cons_zero, List.set_cons_succ])
              (refine wpAnyH_take (i := 8) (oi := ?oib0_8) (v := ?vb0_8) ?hib0_8 ?hsb0_8 ?hfb0_8 ?hrb0_8 ?hQb0_8 ?hyb0_8 ?hSb0_8 ?hb0_8)
              (case hib0_8 => rfl)
              (case hsb0_8 => kernel_rfl)
              (case hfb0_8 => kernel_rfl)
              (case hrb0_8 => kernel_rfl)
              (case hQb0_8 => first | exact fun _ _ _ h => h | exact fun _ _ _ h => (nomatch h.1))
              (case hSb0_8 => assumption)
              (case hyb0_8 => (refine Or.inl ⟨by rfl, ?_⟩; intro W hW; obtain ⟨q1, q2, q3, q4, q5, q6, q7, q8, q9, qf⟩ := hW; go_simp; try with_reducible rfl))
              (try simp only [List.getElem_toArray, List.getElem_cons_succ, List.getElem_cons_zero, Act.put, List.setIfInBounds_toArray, List.set_cons_zero, List.set_cons_succ])
              (refine wpAnyH_take (i := 9) (oi := ?oib0_9) (v := ?vb0_9) ?hib0_9 ?hsb0_9 ?hfb0_9 ?hrb0_9 ?hQb0_9 ?hyb0_9 ?hSb0_9 ?hb0_9)
              (case hib0_9 => rfl)
              (case hsb0_9 => kernel_rfl)
              (case hfb0_9 => kernel_rfl)
              (case hrb0_9 => kernel_rfl)
              (case hQb0_9 => first | exact fun _ _ _ h => h | exact fun _ _ _ h => (nomatch h.1))
              (case hSb0_9 => assumption)
              (case hyb0_9 => (refine Or.inl ⟨by rfl, ?_⟩; intro W hW; skip; go_simp; try with_reducible rfl))
              (try simp only [List.getElem_toArray, List.getElem_cons_succ, List.getElem_cons_zero, Act.put, List.setIfInBounds_toArray, List.set_cons_zero, List.set_cons_succ])
              (refine wpAnyH_take (i := 10) (oi := ?oib0_10) (v := ?vb0_10) ?hib0_10 ?hsb0_10 ?hfb0_10 ?hrb0_10 ?hQb0_10 ?hyb0_10 ?hSb0_10 ?hb0_10)
              (case hib0_10 => rfl)
              (case hsb0_10 => kernel_rfl)
              (case hfb0_10 => kernel_rfl)
              (case hrb0_10 => kernel_rfl)
              (case hQb0_10 => first | exact fun _ _ _ h => h | exact fun _ _ _ h => (nomatch h.1))
              (case hSb0_10 => assumption)
              (case hyb0_10 => (refine Or.inl ⟨by rfl, ?_⟩; intro W hW; skip; go_simp; try with_reducible rfl))
              (try simp only [List.getElem_toArray, List.getElem_cons_succ, List.getElem_cons_zero, Act.put, List.setIfInBounds_toArray, List.set_cons_zero, List.set_cons_succ])
              (refine wpAnyH_take (i := 11) (oi := ?oib0_11) (v := ?vb0_11) ?hib0_11 ?hsb0_11 ?hfb0_11 ?hrb0_11 ?hQb0_11 ?hyb0_11 ?hSb0_11 ?hb0_11)
              (case hib0_11 => rfl)
              (case hsb0_11 => kernel_rfl)
              (case hfb0_11 => kernel_rfl)
              (case hrb0_11 => kernel_rfl)
              (case hQb0_11 => first | exact fun _ _ _ h => h | exact fun _ _ _ h => (nomatch h.1))
              (case hSb0_11 => assumption)
              (case hyb0_11 => (refine Or.inl ⟨by rfl, ?_⟩; intro W hW; skip; go_simp; try with_reducible rfl))
              (try simp only [List.getElem_toArray, List.getElem_cons_succ, List.getElem_cons_zero, Act.put, List.setIfInBounds_toArray, List.set_cons_zero, List.set_cons_succ])
              refine wpAnyH_ready (rs := [12]) (by kernel_rfl) (by simp) ?_
              refine AllReadyH.cons rfl (fun K hK => ?_) (AllReadyH.nil)
              go_simp
              refine (HG.out _).mono ?_
              rintro e5 w5 ⟨rfl, hb5⟩
              have B5 := B4.trans (hb5.mono B4.size)
              refine hK.out _ _ (by exact hHeld2.below hb5) (fun hHeld3 => ?_)
              clear hK K hHeld2 hb5
              try simp only [List.getElem_toArray, List.getElem_cons_succ, List.getElem_cons_zero, Act.put, List.setIfInBounds_toArray, List.set_cons_zero, List.set_cons_succ]
              (refine wpAnyH_take (i := 13) (oi := ?oib0_13) (v := ?vb0_13) ?hib0_13 ?hsb0_13 ?hfb0_13 ?hrb0_13 ?hQb0_13 ?hyb0_13 ?hSb0_13 ?hb0_13)
              (case hib0_13 => rfl)
              (case hsb0_13 => kernel_rfl)
              (case hfb0_13 => kernel_rfl)
              (case hrb0_13 => kernel_rfl)
              (case hQb0_13 => first | exact fun _ _ _ h => h | exact fun _ _ _ h => (nomatch h.1))
              (case hSb0_13 => assumption)
              (case hyb0_13 => (refine Or.inl ⟨by rfl, ?_⟩; intro W hW; skip; go_simp; try with_reducible rfl))
              (try simp only [List.getElem_toArray, List.getElem_cons_succ, List.getElem_cons_zero, Act.put, List.setIfInBounds_toArray, List.set_cons_zero, List.set_cons_succ])
              (refine wpAnyH_take (i := 14) (oi := ?oib0_14) (v := ?vb0_14) ?hib0_14 ?hsb0_14 ?hfb0_14 ?hrb0_14 ?hQb0_14 ?hyb0_14 ?hSb0_14 ?hb0_14)
              (case hib0_14 => rfl)
              (case hsb0_14 => kernel_rfl)
              (case hfb0_14 => kernel_rfl)
              (case hrb0_14 => kernel_rfl)
              (case hQb0_14 => first | exact fun _ _ _ h => h | exact fun _ _ _ h => (nomatch h.1))
              (case hSb0_14 => assumption)
              (case hyb0_14 => (refine Or.inl ⟨by rfl, ?_⟩; intro W hW; skip; go_simp; try with_reducible rfl))
              (try simp only [List.getElem_toArray, List.getElem_cons_succ, List.getElem_cons_zero, Act.put, List.setIfInBounds_toArray, List.set_cons_zero, List.set_cons_succ])
              refine wpAnyH_done (by kernel_rfl) ?_ _
              have BW := HB9.out.trans (B5.mono HB9.out.size)
              go_wp2
              go_ret
              exact ⟨by rw [HNB.out]; rfl, BW⟩
        · obtain rfl : t = 1 := by omega
          clear ht hlt
          have HN := Lib.hid (fun W => named_calls o.k 1 (by omega) W)
          cases hc : (opNames o.k).contains 1 with
          | true =>
            rw [hc] at HN
            have HC := Lib.hid hc
            clear hc
            go_wp2_with fail
            refine wp_region_held_drew (S := fun A => OpAt A w.heap.size o) (by kernel_rfl) HO9.out.drew (fun hHeld => ?_)
            (refine wpAnyH_take (i := 0) (oi := ?oin1_0) (v := ?vn1_0) ?hin1_0 ?hsn1_0 ?hfn1_0 ?hrn1_0 ?hQn1_0 ?hyn1_0 ?hSn1_0 ?hn1_0)
            (case hin1_0 => rfl)
            (case hsn1_0 => kernel_rfl)
            (case hfn1_0 => kernel_rfl)
            (case hrn1_0 => kernel_rfl)
            (case hQn1_0 => first | exact fun _ _ _ h => h | exact fun _ _ _ h => (nomatch h.1))
            (case hSn1_0 => assumption)
            (case hyn1_0 => (refine Or.inl ⟨by rfl, ?_⟩; intro W hW; skip; go_simp; try with_reducible rfl))
            (try simp only [List.getElem_toArray, List.getElem_cons_succ, List.getElem_cons_zero, Act.put, List.setIfInBounds_toArray, List.set_cons_zero, List.set_cons_succ])
            (refine wpAnyH_take (i := 2) (oi := ?oin1_2) (v := ?vn1_2) ?hin1_2 ?hsn1_2 ?hfn1_2 ?hrn1_2 ?hQn1_2 ?hyn1_2 ?hSn1_2 ?hn1_2)
            (case hin1_2 => rfl)
            (case hsn1_2 => kernel_rfl)
            (case hfn1_2 => kernel_rfl)
            (case hrn1_2 => kernel_rfl)
            (case hQn1_2 => first | exact fun _ _ _ h => h | exact fun _ _ _ h => (nomatch h.1))
            (case hSn1_2 => assumption)
            (case hyn1_2 => (refine Or.inl ⟨by rfl, ?_⟩; intro W hW; skip; go_simp; try with_reducible rfl))
            (try simp only [List.getElem_toArray, List.getElem_cons_succ, List.getElem_cons_zero, Act.put, List.setIfInBounds_toArray, List.set_cons_zero, List.set_cons_succ])
            (refine wpAnyH_take (i := 3) (oi := ?oin1_3) (v := ?vn1_3) ?hin1_3 ?hsn1_3 ?hfn1_3 ?hrn1_3 ?hQn1_3 ?hyn1_3 ?hSn1_3 ?hn1_3)
            (case hin1_3 => rfl)
            (case hsn1_3 => kernel_rfl)
            (case hfn1_3 => kernel_rfl)
            (case hrn1_3 => kernel_rfl)
            (case hQn1_3 => first | exact fun _ _ _ h => h | exact fun _ _ _ h => (nomatch h.1))
            (case hSn1_3 => assumption)
            (case hyn1_3 => (refine Or.inl ⟨by rfl, ?_⟩; intro W hW; skip; go_simp; try with_reducible rfl))
            (try simp only [List.getElem_toArray, List.getElem_cons_succ, List.getElem_cons_zero, Act.put, List.setIfInBounds_toArray, List.set_cons_zero, List.set_cons_succ])
            (refine wpAnyH_take (i := 4) (oi := ?oin1_4) (v := ?vn1_4) ?hin1_4 ?hsn1_4 ?hfn1_4 ?hrn1_4 ?hQn1_4 ?hyn1_4 ?hSn1_4 ?hn1_4)
            (case hin1_4 => rfl)
            (case hsn1_4 => kernel_rfl)
            (case hfn1_4 => kernel_rfl)
            (case hrn1_4 => kernel_rfl)
            (case hQn1_4 => first | exact fun _ _ _ h => h | exact fun _ _ _ h => (nomatch h.1))
            (case hSn1_4 => assumption)
            (case hyn1_4 => (refine Or.inl ⟨by rfl, ?_⟩; intro W hW; skip; go_simp; try with_reducible rfl))
            (try simp only [List.getElem_toArray, List.getElem_cons_succ, List.getElem_cons_zero, Act.put, List.setIfInBounds_toArray, List.set_cons_zero, List.set_cons_succ])
            refine wpAnyH_ready (rs := [1]) (by kernel_rfl) (by simp) ?_
            refine AllReadyH.cons rfl (fun K hK => ?_) (AllReadyH.nil)
            go_simp
            refine (refNames_calls o.k _).mono ?_
            rintro e3 w3 ⟨rfl, hb3⟩
            have B3 : Below wr.heap.size wr w3 := (Below.refl _ _).drew.trans hb3
            refine hK.out _ _ (by exact hHeld.below hb3) (fun hHeld1 => ?_)
            clear hK K hHeld hb3
            try simp only [List.getElem_toArray, List.getElem_cons_succ, List.getElem_cons_zero, Act.put, List.setIfInBounds_toArray, List.set_cons_zero, List.set_cons_succ]
            refine wpAnyH_ready (rs := [5]) (by kernel_rfl) (by simp) ?_
            refine AllReadyH.cons rfl (fun K hK => ?_) (AllReadyH.nil)
            go_simp
            refine (HN.out _).mono ?_
            rintro e4 w4 ⟨rfl, hb4⟩
            have B4 := B3.trans (hb4.mono B3.size)
            refine hK.out _ _ (by exact hHeld1.below hb4) (fun hHeld2 => ?_)
            clear hK K hHeld1 hb4
            try simp only [List.getElem_toArray, List.getElem_cons_succ, List.getElem_cons_zero, Act.put, List.setIfInBounds_toArray, List.set_cons_zero, List.set_cons_succ]
            (refine wpAnyH_take (i := 6) (oi := ?oin1_6) (v := ?vn1_6) ?hin1_6 ?hsn1_6 ?hfn1_6 ?hrn1_6 ?hQn1_6 ?hyn1_6 ?hSn1_6 ?hn1_6)
            (case hin1_6 => rfl)
            (case hsn1_6 => kernel_rfl)
            (case hfn1_6 => kernel_rfl)
            (case hrn1_6 => kernel_rfl)
            (case hQn1_6 => first | exact fun _ _ _ h => h | exact fun _ _ _ h => (nomatch h.1))
            (case hSn1_6 => assumption)
            (case hyn1_6 => (refine Or.inl ⟨by rfl, ?_⟩; intro W hW; skip; go_simp; try with_reducible rfl))
            (try simp only [List.getElem_toArray, List.getElem_cons_succ, List.getElem_cons_zero, Act.put, List.setIfInBounds_toArray, List.set_cons_zero, List.set_cons_succ])
            (refine wpAnyH_take (i := 7) (oi := ?oin1_7) (v := ?vn1_7) ?hin1_7 ?hsn1_7 ?hfn1_7 ?hrn1_7 ?hQn1_7 ?hyn1_7 ?hSn1_7 ?hn1_7)
            (case hin1_7 => rfl)
            (case hsn1_7 => kernel_rfl)
            (case hfn1_7 => kernel_rfl)
            (case hrn1_7 => kernel_rfl)
            (case hQn1_7 => first | exact fun _ _ _ h => h | exact fun _ _ _ h => (nomatch h.1))
            (case hSn1_7 => assumption)
            (case hyn1_7 => (refine Or.inl ⟨by rfl, ?_⟩; intro W hW; skip; go_simp; try with_reducible rfl))
            (try simp only [List.getElem_toArray, List.getElem_cons_succ, List.getElem_cons_zero, Act.put, List.setIfInBounds_toArray, List.set_cons_zero, List.set_cons_succ])
            (refine wpAnyH_take (i := 8) (oi := ?oin1_8) (v := undef) ?hin1_8 ?hsn1_8 ?hfn1_8 ?hrn1_8 ?hQn1_8 ?hyn1_8 ?hSn1_8 ?hn1_8)
            (case hin1_8 => rfl)
            (case hsn1_8 => kernel_rfl)
            (case hfn1_8 => kernel_rfl)
            (case hrn1_8 => kernel_rfl)
            (case hQn1_8 => first | exact fun _ _ _ h => h | exact fun _ _ _ h => (nomatch h.1))
            (case hSn1_8 => assumption)
            (case hyn1_8 => exact Or.inr ⟨by rfl, rfl⟩)
            (try simp only [List.getElem_toArray, List.getElem_cons_succ, List.getElem_cons_zero, Act.put, List.setIfInBounds_toArray, List.set_cons_zero, List.set_cons_succ])
            (refine wpAnyH_take (i := 9) (oi := ?oin1_9) (v := undef) ?hin1_9 ?hsn1_9 ?hfn1_9 ?hrn1_9 ?hQn1_9 ?hyn1_9 ?hSn1_9 ?hn1_9)
            (case hin1_9 => rfl)
            (case hsn1_9 => kernel_rfl)
            (case hfn1_9 => kernel_rfl)
            (case hrn1_9 => kernel_rfl)
            (case hQn1_9 => first | exact fun _ _ _ h => h | exact fun _ _ _ h => (nomatch h.1))
            (case hSn1_9 => assumption)
            (case hyn1_9 => exact Or.inr ⟨by rfl, rfl⟩)
            (try simp only [List.getElem_toArray, List.getElem_cons_succ, List.getElem_cons_zero, Act.put, List.setIfInBounds_toArray, List.set_cons_zero, List.set_cons_succ])
            (refine wpAnyH_take (i := 10) (oi := ?oin1_10) (v := undef) ?hin1_10 ?hsn1_10 ?hfn1_10 ?hrn1_10 ?hQn1_10 ?hyn1_10 ?hSn1_10 ?hn1_10)
            (case hin1_10 => rfl)
            (case hsn1_10 => kernel_rfl)
            (case hfn1_10 => kernel_rfl)
            (case hrn1_10 => kernel_rfl)
            (case hQn1_10 => first | exact fun _ _ _ h => h | exact fun _ _ _ h => (nomatch h.1))
            (case hSn1_10 => assumption)
            (case hyn1_10 => exact Or.inr ⟨by rfl, rfl⟩)
            (try simp only [List.getElem_toArray, List.getElem_cons_succ, List.getElem_cons_zero, Act.put, List.setIfInBounds_toArray, List.set_cons_zero, List.set_cons_succ])
            (refine wpAnyH_take (i := 11) (oi := ?oin1_11) (v := undef) ?hin1_11 ?hsn1_11 ?hfn1_11 ?hrn1_11 ?hQn1_11 ?hyn1_11 ?hSn1_11 ?hn1_11)
            (case hin1_11 => rfl)
            (case hsn1_11 => kernel_rfl)
            (case hfn1_11 => kernel_rfl)
            (case hrn1_11 => kernel_rfl)
            (case hQn1_11 => first | exact fun _ _ _ h => h | exact fun _ _ _ h => (nomatch h.1))
            (case hSn1_11 => assumption)
            (case hyn1_11 => exact Or.inr ⟨by rfl, rfl⟩)
            (try simp only [List.getElem_toArray, List.getElem_cons_succ, List.getElem_cons_zero, Act.put, List.setIfInBounds_toArray, List.set_cons_zero, List.set_cons_succ])
            (refine wpAnyH_take (i := 12) (oi := ?oin1_12) (v := undef) ?hin1_12 ?hsn1_12 ?hfn1_12 ?hrn1_12 ?hQn1_12 ?hyn1_12 ?hSn1_12 ?hn1_12)
            (case hin1_12 => rfl)
            (case hsn1_12 => kernel_rfl)
            (case hfn1_12 => kernel_rfl)
            (case hrn1_12 => kernel_rfl)
            (case hQn1_12 => first | exact fun _ _ _ h => h | exact fun _ _ _ h => (nomatch h.1))
            (case hSn1_12 => assumption)
            (case hyn1_12 => exact Or.inr ⟨by rfl, rfl⟩)
            (try simp only [List.getElem_toArray, List.getElem_cons_succ, List.getElem_cons_zero, Act.put, List.setIfInBounds_toArray, List.set_cons_zero, List.set_cons_succ])
            (refine wpAnyH_take (i := 13) (oi := ?oin1_13) (v := undef) ?hin1_13 ?hsn1_13 ?hfn1_13 ?hrn1_13 ?hQn1_13 ?hyn1_13 ?hSn1_13 ?hn1_13)
            (case hin1_13 => rfl)
            (case hsn1_13 => kernel_rfl)
            (case hfn1_13 => kernel_rfl)
            (case hrn1_13 => kernel_rfl)
            (case hQn1_13 => first | exact fun _ _ _ h => h | exact fun _ _ _ h => (nomatch h.1))
            (case hSn1_13 => assumption)
            (case hyn1_13 => exact Or.inr ⟨by rfl, rfl⟩)
            (try simp only [List.getElem_toArray, List.getElem_cons_succ, List.getElem_cons_zero, Act.put, List.setIfInBounds_toArray, List.set_cons_zero, List.set_cons_succ])
            (refine wpAnyH_take (i := 14) (oi := ?oin1_14) (v := ?vn1_14) ?hin1_14 ?hsn1_14 ?hfn1_14 ?hrn1_14 ?hQn1_14 ?hyn1_14 ?hSn1_14 ?hn1_14)
            (case hin1_14 => rfl)
            (case hsn1_14 => kernel_rfl)
            (case hfn1_14 => kernel_rfl)
            (case hrn1_14 => kernel_rfl)
            (case hQn1_14 => first | exact fun _ _ _ h => h | exact fun _ _ _ h => (nomatch h.1))
            (case hSn1_14 => assumption)
            (case hyn1_14 => (refine Or.inl ⟨by rfl, ?_⟩; intro W hW; skip; go_simp; try with_reducible rfl))
            (try simp only [List.getElem_toArray, List.getElem_cons_succ, List.getElem_cons_zero, Act.put, List.setIfInBounds_toArray, List.set_cons_zero, List.set_cons_succ])
            refine wpAnyH_done (by kernel_rfl) ?_ _
            have BW := HB9.out.trans (B4.mono HB9.out.size)
            have O9' := HO9.out.below (B4)
            go_wp2
            refine ⟨?_, ?_⟩
            · exact ⟨2, 2, by omega, rfl, rfl, BW, O9', zero_step hzt.out (.inl HC.out)⟩
            · simp [intOf]
          | false =>
            rw [hc] at HN
            have HG := Lib.hid (fun W => get_calls o 1 (by omega) W)
            unfold opVal at HG
            by_cases hv : o.b = 0
            · have hv' : o.get 1 = 0 := hv
              rw [hv'] at HG
              have HV := Lib.hid hv'
              clear hv hv' hc
              go_wp2_with fail
              refine wp_region_held_drew (S := fun A => OpAt A w.heap.size o) (by kernel_rfl) HO9.out.drew (fun hHeld => ?_)
              (refine wpAnyH_take (i := 0) (oi := ?oiz1_0) (v := ?vz1_0) ?hiz1_0 ?hsz1_0 ?hfz1_0 ?hrz1_0 ?hQz1_0 ?hyz1_0 ?hSz1_0 ?hz1_0)
              (case hiz1_0 => rfl)
              (case hsz1_0 => kernel_rfl)
              (case hfz1_0 => kernel_rfl)
              (case hrz1_0 => kernel_rfl)
              (case hQz1_0 => first | exact fun _ _ _ h => h | exact fun _ _ _ h => (nomatch h.1))
              (case hSz1_0 => assumption)
              (case hyz1_0 => (refine Or.inl ⟨by rfl, ?_⟩; intro W hW; skip; go_simp; try with_reducible rfl))
              (try simp only [List.getElem_toArray, List.getElem_cons_succ, List.getElem_cons_zero, Act.put, List.setIfInBounds_toArray, List.set_cons_zero, List.set_cons_succ])
              (refine wpAnyH_take (i := 2) (oi := ?oiz1_2) (v := ?vz1_2) ?hiz1_2 ?hsz1_2 ?hfz1_2 ?hrz1_2 ?hQz1_2 ?hyz1_2 ?hSz1_2 ?hz1_2)
              (case hiz1_2 => rfl)
              (case hsz1_2 => kernel_rfl)
              (case hfz1_2 => kernel_rfl)
              (case hrz1_2 => kernel_rfl)
              (case hQz1_2 => first | exact fun _ _ _ h => h | exact fun _ _ _ h => (nomatch h.1))
              (case hSz1_2 => assumption)
              (case hyz1_2 => (refine Or.inl ⟨by rfl, ?_⟩; intro W hW; skip; go_simp; try with_reducible rfl))
              (try simp only [List.getElem_toArray, List.getElem_cons_succ, List.getElem_cons_zero, Act.put, List.setIfInBounds_toArray, List.set_cons_zero, List.set_cons_succ])
              (refine wpAnyH_take (i := 3) (oi := ?oiz1_3) (v := ?vz1_3) ?hiz1_3 ?hsz1_3 ?hfz1_3 ?hrz1_3 ?hQz1_3 ?hyz1_3 ?hSz1_3 ?hz1_3)
              (case hiz1_3 => rfl)
              (case hsz1_3 => kernel_rfl)
              (case hfz1_3 => kernel_rfl)
              (case hrz1_3 => kernel_rfl)
              (case hQz1_3 => first | exact fun _ _ _ h => h | exact fun _ _ _ h => (nomatch h.1))
              (case hSz1_3 => assumption)
              (case hyz1_3 => (refine Or.inl ⟨by rfl, ?_⟩; intro W hW; skip; go_simp; try with_reducible rfl))
              (try simp only [List.getElem_toArray, List.getElem_cons_succ, List.getElem_cons_zero, Act.put, List.setIfInBounds_toArray, List.set_cons_zero, List.set_cons_succ])
              (refine wpAnyH_take (i := 4) (oi := ?oiz1_4) (v := ?vz1_4) ?hiz1_4 ?hsz1_4 ?hfz1_4 ?hrz1_4 ?hQz1_4 ?hyz1_4 ?hSz1_4 ?hz1_4)
              (case hiz1_4 => rfl)
              (case hsz1_4 => kernel_rfl)
              (case hfz1_4 => kernel_rfl)
              (case hrz1_4 => kernel_rfl)
              (case hQz1_4 => first | exact fun _ _ _ h => h | exact fun _ _ _ h => (nomatch h.1))
              (case hSz1_4 => assumption)
              (case hyz1_4 => (refine Or.inl ⟨by rfl, ?_⟩; intro W hW; skip; go_simp; try with_reducible rfl))
              (try simp only [List.getElem_toArray, List.getElem_cons_succ, List.getElem_cons_zero, Act.put, List.setIfInBounds_toArray, List.set_cons_zero, List.set_cons_succ])
              refine wpAnyH_ready (rs := [1]) (by kernel_rfl) (by simp) ?_
              refine AllReadyH.cons rfl (fun K hK => ?_) (AllReadyH.nil)
              go_simp
              refine (refNames_calls o.k _).mono ?_
              rintro e3 w3 ⟨rfl, hb3⟩
              have B3 : Below wr.heap.size wr w3 := (Below.refl _ _).drew.trans hb3
              refine hK.out _ _ (by exact hHeld.below hb3) (fun hHeld1 => ?_)
              clear hK K hHeld hb3
              try simp only [List.getElem_toArray, List.getElem_cons_succ, List.getElem_cons_zero, Act.put, List.setIfInBounds_toArray, List.set_cons_zero, List.set_cons_succ]
              refine wpAnyH_ready (rs := [5]) (by kernel_rfl) (by simp) ?_
              refine AllReadyH.cons rfl (fun K hK => ?_) (AllReadyH.nil)
              go_simp
              refine (HN.out _).mono ?_
              rintro e4 w4 ⟨rfl, hb4⟩
              have B4 := B3.trans (hb4.mono B3.size)
              refine hK.out _ _ (by exact hHeld1.below hb4) (fun hHeld2 => ?_)
              clear hK K hHeld1 hb4
              try simp only [List.getElem_toArray, List.getElem_cons_succ, List.getElem_cons_zero, Act.put, List.setIfInBounds_toArray, List.set_cons_zero, List.set_cons_succ]
              (refine wpAnyH_take (i := 6) (oi := ?oiz1_6) (v := ?vz1_6) ?hiz1_6 ?hsz1_6 ?hfz1_6 ?hrz1_6 ?hQz1_6 ?hyz1_6 ?hSz1_6 ?hz1_6)
              (case hiz1_6 => rfl)
              (case hsz1_6 => kernel_rfl)
              (case hfz1_6 => kernel_rfl)
              (case hrz1_6 => kernel_rfl)
              (case hQz1_6 => first | exact fun _ _ _ h => h | exact fun _ _ _ h => (nomatch h.1))
              (case hSz1_6 => assumption)
              (case hyz1_6 => (refine Or.inl ⟨by rfl, ?_⟩; intro W hW; skip; go_simp; try with_reducible rfl))
              (try simp only [List.getElem_toArray, List.getElem_cons_succ, List.getElem_cons_zero, Act.put, List.setIfInBounds_toArray, List.set_cons_zero, List.set_cons_succ])
              (refine wpAnyH_take (i := 7) (oi := ?oiz1_7) (v := ?vz1_7) ?hiz1_7 ?hsz1_7 ?hfz1_7 ?hrz1_7 ?hQz1_7 ?hyz1_7 ?hSz1_7 ?hz1_7)
              (case hiz1_7 => rfl)
              (case hsz1_7 => kernel_rfl)
              (case hfz1_7 => kernel_rfl)
              (case hrz1_7 => kernel_rfl)
              (case hQz1_7 => first | exact fun _ _ _ h => h | exact fun _ _ _ h => (nomatch h.1))
              (case hSz1_7 => assumption)
              (case hyz1_7 => (refine Or.inl ⟨by rfl, ?_⟩; intro W hW; skip; go_simp; try with_reducible rfl))
              (try simp only [List.getElem_toArray, List.getElem_cons_succ, List.getElem_cons_zero, Act.put, List.setIfInBounds_toArray, List.set_cons_zero, List.set_cons_succ])
              (refine wpAnyH_take (i := 8) (oi := ?oiz1_8) (v := ?vz1_8) ?hiz1_8 ?hsz1_8 ?hfz1_8 ?hrz1_8 ?hQz1_8 ?hyz1_8 ?hSz1_8 ?hz1_8)
              (case hiz1_8 => rfl)
              (case hsz1_8 => kernel_rfl)
              (case hfz1_8 => kernel_rfl)
              (case hrz1_8 => kernel_rfl)
              (case hQz1_8 => first | exact fun _ _ _ h => h | exact fun _ _ _ h => (nomatch h.1))
              (case hSz1_8 => assumption)
              (case hyz1_8 => (refine Or.inl ⟨by rfl, ?_⟩; intro W hW; obtain ⟨q1, q2, q3, q4, q5, q6, q7, q8, q9, qf⟩ := hW; go_simp; try with_reducible rfl))
              (try simp only [List.getElem_toArray, List.getElem_cons_succ, List.getElem_cons_zero, Act.put, List.setIfInBounds_toArray, List.set_cons_zero, List.set_cons_succ])
              (refine wpAnyH_take (i := 9) (oi := ?oiz1_9) (v := ?vz1_9) ?hiz1_9 ?hsz1_9 ?hfz1_9 ?hrz1_9 ?hQz1_9 ?hyz1_9 ?hSz1_9 ?hz1_9)
              (case hiz1_9 => rfl)
              (case hsz1_9 => kernel_rfl)
              (case hfz1_9 => kernel_rfl)
              (case hrz1_9 => kernel_rfl)
              (case hQz1_9 => first | exact fun _ _ _ h => h | exact fun _ _ _ h => (nomatch h.1))
              (case hSz1_9 => assumption)
              (case hyz1_9 => (refine Or.inl ⟨by rfl, ?_⟩; intro W hW; skip; go_simp; try with_reducible rfl))
              (try simp only [List.getElem_toArray, List.getElem_cons_succ, List.getElem_cons_zero, Act.put, List.setIfInBounds_toArray, List.set_cons_zero, List.set_cons_succ])
              (refine wpAnyH_take (i := 10) (oi := ?oiz1_10) (v := ?vz1_10) ?hiz1_10 ?hsz1_10 ?hfz1_10 ?hrz1_10 ?hQz1_10 ?hyz1_10 ?hSz1_10 ?hz1_10)
              (case hiz1_10 => rfl)
              (case hsz1_10 => kernel_rfl)
              (case hfz1_10 => kernel_rfl)
              (case hrz1_10 => kernel_rfl)
              (case hQz1_10 => first | exact fun _ _ _ h => h | exact fun _ _ _ h => (nomatch h.1))
              (case hSz1_10 => assumption)
              (case hyz1_10 => (refine Or.inl ⟨by rfl, ?_⟩; intro W hW; skip; go_simp; try with_reducible rfl))
              (try simp only [List.getElem_toArray, List.getElem_cons_succ, List.getElem_cons_zero, Act.put, List.setIfInBounds_toArray, List.set_cons_zero, List.set_cons_succ])
              (refine wpAnyH_take (i := 11) (oi := ?oiz1_11) (v := ?vz1_11) ?hiz1_11 ?hsz1_11 ?hfz1_11 ?hrz1_11 ?hQz1_11 ?hyz1_11 ?hSz1_11 ?hz1_11)
              (case hiz1_11 => rfl)
              (case hsz1_11 => kernel_rfl)
              (case hfz1_11 => kernel_rfl)
              (case hrz1_11 => kernel_rfl)
              (case hQz1_11 => first | exact fun _ _ _ h => h | exact fun _ _ _ h => (nomatch h.1))
              (case hSz1_11 => assumption)
              (case hyz1_11 => (refine Or.inl ⟨by rfl, ?_⟩; intro W hW; skip; go_simp; try with_reducible rfl))
              (try simp only [List.getElem_toArray, List.getElem_cons_succ, List.getElem_cons_zero, Act.put, List.setIfInBounds_toArray, List.set_cons_zero, List.set_cons_succ])
              refine wpAnyH_ready (rs := [12]) (by kernel_rfl) (by simp) ?_
              refine AllReadyH.cons rfl (fun K hK => ?_) (AllReadyH.nil)
              go_simp
              refine (HG.out _).mono ?_
              rintro e5 w5 ⟨rfl, hb5⟩
              have B5 := B4.trans (hb5.mono B4.size)
              refine hK.out _ _ (by exact hHeld2.below hb5) (fun hHeld3 => ?_)
              clear hK K hHeld2 hb5
              try simp only [List.getElem_toArray, List.getElem_cons_succ, List.getElem_cons_zero, Act.put, List.setIfInBounds_toArray, List.set_cons_zero, List.set_cons_succ]
              (refine wpAnyH_take (i := 13) (oi := ?oiz1_13) (v := ?vz1_13) ?hiz1_13 ?hsz1_13 ?hfz1_13 ?hrz1_13 ?hQz1_13 ?hyz1_13 ?hSz1_13 ?hz1_13)
              (case hiz1_13 => rfl)
              (case hsz1_13 => kernel_rfl)
              (case hfz1_13 => kernel_rfl)
              (case hrz1_13 => kernel_rfl)
              (case hQz1_13 => first | exact fun _ _ _ h => h | exact fun _ _ _ h => (nomatch h.1))
              (case hSz1_13 => assumption)
              (case hyz1_13 => (refine Or.inl ⟨by rfl, ?_⟩; intro W hW; skip; go_simp; try with_reducible rfl))
              (try simp only [List.getElem_toArray, List.getElem_cons_succ, List.getElem_cons_zero, Act.put, List.setIfInBounds_toArray, List.set_cons_zero, List.set_cons_succ])
              (refine wpAnyH_take (i := 14) (oi := ?oiz1_14) (v := ?vz1_14) ?hiz1_14 ?hsz1_14 ?hfz1_14 ?hrz1_14 ?hQz1_14 ?hyz1_14 ?hSz1_14 ?hz1_14)
              (case hiz1_14 => rfl)
              (case hsz1_14 => kernel_rfl)
              (case hfz1_14 => kernel_rfl)
              (case hrz1_14 => kernel_rfl)
              (case hQz1_14 => first | exact fun _ _ _ h => h | exact fun _ _ _ h => (nomatch h.1))
              (case hSz1_14 => assumption)
              (case hyz1_14 => (refine Or.inl ⟨by rfl, ?_⟩; intro W hW; skip; go_simp; try with_reducible rfl))
              (try simp only [List.getElem_toArray, List.getElem_cons_succ, List.getElem_cons_zero, Act.put, List.setIfInBounds_toArray, List.set_cons_zero, List.set_cons_succ])
              refine wpAnyH_done (by kernel_rfl) ?_ _
              have BW := HB9.out.trans (B5.mono HB9.out.size)
              have O9' := HO9.out.below (B5)
              go_wp2
              refine ⟨?_, ?_⟩
              · exact ⟨2, 2, by omega, rfl, rfl, BW, O9', zero_step hzt.out (.inr HV.out)⟩
              · simp [intOf]
            · have hv' : (o.b != 0) = true := by rw [bne_iff_ne]; exact hv
              have HNB := Lib.hid (nonzero_bare o 1 (by omega) hc hv)
              have hg' : ∀ W, Calls Tryd.prog 32 #[.agg #[.int .i64 o.k, .int .i64 o.a, .int .i64 o.b, .int .i64 o.c, .int .i64 o.f, .int .i64 o.s, .int .i64 o.x, .int .i64 o.y], .int .u8 (letterN 1).toNat] W fun e w' => e = .returned (.int .i64 o.b) ∧ Below W.heap.size W w' := HG.out
              replace HG := Lib.hid hg'
              clear hv hc hg'
              go_wp2_with fail
              refine wp_region_held_drew (S := fun A => OpAt A w.heap.size o) (by kernel_rfl) HO9.out.drew (fun hHeld => ?_)
              (refine wpAnyH_take (i := 0) (oi := ?oib1_0) (v := ?vb1_0) ?hib1_0 ?hsb1_0 ?hfb1_0 ?hrb1_0 ?hQb1_0 ?hyb1_0 ?hSb1_0 ?hb1_0)
              (case hib1_0 => rfl)
              (case hsb1_0 => kernel_rfl)
              (case hfb1_0 => kernel_rfl)
              (case hrb1_0 => kernel_rfl)
              (case hQb1_0 => first | exact fun _ _ _ h => h | exact fun _ _ _ h => (nomatch h.1))
              (case hSb1_0 => assumption)
              (case hyb1_0 => (refine Or.inl ⟨by rfl, ?_⟩; intro W hW; skip; go_simp; try with_reducible rfl))
              (try simp only [List.getElem_toArray, List.getElem_cons_succ, List.getElem_cons_zero, Act.put, List.setIfInBounds_toArray, List.set_cons_zero, List.set_cons_succ])
              (refine wpAnyH_take (i := 2) (oi := ?oib1_2) (v := ?vb1_2) ?hib1_2 ?hsb1_2 ?hfb1_2 ?hrb1_2 ?hQb1_2 ?hyb1_2 ?hSb1_2 ?hb1_2)
              (case hib1_2 => rfl)
              (case hsb1_2 => kernel_rfl)
              (case hfb1_2 => kernel_rfl)
              (case hrb1_2 => kernel_rfl)
              (case hQb1_2 => first | exact fun _ _ _ h => h | exact fun _ _ _ h => (nomatch h.1))
              (case hSb1_2 => assumption)
              (case hyb1_2 => (refine Or.inl ⟨by rfl, ?_⟩; intro W hW; skip; go_simp; try with_reducible rfl))
              (try simp only [List.getElem_toArray, List.getElem_cons_succ, List.getElem_cons_zero, Act.put, List.setIfInBounds_toArray, List.set_cons_zero, List.set_cons_succ])
              (refine wpAnyH_take (i := 3) (oi := ?oib1_3) (v := ?vb1_3) ?hib1_3 ?hsb1_3 ?hfb1_3 ?hrb1_3 ?hQb1_3 ?hyb1_3 ?hSb1_3 ?hb1_3)
              (case hib1_3 => rfl)
              (case hsb1_3 => kernel_rfl)
              (case hfb1_3 => kernel_rfl)
              (case hrb1_3 => kernel_rfl)
              (case hQb1_3 => first | exact fun _ _ _ h => h | exact fun _ _ _ h => (nomatch h.1))
              (case hSb1_3 => assumption)
              (case hyb1_3 => (refine Or.inl ⟨by rfl, ?_⟩; intro W hW; skip; go_simp; try with_reducible rfl))
              (try simp only [List.getElem_toArray, List.getElem_cons_succ, List.getElem_cons_zero, Act.put, List.setIfInBounds_toArray, List.set_cons_zero, List.set_cons_succ])
              (refine wpAnyH_take (i := 4) (oi := ?oib1_4) (v := ?vb1_4) ?hib1_4 ?hsb1_4 ?hfb1_4 ?hrb1_4 ?hQb1_4 ?hyb1_4 ?hSb1_4 ?hb1_4)
              (case hib1_4 => rfl)
              (case hsb1_4 => kernel_rfl)
              (case hfb1_4 => kernel_rfl)
              (case hrb1_4 => kernel_rfl)
              (case hQb1_4 => first | exact fun _ _ _ h => h | exact fun _ _ _ h => (nomatch h.1))
              (case hSb1_4 => assumption)
              (case hyb1_4 => (refine Or.inl ⟨by rfl, ?_⟩; intro W hW; skip; go_simp; try with_reducible rfl))
              (try simp only [List.getElem_toArray, List.getElem_cons_succ, List.getElem_cons_zero, Act.put, List.setIfInBounds_toArray, List.set_cons_zero, List.set_cons_succ])
              refine wpAnyH_ready (rs := [1]) (by kernel_rfl) (by simp) ?_
              refine AllReadyH.cons rfl (fun K hK => ?_) (AllReadyH.nil)
              go_simp
              refine (refNames_calls o.k _).mono ?_
              rintro e3 w3 ⟨rfl, hb3⟩
              have B3 : Below wr.heap.size wr w3 := (Below.refl _ _).drew.trans hb3
              refine hK.out _ _ (by exact hHeld.below hb3) (fun hHeld1 => ?_)
              clear hK K hHeld hb3
              try simp only [List.getElem_toArray, List.getElem_cons_succ, List.getElem_cons_zero, Act.put, List.setIfInBounds_toArray, List.set_cons_zero, List.set_cons_succ]
              refine wpAnyH_ready (rs := [5]) (by kernel_rfl) (by simp) ?_
              refine AllReadyH.cons rfl (fun K hK => ?_) (AllReadyH.nil)
              go_simp
              refine (HN.out _).mono ?_
              rintro e4 w4 ⟨rfl, hb4⟩
              have B4 := B3.trans (hb4.mono B3.size)
              refine hK.out _ _ (by exact hHeld1.below hb4) (fun hHeld2 => ?_)
              clear hK K hHeld1 hb4
              try simp only [List.getElem_toArray, List.getElem_cons_succ, List.getElem_cons_zero, Act.put, List.setIfInBounds_toArray, List.set_cons_zero, List.set_cons_succ]
              (refine wpAnyH_take (i := 6) (oi := ?oib1_6) (v := ?vb1_6) ?hib1_6 ?hsb1_6 ?hfb1_6 ?hrb1_6 ?hQb1_6 ?hyb1_6 ?hSb1_6 ?hb1_6)
              (case hib1_6 => rfl)
              (case hsb1_6 => kernel_rfl)
              (case hfb1_6 => kernel_rfl)
              (case hrb1_6 => kernel_rfl)
              (case hQb1_6 => first | exact fun _ _ _ h => h | exact fun _ _ _ h => (nomatch h.1))
              (case hSb1_6 => assumption)
              (case hyb1_6 => (refine Or.inl ⟨by rfl, ?_⟩; intro W hW; skip; go_simp; try with_reducible rfl))
              (try simp only [List.getElem_toArray, List.getElem_cons_succ, List.getElem_cons_zero, Act.put, List.setIfInBounds_toArray, List.set_cons_zero, List.set_cons_succ])
              (refine wpAnyH_take (i := 7) (oi := ?oib1_7) (v := ?vb1_7) ?hib1_7 ?hsb1_7 ?hfb1_7 ?hrb1_7 ?hQb1_7 ?hyb1_7 ?hSb1_7 ?hb1_7)
              (case hib1_7 => rfl)
              (case hsb1_7 => kernel_rfl)
              (case hfb1_7 => kernel_rfl)
              (case hrb1_7 => kernel_rfl)
              (case hQb1_7 => first | exact fun _ _ _ h => h | exact fun _ _ _ h => (nomatch h.1))
              (case hSb1_7 => assumption)
              (case hyb1_7 => (refine Or.inl ⟨by rfl, ?_⟩; intro W hW; skip; go_simp; try with_reducible rfl))
              (try simp only [List.getElem_toArray, List.getElem_cons_succ, List.getElem_cons_zero, Act.put, List.setIfInBounds_toArray, List.set_cons_zero, List.set_cons_succ])
              (refine wpAnyH_take (i := 8) (oi := ?oib1_8) (v := ?vb1_8) ?hib1_8 ?hsb1_8 ?hfb1_8 ?hrb1_8 ?hQb1_8 ?hyb1_8 ?hSb1_8 ?hb1_8)
              (case hib1_8 => rfl)
              (case hsb1_8 => kernel_rfl)
              (case hfb1_8 => kernel_rfl)
              (case hrb1_8 => kernel_rfl)
              (case hQb1_8 => first | exact fun _ _ _ h => h | exact fun _ _ _ h => (nomatch h.1))
              (case hSb1_8 => assumption)
              (case hyb1_8 => (refine Or.inl ⟨by rfl, ?_⟩; intro W hW; obtain ⟨q1, q2, q3, q4, q5, q6, q7, q8, q9, qf⟩ := hW; go_simp; try with_reducible rfl))
              (try simp only [List.getElem_toArray, List.getElem_cons_succ, List.getElem_cons_zero, Act.put, List.setIfInBounds_toArray, List.set_cons_zero, List.set_cons_succ])
              (refine wpAnyH_take (i := 9) (oi := ?oib1_9) (v := ?vb1_9) ?hib1_9 ?hsb1_9 ?hfb1_9 ?hrb1_9 ?hQb1_9 ?hyb1_9 ?hSb1_9 ?hb1_9)
              (case hib1_9 => rfl)
              (case hsb1_9 => kernel_rfl)
              (case hfb1_9 => kernel_rfl)
              (case hrb1_9 => kernel_rfl)
              (case hQb1_9 => first | exact fun _ _ _ h => h | exact fun _ _ _ h => (nomatch h.1))
              (case hSb1_9 => assumption)
              (case hyb1_9 => (refine Or.inl ⟨by rfl, ?_⟩; intro W hW; skip; go_simp; try with_reducible rfl))
              (try simp only [List.getElem_toArray, List.getElem_cons_succ, List.getElem_cons_zero, Act.put, List.setIfInBounds_toArray, List.set_cons_zero, List.set_cons_succ])
              (refine wpAnyH_take (i := 10) (oi := ?oib1_10) (v := ?vb1_10) ?hib1_10 ?hsb1_10 ?hfb1_10 ?hrb1_10 ?hQb1_10 ?hyb1_10 ?hSb1_10 ?hb1_10)
              (case hib1_10 => rfl)
              (case hsb1_10 => kernel_rfl)
              (case hfb1_10 => kernel_rfl)
              (case hrb1_10 => kernel_rfl)
              (case hQb1_10 => first | exact fun _ _ _ h => h | exact fun _ _ _ h => (nomatch h.1))
              (case hSb1_10 => assumption)
              (case hyb1_10 => (refine Or.inl ⟨by rfl, ?_⟩; intro W hW; skip; go_simp; try with_reducible rfl))
              (try simp only [List.getElem_toArray, List.getElem_cons_succ, List.getElem_cons_zero, Act.put, List.setIfInBounds_toArray, List.set_cons_zero, List.set_cons_succ])
              (refine wpAnyH_take (i := 11) (oi := ?oib1_11) (v := ?vb1_11) ?hib1_11 ?hsb1_11 ?hfb1_11 ?hrb1_11 ?hQb1_11 ?hyb1_11 ?hSb1_11 ?hb1_11)
              (case hib1_11 => rfl)
              (case hsb1_11 => kernel_rfl)
              (case hfb1_11 => kernel_rfl)
              (case hrb1_11 => kernel_rfl)
              (case hQb1_11 => first | exact fun _ _ _ h => h | exact fun _ _ _ h => (nomatch h.1))
              (case hSb1_11 => assumption)
              (case hyb1_11 => (refine Or.inl ⟨by rfl, ?_⟩; intro W hW; skip; go_simp; try with_reducible rfl))
              (try simp only [List.getElem_toArray, List.getElem_cons_succ, List.getElem_cons_zero, Act.put, List.setIfInBounds_toArray, List.set_cons_zero, List.set_cons_succ])
              refine wpAnyH_ready (rs := [12]) (by kernel_rfl) (by simp) ?_
              refine AllReadyH.cons rfl (fun K hK => ?_) (AllReadyH.nil)
              go_simp
              refine (HG.out _).mono ?_
              rintro e5 w5 ⟨rfl, hb5⟩
              have B5 := B4.trans (hb5.mono B4.size)
              refine hK.out _ _ (by exact hHeld2.below hb5) (fun hHeld3 => ?_)
              clear hK K hHeld2 hb5
              try simp only [List.getElem_toArray, List.getElem_cons_succ, List.getElem_cons_zero, Act.put, List.setIfInBounds_toArray, List.set_cons_zero, List.set_cons_succ]
              (refine wpAnyH_take (i := 13) (oi := ?oib1_13) (v := ?vb1_13) ?hib1_13 ?hsb1_13 ?hfb1_13 ?hrb1_13 ?hQb1_13 ?hyb1_13 ?hSb1_13 ?hb1_13)
              (case hib1_13 => rfl)
              (case hsb1_13 => kernel_rfl)
              (case hfb1_13 => kernel_rfl)
              (case hrb1_13 => kernel_rfl)
              (case hQb1_13 => first | exact fun _ _ _ h => h | exact fun _ _ _ h => (nomatch h.1))
              (case hSb1_13 => assumption)
              (case hyb1_13 => (refine Or.inl ⟨by rfl, ?_⟩; intro W hW; skip; go_simp; try with_reducible rfl))
              (try simp only [List.getElem_toArray, List.getElem_cons_succ, List.getElem_cons_zero, Act.put, List.setIfInBounds_toArray, List.set_cons_zero, List.set_cons_succ])
              (refine wpAnyH_take (i := 14) (oi := ?oib1_14) (v := ?vb1_14) ?hib1_14 ?hsb1_14 ?hfb1_14 ?hrb1_14 ?hQb1_14 ?hyb1_14 ?hSb1_14 ?hb1_14)
              (case hib1_14 => rfl)
              (case hsb1_14 => kernel_rfl)
              (case hfb1_14 => kernel_rfl)
              (case hrb1_14 => kernel_rfl)
              (case hQb1_14 => first | exact fun _ _ _ h => h | exact fun _ _ _ h => (nomatch h.1))
              (case hSb1_14 => assumption)
              (case hyb1_14 => (refine Or.inl ⟨by rfl, ?_⟩; intro W hW; skip; go_simp; try with_reducible rfl))
              (try simp only [List.getElem_toArray, List.getElem_cons_succ, List.getElem_cons_zero, Act.put, List.setIfInBounds_toArray, List.set_cons_zero, List.set_cons_succ])
              refine wpAnyH_done (by kernel_rfl) ?_ _
              have BW := HB9.out.trans (B5.mono HB9.out.size)
              go_wp2
              go_ret
              exact ⟨by rw [HNB.out]; rfl, BW⟩
        · obtain rfl : t = 2 := by omega
          clear ht hlt
          have HN := Lib.hid (fun W => named_calls o.k 2 (by omega) W)
          cases hc : (opNames o.k).contains 2 with
          | true =>
            rw [hc] at HN
            have HC := Lib.hid hc
            clear hc
            go_wp2_with fail
            refine wp_region_held_drew (S := fun A => OpAt A w.heap.size o) (by kernel_rfl) HO9.out.drew (fun hHeld => ?_)
            (refine wpAnyH_take (i := 0) (oi := ?oin2_0) (v := ?vn2_0) ?hin2_0 ?hsn2_0 ?hfn2_0 ?hrn2_0 ?hQn2_0 ?hyn2_0 ?hSn2_0 ?hn2_0)
            (case hin2_0 => rfl)
            (case hsn2_0 => kernel_rfl)
            (case hfn2_0 => kernel_rfl)
            (case hrn2_0 => kernel_rfl)
            (case hQn2_0 => first | exact fun _ _ _ h => h | exact fun _ _ _ h => (nomatch h.1))
            (case hSn2_0 => assumption)
            (case hyn2_0 => (refine Or.inl ⟨by rfl, ?_⟩; intro W hW; skip; go_simp; try with_reducible rfl))
            (try simp only [List.getElem_toArray, List.getElem_cons_succ, List.getElem_cons_zero, Act.put, List.setIfInBounds_toArray, List.set_cons_zero, List.set_cons_succ])
            (refine wpAnyH_take (i := 2) (oi := ?oin2_2) (v := ?vn2_2) ?hin2_2 ?hsn2_2 ?hfn2_2 ?hrn2_2 ?hQn2_2 ?hyn2_2 ?hSn2_2 ?hn2_2)
            (case hin2_2 => rfl)
            (case hsn2_2 => kernel_rfl)
            (case hfn2_2 => kernel_rfl)
            (case hrn2_2 => kernel_rfl)
            (case hQn2_2 => first | exact fun _ _ _ h => h | exact fun _ _ _ h => (nomatch h.1))
            (case hSn2_2 => assumption)
            (case hyn2_2 => (refine Or.inl ⟨by rfl, ?_⟩; intro W hW; skip; go_simp; try with_reducible rfl))
            (try simp only [List.getElem_toArray, List.getElem_cons_succ, List.getElem_cons_zero, Act.put, List.setIfInBounds_toArray, List.set_cons_zero, List.set_cons_succ])
            (refine wpAnyH_take (i := 3) (oi := ?oin2_3) (v := ?vn2_3) ?hin2_3 ?hsn2_3 ?hfn2_3 ?hrn2_3 ?hQn2_3 ?hyn2_3 ?hSn2_3 ?hn2_3)
            (case hin2_3 => rfl)
            (case hsn2_3 => kernel_rfl)
            (case hfn2_3 => kernel_rfl)
            (case hrn2_3 => kernel_rfl)
            (case hQn2_3 => first | exact fun _ _ _ h => h | exact fun _ _ _ h => (nomatch h.1))
            (case hSn2_3 => assumption)
            (case hyn2_3 => (refine Or.inl ⟨by rfl, ?_⟩; intro W hW; skip; go_simp; try with_reducible rfl))
            (try simp only [List.getElem_toArray, List.getElem_cons_succ, List.getElem_cons_zero, Act.put, List.setIfInBounds_toArray, List.set_cons_zero, List.set_cons_succ])
            (refine wpAnyH_take (i := 4) (oi := ?oin2_4) (v := ?vn2_4) ?hin2_4 ?hsn2_4 ?hfn2_4 ?hrn2_4 ?hQn2_4 ?hyn2_4 ?hSn2_4 ?hn2_4)
            (case hin2_4 => rfl)
            (case hsn2_4 => kernel_rfl)
            (case hfn2_4 => kernel_rfl)
            (case hrn2_4 => kernel_rfl)
            (case hQn2_4 => first | exact fun _ _ _ h => h | exact fun _ _ _ h => (nomatch h.1))
            (case hSn2_4 => assumption)
            (case hyn2_4 => (refine Or.inl ⟨by rfl, ?_⟩; intro W hW; skip; go_simp; try with_reducible rfl))
            (try simp only [List.getElem_toArray, List.getElem_cons_succ, List.getElem_cons_zero, Act.put, List.setIfInBounds_toArray, List.set_cons_zero, List.set_cons_succ])
            refine wpAnyH_ready (rs := [1]) (by kernel_rfl) (by simp) ?_
            refine AllReadyH.cons rfl (fun K hK => ?_) (AllReadyH.nil)
            go_simp
            refine (refNames_calls o.k _).mono ?_
            rintro e3 w3 ⟨rfl, hb3⟩
            have B3 : Below wr.heap.size wr w3 := (Below.refl _ _).drew.trans hb3
            refine hK.out _ _ (by exact hHeld.below hb3) (fun hHeld1 => ?_)
            clear hK K hHeld hb3
            try simp only [List.getElem_toArray, List.getElem_cons_succ, List.getElem_cons_zero, Act.put, List.setIfInBounds_toArray, List.set_cons_zero, List.set_cons_succ]
            refine wpAnyH_ready (rs := [5]) (by kernel_rfl) (by simp) ?_
            refine AllReadyH.cons rfl (fun K hK => ?_) (AllReadyH.nil)
            go_simp
            refine (HN.out _).mono ?_
            rintro e4 w4 ⟨rfl, hb4⟩
            have B4 := B3.trans (hb4.mono B3.size)
            refine hK.out _ _ (by exact hHeld1.below hb4) (fun hHeld2 => ?_)
            clear hK K hHeld1 hb4
            try simp only [List.getElem_toArray, List.getElem_cons_succ, List.getElem_cons_zero, Act.put, List.setIfInBounds_toArray, List.set_cons_zero, List.set_cons_succ]
            (refine wpAnyH_take (i := 6) (oi := ?oin2_6) (v := ?vn2_6) ?hin2_6 ?hsn2_6 ?hfn2_6 ?hrn2_6 ?hQn2_6 ?hyn2_6 ?hSn2_6 ?hn2_6)
            (case hin2_6 => rfl)
            (case hsn2_6 => kernel_rfl)
            (case hfn2_6 => kernel_rfl)
            (case hrn2_6 => kernel_rfl)
            (case hQn2_6 => first | exact fun _ _ _ h => h | exact fun _ _ _ h => (nomatch h.1))
            (case hSn2_6 => assumption)
            (case hyn2_6 => (refine Or.inl ⟨by rfl, ?_⟩; intro W hW; skip; go_simp; try with_reducible rfl))
            (try simp only [List.getElem_toArray, List.getElem_cons_succ, List.getElem_cons_zero, Act.put, List.setIfInBounds_toArray, List.set_cons_zero, List.set_cons_succ])
            (refine wpAnyH_take (i := 7) (oi := ?oin2_7) (v := ?vn2_7) ?hin2_7 ?hsn2_7 ?hfn2_7 ?hrn2_7 ?hQn2_7 ?hyn2_7 ?hSn2_7 ?hn2_7)
            (case hin2_7 => rfl)
            (case hsn2_7 => kernel_rfl)
            (case hfn2_7 => kernel_rfl)
            (case hrn2_7 => kernel_rfl)
            (case hQn2_7 => first | exact fun _ _ _ h => h | exact fun _ _ _ h => (nomatch h.1))
            (case hSn2_7 => assumption)
            (case hyn2_7 => (refine Or.inl ⟨by rfl, ?_⟩; intro W hW; skip; go_simp; try with_reducible rfl))
            (try simp only [List.getElem_toArray, List.getElem_cons_succ, List.getElem_cons_zero, Act.put, List.setIfInBounds_toArray, List.set_cons_zero, List.set_cons_succ])
            (refine wpAnyH_take (i := 8) (oi := ?oin2_8) (v := undef) ?hin2_8 ?hsn2_8 ?hfn2_8 ?hrn2_8 ?hQn2_8 ?hyn2_8 ?hSn2_8 ?hn2_8)
            (case hin2_8 => rfl)
            (case hsn2_8 => kernel_rfl)
            (case hfn2_8 => kernel_rfl)
            (case hrn2_8 => kernel_rfl)
            (case hQn2_8 => first | exact fun _ _ _ h => h | exact fun _ _ _ h => (nomatch h.1))
            (case hSn2_8 => assumption)
            (case hyn2_8 => exact Or.inr ⟨by rfl, rfl⟩)
            (try simp only [List.getElem_toArray, List.getElem_cons_succ, List.getElem_cons_zero, Act.put, List.setIfInBounds_toArray, List.set_cons_zero, List.set_cons_succ])
            (refine wpAnyH_take (i := 9) (oi := ?oin2_9) (v := undef) ?hin2_9 ?hsn2_9 ?hfn2_9 ?hrn2_9 ?hQn2_9 ?hyn2_9 ?hSn2_9 ?hn2_9)
            (case hin2_9 => rfl)
            (case hsn2_9 => kernel_rfl)
            (case hfn2_9 => kernel_rfl)
            (case hrn2_9 => kernel_rfl)
            (case hQn2_9 => first | exact fun _ _ _ h => h | exact fun _ _ _ h => (nomatch h.1))
            (case hSn2_9 => assumption)
            (case hyn2_9 => exact Or.inr ⟨by rfl, rfl⟩)
            (try simp only [List.getElem_toArray, List.getElem_cons_succ, List.getElem_cons_zero, Act.put, List.setIfInBounds_toArray, List.set_cons_zero, List.set_cons_succ])
            (refine wpAnyH_take (i := 10) (oi := ?oin2_10) (v := undef) ?hin2_10 ?hsn2_10 ?hfn2_10 ?hrn2_10 ?hQn2_10 ?hyn2_10 ?hSn2_10 ?hn2_10)
            (case hin2_10 => rfl)
            (case hsn2_10 => kernel_rfl)
            (case hfn2_10 => kernel_rfl)
            (case hrn2_10 => kernel_rfl)
            (case hQn2_10 => first | exact fun _ _ _ h => h | exact fun _ _ _ h => (nomatch h.1))
            (case hSn2_10 => assumption)
            (case hyn2_10 => exact Or.inr ⟨by rfl, rfl⟩)
            (try simp only [List.getElem_toArray, List.getElem_cons_succ, List.getElem_cons_zero, Act.put, List.setIfInBounds_toArray, List.set_cons_zero, List.set_cons_succ])
            (refine wpAnyH_take (i := 11) (oi := ?oin2_11) (v := undef) ?hin2_11 ?hsn2_11 ?hfn2_11 ?hrn2_11 ?hQn2_11 ?hyn2_11 ?hSn2_11 ?hn2_11)
            (case hin2_11 => rfl)
            (case hsn2_11 => kernel_rfl)
            (case hfn2_11 => kernel_rfl)
            (case hrn2_11 => kernel_rfl)
            (case hQn2_11 => first | exact fun _ _ _ h => h | exact fun _ _ _ h => (nomatch h.1))
            (case hSn2_11 => assumption)
            (case hyn2_11 => exact Or.inr ⟨by rfl, rfl⟩)
            (try simp only [List.getElem_toArray, List.getElem_cons_succ, List.getElem_cons_zero, Act.put, List.setIfInBounds_toArray, List.set_cons_zero, List.set_cons_succ])
            (refine wpAnyH_take (i := 12) (oi := ?oin2_12) (v := undef) ?hin2_12 ?hsn2_12 ?hfn2_12 ?hrn2_12 ?hQn2_12 ?hyn2_12 ?hSn2_12 ?hn2_12)
            (case hin2_12 => rfl)
            (case hsn2_12 => kernel_rfl)
            (case hfn2_12 => kernel_rfl)
            (case hrn2_12 => kernel_rfl)
            (case hQn2_12 => first | exact fun _ _ _ h => h | exact fun _ _ _ h => (nomatch h.1))
            (case hSn2_12 => assumption)
            (case hyn2_12 => exact Or.inr ⟨by rfl, rfl⟩)
            (try simp only [List.getElem_toArray, List.getElem_cons_succ, List.getElem_cons_zero, Act.put, List.setIfInBounds_toArray, List.set_cons_zero, List.set_cons_succ])
            (refine wpAnyH_take (i := 13) (oi := ?oin2_13) (v := undef) ?hin2_13 ?hsn2_13 ?hfn2_13 ?hrn2_13 ?hQn2_13 ?hyn2_13 ?hSn2_13 ?hn2_13)
            (case hin2_13 => rfl)
            (case hsn2_13 => kernel_rfl)
            (case hfn2_13 => kernel_rfl)
            (case hrn2_13 => kernel_rfl)
            (case hQn2_13 => first | exact fun _ _ _ h => h | exact fun _ _ _ h => (nomatch h.1))
            (case hSn2_13 => assumption)
            (case hyn2_13 => exact Or.inr ⟨by rfl, rfl⟩)
            (try simp only [List.getElem_toArray, List.getElem_cons_succ, List.getElem_cons_zero, Act.put, List.setIfInBounds_toArray, List.set_cons_zero, List.set_cons_succ])
            (refine wpAnyH_take (i := 14) (oi := ?oin2_14) (v := ?vn2_14) ?hin2_14 ?hsn2_14 ?hfn2_14 ?hrn2_14 ?hQn2_14 ?hyn2_14 ?hSn2_14 ?hn2_14)
            (case hin2_14 => rfl)
            (case hsn2_14 => kernel_rfl)
            (case hfn2_14 => kernel_rfl)
            (case hrn2_14 => kernel_rfl)
            (case hQn2_14 => first | exact fun _ _ _ h => h | exact fun _ _ _ h => (nomatch h.1))
            (case hSn2_14 => assumption)
            (case hyn2_14 => (refine Or.inl ⟨by rfl, ?_⟩; intro W hW; skip; go_simp; try with_reducible rfl))
            (try simp only [List.getElem_toArray, List.getElem_cons_succ, List.getElem_cons_zero, Act.put, List.setIfInBounds_toArray, List.set_cons_zero, List.set_cons_succ])
            refine wpAnyH_done (by kernel_rfl) ?_ _
            have BW := HB9.out.trans (B4.mono HB9.out.size)
            have O9' := HO9.out.below (B4)
            go_wp2
            refine ⟨?_, ?_⟩
            · exact ⟨3, 3, by omega, rfl, rfl, BW, O9', zero_step hzt.out (.inl HC.out)⟩
            · simp [intOf]
          | false =>
            rw [hc] at HN
            have HG := Lib.hid (fun W => get_calls o 2 (by omega) W)
            unfold opVal at HG
            by_cases hv : o.c = 0
            · have hv' : o.get 2 = 0 := hv
              rw [hv'] at HG
              have HV := Lib.hid hv'
              clear hv hv' hc
              go_wp2_with fail
              refine wp_region_held_drew (S := fun A => OpAt A w.heap.size o) (by kernel_rfl) HO9.out.drew (fun hHeld => ?_)
              (refine wpAnyH_take (i := 0) (oi := ?oiz2_0) (v := ?vz2_0) ?hiz2_0 ?hsz2_0 ?hfz2_0 ?hrz2_0 ?hQz2_0 ?hyz2_0 ?hSz2_0 ?hz2_0)
              (case hiz2_0 => rfl)
              (case hsz2_0 => kernel_rfl)
              (case hfz2_0 => kernel_rfl)
              (case hrz2_0 => kernel_rfl)
              (case hQz2_0 => first | exact fun _ _ _ h => h | exact fun _ _ _ h => (nomatch h.1))
              (case hSz2_0 => assumption)
              (case hyz2_0 => (refine Or.inl ⟨by rfl, ?_⟩; intro W hW; skip; go_simp; try with_reducible rfl))
              (try simp only [List.getElem_toArray, List.getElem_cons_succ, List.getElem_cons_zero, Act.put, List.setIfInBounds_toArray, List.set_cons_zero, List.set_cons_succ])
              (refine wpAnyH_take (i := 2) (oi := ?oiz2_2) (v := ?vz2_2) ?hiz2_2 ?hsz2_2 ?hfz2_2 ?hrz2_2 ?hQz2_2 ?hyz2_2 ?hSz2_2 ?hz2_2)
              (case hiz2_2 => rfl)
              (case hsz2_2 => kernel_rfl)
              (case hfz2_2 => kernel_rfl)
              (case hrz2_2 => kernel_rfl)
              (case hQz2_2 => first | exact fun _ _ _ h => h | exact fun _ _ _ h => (nomatch h.1))
              (case hSz2_2 => assumption)
              (case hyz2_2 => (refine Or.inl ⟨by rfl, ?_⟩; intro W hW; skip; go_simp; try with_reducible rfl))
              (try simp only [List.getElem_toArray, List.getElem_cons_succ, List.getElem_cons_zero, Act.put, List.setIfInBounds_toArray, List.set_cons_zero, List.set_cons_succ])
              (refine wpAnyH_take (i := 3) (oi := ?oiz2_3) (v := ?vz2_3) ?hiz2_3 ?hsz2_3 ?hfz2_3 ?hrz2_3 ?hQz2_3 ?hyz2_3 ?hSz2_3 ?hz2_3)
              (case hiz2_3 => rfl)
              (case hsz2_3 => kernel_rfl)
              (case hfz2_3 => kernel_rfl)
              (case hrz2_3 => kernel_rfl)
              (case hQz2_3 => first | exact fun _ _ _ h => h | exact fun _ _ _ h => (nomatch h.1))
              (case hSz2_3 => assumption)
              (case hyz2_3 => (refine Or.inl ⟨by rfl, ?_⟩; intro W hW; skip; go_simp; try with_reducible rfl))
              (try simp only [List.getElem_toArray, List.getElem_cons_succ, List.getElem_cons_zero, Act.put, List.setIfInBounds_toArray, List.set_cons_zero, List.set_cons_succ])
              (refine wpAnyH_take (i := 4) (oi := ?oiz2_4) (v := ?vz2_4) ?hiz2_4 ?hsz2_4 ?hfz2_4 ?hrz2_4 ?hQz2_4 ?hyz2_4 ?hSz2_4 ?hz2_4)
              (case hiz2_4 => rfl)
              (case hsz2_4 => kernel_rfl)
              (case hfz2_4 => kernel_rfl)
              (case hrz2_4 => kernel_rfl)
              (case hQz2_4 => first | exact fun _ _ _ h => h | exact fun _ _ _ h => (nomatch h.1))
              (case hSz2_4 => assumption)
              (case hyz2_4 => (refine Or.inl ⟨by rfl, ?_⟩; intro W hW; skip; go_simp; try with_reducible rfl))
              (try simp only [List.getElem_toArray, List.getElem_cons_succ, List.getElem_cons_zero, Act.put, List.setIfInBounds_toArray, List.set_cons_zero, List.set_cons_succ])
              refine wpAnyH_ready (rs := [1]) (by kernel_rfl) (by simp) ?_
              refine AllReadyH.cons rfl (fun K hK => ?_) (AllReadyH.nil)
              go_simp
              refine (refNames_calls o.k _).mono ?_
              rintro e3 w3 ⟨rfl, hb3⟩
              have B3 : Below wr.heap.size wr w3 := (Below.refl _ _).drew.trans hb3
              refine hK.out _ _ (by exact hHeld.below hb3) (fun hHeld1 => ?_)
              clear hK K hHeld hb3
              try simp only [List.getElem_toArray, List.getElem_cons_succ, List.getElem_cons_zero, Act.put, List.setIfInBounds_toArray, List.set_cons_zero, List.set_cons_succ]
              refine wpAnyH_ready (rs := [5]) (by kernel_rfl) (by simp) ?_
              refine AllReadyH.cons rfl (fun K hK => ?_) (AllReadyH.nil)
              go_simp
              refine (HN.out _).mono ?_
              rintro e4 w4 ⟨rfl, hb4⟩
              have B4 := B3.trans (hb4.mono B3.size)
              refine hK.out _ _ (by exact hHeld1.below hb4) (fun hHeld2 => ?_)
              clear hK K hHeld1 hb4
              try simp only [List.getElem_toArray, List.getElem_cons_succ, List.getElem_cons_zero, Act.put, List.setIfInBounds_toArray, List.set_cons_zero, List.set_cons_succ]
              (refine wpAnyH_take (i := 6) (oi := ?oiz2_6) (v := ?vz2_6) ?hiz2_6 ?hsz2_6 ?hfz2_6 ?hrz2_6 ?hQz2_6 ?hyz2_6 ?hSz2_6 ?hz2_6)
              (case hiz2_6 => rfl)
              (case hsz2_6 => kernel_rfl)
              (case hfz2_6 => kernel_rfl)
              (case hrz2_6 => kernel_rfl)
              (case hQz2_6 => first | exact fun _ _ _ h => h | exact fun _ _ _ h => (nomatch h.1))
              (case hSz2_6 => assumption)
              (case hyz2_6 => (refine Or.inl ⟨by rfl, ?_⟩; intro W hW; skip; go_simp; try with_reducible rfl))
              (try simp only [List.getElem_toArray, List.getElem_cons_succ, List.getElem_cons_zero, Act.put, List.setIfInBounds_toArray, List.set_cons_zero, List.set_cons_succ])
              (refine wpAnyH_take (i := 7) (oi := ?oiz2_7) (v := ?vz2_7) ?hiz2_7 ?hsz2_7 ?hfz2_7 ?hrz2_7 ?hQz2_7 ?hyz2_7 ?hSz2_7 ?hz2_7)
              (case hiz2_7 => rfl)
              (case hsz2_7 => kernel_rfl)
              (case hfz2_7 => kernel_rfl)
              (case hrz2_7 => kernel_rfl)
              (case hQz2_7 => first | exact fun _ _ _ h => h | exact fun _ _ _ h => (nomatch h.1))
              (case hSz2_7 => assumption)
              (case hyz2_7 => (refine Or.inl ⟨by rfl, ?_⟩; intro W hW; skip; go_simp; try with_reducible rfl))
              (try simp only [List.getElem_toArray, List.getElem_cons_succ, List.getElem_cons_zero, Act.put, List.setIfInBounds_toArray, List.set_cons_zero, List.set_cons_succ])
              (refine wpAnyH_take (i := 8) (oi := ?oiz2_8) (v := ?vz2_8) ?hiz2_8 ?hsz2_8 ?hfz2_8 ?hrz2_8 ?hQz2_8 ?hyz2_8 ?hSz2_8 ?hz2_8)
              (case hiz2_8 => rfl)
              (case hsz2_8 => kernel_rfl)
              (case hfz2_8 => kernel_rfl)
              (case hrz2_8 => kernel_rfl)
              (case hQz2_8 => first | exact fun _ _ _ h => h | exact fun _ _ _ h => (nomatch h.1))
              (case hSz2_8 => assumption)
              (case hyz2_8 => (refine Or.inl ⟨by rfl, ?_⟩; intro W hW; obtain ⟨q1, q2, q3, q4, q5, q6, q7, q8, q9, qf⟩ := hW; go_simp; try with_reducible rfl))
              (try simp only [List.getElem_toArray, List.getElem_cons_succ, List.getElem_cons_zero, Act.put, List.setIfInBounds_toArray, List.set_cons_zero, List.set_cons_succ])
              (refine wpAnyH_take (i := 9) (oi := ?oiz2_9) (v := ?vz2_9) ?hiz2_9 ?hsz2_9 ?hfz2_9 ?hrz2_9 ?hQz2_9 ?hyz2_9 ?hSz2_9 ?hz2_9)
              (case hiz2_9 => rfl)
              (case hsz2_9 => kernel_rfl)
              (case hfz2_9 => kernel_rfl)
              (case hrz2_9 => kernel_rfl)
              (case hQz2_9 => first | exact fun _ _ _ h => h | exact fun _ _ _ h => (nomatch h.1))
              (case hSz2_9 => assumption)
              (case hyz2_9 => (refine Or.inl ⟨by rfl, ?_⟩; intro W hW; skip; go_simp; try with_reducible rfl))
              (try simp only [List.getElem_toArray, List.getElem_cons_succ, List.getElem_cons_zero, Act.put, List.setIfInBounds_toArray, List.set_cons_zero, List.set_cons_succ])
              (refine wpAnyH_take (i := 10) (oi := ?oiz2_10) (v := ?vz2_10) ?hiz2_10 ?hsz2_10 ?hfz2_10 ?hrz2_10 ?hQz2_10 ?hyz2_10 ?hSz2_10 ?hz2_10)
              (case hiz2_10 => rfl)
              (case hsz2_10 => kernel_rfl)
              (case hfz2_10 => kernel_rfl)
              (case hrz2_10 => kernel_rfl)
              (case hQz2_10 => first | exact fun _ _ _ h => h | exact fun _ _ _ h => (nomatch h.1))
              (case hSz2_10 => assumption)
              (case hyz2_10 => (refine Or.inl ⟨by rfl, ?_⟩; intro W hW; skip; go_simp; try with_reducible rfl))
              (try simp only [List.getElem_toArray, List.getElem_cons_succ, List.getElem_cons_zero, Act.put, List.setIfInBounds_toArray, List.set_cons_zero, List.set_cons_succ])
              (refine wpAnyH_take (i := 11) (oi := ?oiz2_11) (v := ?vz2_11) ?hiz2_11 ?hsz2_11 ?hfz2_11 ?hrz2_11 ?hQz2_11 ?hyz2_11 ?hSz2_11 ?hz2_11)
              (case hiz2_11 => rfl)
              (case hsz2_11 => kernel_rfl)
              (case hfz2_11 => kernel_rfl)
              (case hrz2_11 => kernel_rfl)
              (case hQz2_11 => first | exact fun _ _ _ h => h | exact fun _ _ _ h => (nomatch h.1))
              (case hSz2_11 => assumption)
              (case hyz2_11 => (refine Or.inl ⟨by rfl, ?_⟩; intro W hW; skip; go_simp; try with_reducible rfl))
              (try simp only [List.getElem_toArray, List.getElem_cons_succ, List.getElem_cons_zero, Act.put, List.setIfInBounds_toArray, List.set_cons_zero, List.set_cons_succ])
              refine wpAnyH_ready (rs := [12]) (by kernel_rfl) (by simp) ?_
              refine AllReadyH.cons rfl (fun K hK => ?_) (AllReadyH.nil)
              go_simp
              refine (HG.out _).mono ?_
              rintro e5 w5 ⟨rfl, hb5⟩
              have B5 := B4.trans (hb5.mono B4.size)
              refine hK.out _ _ (by exact hHeld2.below hb5) (fun hHeld3 => ?_)
              clear hK K hHeld2 hb5
              try simp only [List.getElem_toArray, List.getElem_cons_succ, List.getElem_cons_zero, Act.put, List.setIfInBounds_toArray, List.set_cons_zero, List.set_cons_succ]
              (refine wpAnyH_take (i := 13) (oi := ?oiz2_13) (v := ?vz2_13) ?hiz2_13 ?hsz2_13 ?hfz2_13 ?hrz2_13 ?hQz2_13 ?hyz2_13 ?hSz2_13 ?hz2_13)
              (case hiz2_13 => rfl)
              (case hsz2_13 => kernel_rfl)
              (case hfz2_13 => kernel_rfl)
              (case hrz2_13 => kernel_rfl)
              (case hQz2_13 => first | exact fun _ _ _ h => h | exact fun _ _ _ h => (nomatch h.1))
              (case hSz2_13 => assumption)
              (case hyz2_13 => (refine Or.inl ⟨by rfl, ?_⟩; intro W hW; skip; go_simp; try with_reducible rfl))
              (try simp only [List.getElem_toArray, List.getElem_cons_succ, List.getElem_cons_zero, Act.put, List.setIfInBounds_toArray, List.set_cons_zero, List.set_cons_succ])
              (refine wpAnyH_take (i := 14) (oi := ?oiz2_14) (v := ?vz2_14) ?hiz2_14 ?hsz2_14 ?hfz2_14 ?hrz2_14 ?hQz2_14 ?hyz2_14 ?hSz2_14 ?hz2_14)
              (case hiz2_14 => rfl)
              (case hsz2_14 => kernel_rfl)
              (case hfz2_14 => kernel_rfl)
              (case hrz2_14 => kernel_rfl)
              (case hQz2_14 => first | exact fun _ _ _ h => h | exact fun _ _ _ h => (nomatch h.1))
              (case hSz2_14 => assumption)
              (case hyz2_14 => (refine Or.inl ⟨by rfl, ?_⟩; intro W hW; skip; go_simp; try with_reducible rfl))
              (try simp only [List.getElem_toArray, List.getElem_cons_succ, List.getElem_cons_zero, Act.put, List.setIfInBounds_toArray, List.set_cons_zero, List.set_cons_succ])
              refine wpAnyH_done (by kernel_rfl) ?_ _
              have BW := HB9.out.trans (B5.mono HB9.out.size)
              have O9' := HO9.out.below (B5)
              go_wp2
              refine ⟨?_, ?_⟩
              · exact ⟨3, 3, by omega, rfl, rfl, BW, O9', zero_step hzt.out (.inr HV.out)⟩
              · simp [intOf]
            · have hv' : (o.c != 0) = true := by rw [bne_iff_ne]; exact hv
              have HNB := Lib.hid (nonzero_bare o 2 (by omega) hc hv)
              have hg' : ∀ W, Calls Tryd.prog 32 #[.agg #[.int .i64 o.k, .int .i64 o.a, .int .i64 o.b, .int .i64 o.c, .int .i64 o.f, .int .i64 o.s, .int .i64 o.x, .int .i64 o.y], .int .u8 (letterN 2).toNat] W fun e w' => e = .returned (.int .i64 o.c) ∧ Below W.heap.size W w' := HG.out
              replace HG := Lib.hid hg'
              clear hv hc hg'
              go_wp2_with fail
              refine wp_region_held_drew (S := fun A => OpAt A w.heap.size o) (by kernel_rfl) HO9.out.drew (fun hHeld => ?_)
              (refine wpAnyH_take (i := 0) (oi := ?oib2_0) (v := ?vb2_0) ?hib2_0 ?hsb2_0 ?hfb2_0 ?hrb2_0 ?hQb2_0 ?hyb2_0 ?hSb2_0 ?hb2_0)
              (case hib2_0 => rfl)
              (case hsb2_0 => kernel_rfl)
              (case hfb2_0 => kernel_rfl)
              (case hrb2_0 => kernel_rfl)
              (case hQb2_0 => first | exact fun _ _ _ h => h | exact fun _ _ _ h => (nomatch h.1))
              (case hSb2_0 => assumption)
              (case hyb2_0 => (refine Or.inl ⟨by rfl, ?_⟩; intro W hW; skip; go_simp; try with_reducible rfl))
              (try simp only [List.getElem_toArray, List.getElem_cons_succ, List.getElem_cons_zero, Act.put, List.setIfInBounds_toArray, List.set_cons_zero, List.set_cons_succ])
              (refine wpAnyH_take (i := 2) (oi := ?oib2_2) (v := ?vb2_2) ?hib2_2 ?hsb2_2 ?hfb2_2 ?hrb2_2 ?hQb2_2 ?hyb2_2 ?hSb2_2 ?hb2_2)
              (case hib2_2 => rfl)
              (case hsb2_2 => kernel_rfl)
              (case hfb2_2 => kernel_rfl)
              (case hrb2_2 => kernel_rfl)
              (case hQb2_2 => first | exact fun _ _ _ h => h | exact fun _ _ _ h => (nomatch h.1))
              (case hSb2_2 => assumption)
              (case hyb2_2 => (refine Or.inl ⟨by rfl, ?_⟩; intro W hW; skip; go_simp; try with_reducible rfl))
              (try simp only [List.getElem_toArray, List.getElem_cons_succ, List.getElem_cons_zero, Act.put, List.setIfInBounds_toArray, List.set_cons_zero, List.set_cons_succ])
              (refine wpAnyH_take (i := 3) (oi := ?oib2_3) (v := ?vb2_3) ?hib2_3 ?hsb2_3 ?hfb2_3 ?hrb2_3 ?hQb2_3 ?hyb2_3 ?hSb2_3 ?hb2_3)
              (case hib2_3 => rfl)
              (case hsb2_3 => kernel_rfl)
              (case hfb2_3 => kernel_rfl)
              (case hrb2_3 => kernel_rfl)
              (case hQb2_3 => first | exact fun _ _ _ h => h | exact fun _ _ _ h => (nomatch h.1))
              (case hSb2_3 => assumption)
              (case hyb2_3 => (refine Or.inl ⟨by rfl, ?_⟩; intro W hW; skip; go_simp; try with_reducible rfl))
              (try simp only [List.getElem_toArray, List.getElem_cons_succ, List.getElem_cons_zero, Act.put, List.setIfInBounds_toArray, List.set_cons_zero, List.set_cons_succ])
              (refine wpAnyH_take (i := 4) (oi := ?oib2_4) (v := ?vb2_4) ?hib2_4 ?hsb2_4 ?hfb2_4 ?hrb2_4 ?hQb2_4 ?hyb2_4 ?hSb2_4 ?hb2_4)
              (case hib2_4 => rfl)
              (case hsb2_4 => kernel_rfl)
              (case hfb2_4 => kernel_rfl)
              (case hrb2_4 => kernel_rfl)
              (case hQb2_4 => first | exact fun _ _ _ h => h | exact fun _ _ _ h => (nomatch h.1))
              (case hSb2_4 => assumption)
              (case hyb2_4 => (refine Or.inl ⟨by rfl, ?_⟩; intro W hW; skip; go_simp; try with_reducible rfl))
              (try simp only [List.getElem_toArray, List.getElem_cons_succ, List.getElem_cons_zero, Act.put, List.setIfInBounds_toArray, List.set_cons_zero, List.set_cons_succ])
              refine wpAnyH_ready (rs := [1]) (by kernel_rfl) (by simp) ?_
              refine AllReadyH.cons rfl (fun K hK => ?_) (AllReadyH.nil)
              go_simp
              refine (refNames_calls o.k _).mono ?_
              rintro e3 w3 ⟨rfl, hb3⟩
              have B3 : Below wr.heap.size wr w3 := (Below.refl _ _).drew.trans hb3
              refine hK.out _ _ (by exact hHeld.below hb3) (fun hHeld1 => ?_)
              clear hK K hHeld hb3
              try simp only [List.getElem_toArray, List.getElem_cons_succ, List.getElem_cons_zero, Act.put, List.setIfInBounds_toArray, List.set_cons_zero, List.set_cons_succ]
              refine wpAnyH_ready (rs := [5]) (by kernel_rfl) (by simp) ?_
              refine AllReadyH.cons rfl (fun K hK => ?_) (AllReadyH.nil)
              go_simp
              refine (HN.out _).mono ?_
              rintro e4 w4 ⟨rfl, hb4⟩
              have B4 := B3.trans (hb4.mono B3.size)
              refine hK.out _ _ (by exact hHeld1.below hb4) (fun hHeld2 => ?_)
              clear hK K hHeld1 hb4
              try simp only [List.getElem_toArray, List.getElem_cons_succ, List.getElem_cons_zero, Act.put, List.setIfInBounds_toArray, List.set_cons_zero, List.set_cons_succ]
              (refine wpAnyH_take (i := 6) (oi := ?oib2_6) (v := ?vb2_6) ?hib2_6 ?hsb2_6 ?hfb2_6 ?hrb2_6 ?hQb2_6 ?hyb2_6 ?hSb2_6 ?hb2_6)
              (case hib2_6 => rfl)
              (case hsb2_6 => kernel_rfl)
              (case hfb2_6 => kernel_rfl)
              (case hrb2_6 => kernel_rfl)
              (case hQb2_6 => first | exact fun _ _ _ h => h | exact fun _ _ _ h => (nomatch h.1))
              (case hSb2_6 => assumption)
              (case hyb2_6 => (refine Or.inl ⟨by rfl, ?_⟩; intro W hW; skip; go_simp; try with_reducible rfl))
              (try simp only [List.getElem_toArray, List.getElem_cons_succ, List.getElem_cons_zero, Act.put, List.setIfInBounds_toArray, List.set_cons_zero, List.set_cons_succ])
              (refine wpAnyH_take (i := 7) (oi := ?oib2_7) (v := ?vb2_7) ?hib2_7 ?hsb2_7 ?hfb2_7 ?hrb2_7 ?hQb2_7 ?hyb2_7 ?hSb2_7 ?hb2_7)
              (case hib2_7 => rfl)
              (case hsb2_7 => kernel_rfl)
              (case hfb2_7 => kernel_rfl)
              (case hrb2_7 => kernel_rfl)
              (case hQb2_7 => first | exact fun _ _ _ h => h | exact fun _ _ _ h => (nomatch h.1))
              (case hSb2_7 => assumption)
              (case hyb2_7 => (refine Or.inl ⟨by rfl, ?_⟩; intro W hW; skip; go_simp; try with_reducible rfl))
              (try simp only [List.getElem_toArray, List.getElem_cons_succ, List.getElem_cons_zero, Act.put, List.setIfInBounds_toArray, List.set_cons_zero, List.set_cons_succ])
              (refine wpAnyH_take (i := 8) (oi := ?oib2_8) (v := ?vb2_8) ?hib2_8 ?hsb2_8 ?hfb2_8 ?hrb2_8 ?hQb2_8 ?hyb2_8 ?hSb2_8 ?hb2_8)
              (case hib2_8 => rfl)
              (case hsb2_8 => kernel_rfl)
              (case hfb2_8 => kernel_rfl)
              (case hrb2_8 => kernel_rfl)
              (case hQb2_8 => first | exact fun _ _ _ h => h | exact fun _ _ _ h => (nomatch h.1))
              (case hSb2_8 => assumption)
              (case hyb2_8 => (refine Or.inl ⟨by rfl, ?_⟩; intro W hW; obtain ⟨q1, q2, q3, q4, q5, q6, q7, q8, q9, qf⟩ := hW; go_simp; try with_reducible rfl))
              (try simp only [List.getElem_toArray, List.getElem_cons_succ, List.getElem_cons_zero, Act.put, List.setIfInBounds_toArray, List.set_cons_zero, List.set_cons_succ])
              (refine wpAnyH_take (i := 9) (oi := ?oib2_9) (v := ?vb2_9) ?hib2_9 ?hsb2_9 ?hfb2_9 ?hrb2_9 ?hQb2_9 ?hyb2_9 ?hSb2_9 ?hb2_9)
              (case hib2_9 => rfl)
              (case hsb2_9 => kernel_rfl)
              (case hfb2_9 => kernel_rfl)
              (case hrb2_9 => kernel_rfl)
              (case hQb2_9 => first | exact fun _ _ _ h => h | exact fun _ _ _ h => (nomatch h.1))
              (case hSb2_9 => assumption)
              (case hyb2_9 => (refine Or.inl ⟨by rfl, ?_⟩; intro W hW; skip; go_simp; try with_reducible rfl))
              (try simp only [List.getElem_toArray, List.getElem_cons_succ, List.getElem_cons_zero, Act.put, List.setIfInBounds_toArray, List.set_cons_zero, List.set_cons_succ])
              (refine wpAnyH_take (i := 10) (oi := ?oib2_10) (v := ?vb2_10) ?hib2_10 ?hsb2_10 ?hfb2_10 ?hrb2_10 ?hQb2_10 ?hyb2_10 ?hSb2_10 ?hb2_10)
              (case hib2_10 => rfl)
              (case hsb2_10 => kernel_rfl)
              (case hfb2_10 => kernel_rfl)
              (case hrb2_10 => kernel_rfl)
              (case hQb2_10 => first | exact fun _ _ _ h => h | exact fun _ _ _ h => (nomatch h.1))
              (case hSb2_10 => assumption)
              (case hyb2_10 => (refine Or.inl ⟨by rfl, ?_⟩; intro W hW; skip; go_simp; try with_reducible rfl))
              (try simp only [List.getElem_toArray, List.getElem_cons_succ, List.getElem_cons_zero, Act.put, List.setIfInBounds_toArray, List.set_cons_zero, List.set_cons_succ])
              (refine wpAnyH_take (i := 11) (oi := ?oib2_11) (v := ?vb2_11) ?hib2_11 ?hsb2_11 ?hfb2_11 ?hrb2_11 ?hQb2_11 ?hyb2_11 ?hSb2_11 ?hb2_11)
              (case hib2_11 => rfl)
              (case hsb2_11 => kernel_rfl)
              (case hfb2_11 => kernel_rfl)
              (case hrb2_11 => kernel_rfl)
              (case hQb2_11 => first | exact fun _ _ _ h => h | exact fun _ _ _ h => (nomatch h.1))
              (case hSb2_11 => assumption)
              (case hyb2_11 => (refine Or.inl ⟨by rfl, ?_⟩; intro W hW; skip; go_simp; try with_reducible rfl))
              (try simp only [List.getElem_toArray, List.getElem_cons_succ, List.getElem_cons_zero, Act.put, List.setIfInBounds_toArray, List.set_cons_zero, List.set_cons_succ])
              refine wpAnyH_ready (rs := [12]) (by kernel_rfl) (by simp) ?_
              refine AllReadyH.cons rfl (fun K hK => ?_) (AllReadyH.nil)
              go_simp
              refine (HG.out _).mono ?_
              rintro e5 w5 ⟨rfl, hb5⟩
              have B5 := B4.trans (hb5.mono B4.size)
              refine hK.out _ _ (by exact hHeld2.below hb5) (fun hHeld3 => ?_)
              clear hK K hHeld2 hb5
              try simp only [List.getElem_toArray, List.getElem_cons_succ, List.getElem_cons_zero, Act.put, List.setIfInBounds_toArray, List.set_cons_zero, List.set_cons_succ]
              (refine wpAnyH_take (i := 13) (oi := ?oib2_13) (v := ?vb2_13) ?hib2_13 ?hsb2_13 ?hfb2_13 ?hrb2_13 ?hQb2_13 ?hyb2_13 ?hSb2_13 ?hb2_13)
              (case hib2_13 => rfl)
              (case hsb2_13 => kernel_rfl)
              (case hfb2_13 => kernel_rfl)
              (case hrb2_13 => kernel_rfl)
              (case hQb2_13 => first | exact fun _ _ _ h => h | exact fun _ _ _ h => (nomatch h.1))
              (case hSb2_13 => assumption)
              (case hyb2_13 => (refine Or.inl ⟨by rfl, ?_⟩; intro W hW; skip; go_simp; try with_reducible rfl))
              (try simp only [List.getElem_toArray, List.getElem_cons_succ, List.getElem_cons_zero, Act.put, List.setIfInBounds_toArray, List.set_cons_zero, List.set_cons_succ])
              (refine wpAnyH_take (i := 14) (oi := ?oib2_14) (v := ?vb2_14) ?hib2_14 ?hsb2_14 ?hfb2_14 ?hrb2_14 ?hQb2_14 ?hyb2_14 ?hSb2_14 ?hb2_14)
              (case hib2_14 => rfl)
              (case hsb2_14 => kernel_rfl)
              (case hfb2_14 => kernel_rfl)
              (case hrb2_14 => kernel_rfl)
              (case hQb2_14 => first | exact fun _ _ _ h => h | exact fun _ _ _ h => (nomatch h.1))
              (case hSb2_14 => assumption)
              (case hyb2_14 => (refine Or.inl ⟨by rfl, ?_⟩; intro W hW; skip; go_simp; try with_reducible rfl))
              (try simp only [List.getElem_toArray, List.getElem_cons_succ, List.getElem_cons_zero, Act.put, List.setIfInBounds_toArray, List.set_cons_zero, List.set_cons_succ])
              refine wpAnyH_done (by kernel_rfl) ?_ _
              have BW := HB9.out.trans (B5.mono HB9.out.size)
              go_wp2
              go_ret
              exact ⟨by rw [HNB.out]; rfl, BW⟩
        · obtain rfl : t = 3 := by omega
          clear ht hlt
          have HN := Lib.hid (fun W => named_calls o.k 3 (by omega) W)
          cases hc : (opNames o.k).contains 3 with
          | true =>
            rw [hc] at HN
            have HC := Lib.hid hc
            clear hc
            go_wp2_with fail
            refine wp_region_held_drew (S := fun A => OpAt A w.heap.size o) (by kernel_rfl) HO9.out.drew (fun hHeld => ?_)
            (refine wpAnyH_take (i := 0) (oi := ?oin3_0) (v := ?vn3_0) ?hin3_0 ?hsn3_0 ?hfn3_0 ?hrn3_0 ?hQn3_0 ?hyn3_0 ?hSn3_0 ?hn3_0)
            (case hin3_0 => rfl)
            (case hsn3_0 => kernel_rfl)
            (case hfn3_0 => kernel_rfl)
            (case hrn3_0 => kernel_rfl)
            (case hQn3_0 => first | exact fun _ _ _ h => h | exact fun _ _ _ h => (nomatch h.1))
            (case hSn3_0 => assumption)
            (case hyn3_0 => (refine Or.inl ⟨by rfl, ?_⟩; intro W hW; skip; go_simp; try with_reducible rfl))
            (try simp only [List.getElem_toArray, List.getElem_cons_succ, List.getElem_cons_zero, Act.put, List.setIfInBounds_toArray, List.set_cons_zero, List.set_cons_succ])
            (refine wpAnyH_take (i := 2) (oi := ?oin3_2) (v := ?vn3_2) ?hin3_2 ?hsn3_2 ?hfn3_2 ?hrn3_2 ?hQn3_2 ?hyn3_2 ?hSn3_2 ?hn3_2)
            (case hin3_2 => rfl)
            (case hsn3_2 => kernel_rfl)
            (case hfn3_2 => kernel_rfl)
            (case hrn3_2 => kernel_rfl)
            (case hQn3_2 => first | exact fun _ _ _ h => h | exact fun _ _ _ h => (nomatch h.1))
            (case hSn3_2 => assumption)
            (case hyn3_2 => (refine Or.inl ⟨by rfl, ?_⟩; intro W hW; skip; go_simp; try with_reducible rfl))
            (try simp only [List.getElem_toArray, List.getElem_cons_succ, List.getElem_cons_zero, Act.put, List.setIfInBounds_toArray, List.set_cons_zero, List.set_cons_succ])
            (refine wpAnyH_take (i := 3) (oi := ?oin3_3) (v := ?vn3_3) ?hin3_3 ?hsn3_3 ?hfn3_3 ?hrn3_3 ?hQn3_3 ?hyn3_3 ?hSn3_3 ?hn3_3)
            (case hin3_3 => rfl)
            (case hsn3_3 => kernel_rfl)
            (case hfn3_3 => kernel_rfl)
            (case hrn3_3 => kernel_rfl)
            (case hQn3_3 => first | exact fun _ _ _ h => h | exact fun _ _ _ h => (nomatch h.1))
            (case hSn3_3 => assumption)
            (case hyn3_3 => (refine Or.inl ⟨by rfl, ?_⟩; intro W hW; skip; go_simp; try with_reducible rfl))
            (try simp only [List.getElem_toArray, List.getElem_cons_succ, List.getElem_cons_zero, Act.put, List.setIfInBounds_toArray, List.set_cons_zero, List.set_cons_succ])
            (refine wpAnyH_take (i := 4) (oi := ?oin3_4) (v := ?vn3_4) ?hin3_4 ?hsn3_4 ?hfn3_4 ?hrn3_4 ?hQn3_4 ?hyn3_4 ?hSn3_4 ?hn3_4)
            (case hin3_4 => rfl)
            (case hsn3_4 => kernel_rfl)
            (case hfn3_4 => kernel_rfl)
            (case hrn3_4 => kernel_rfl)
            (case hQn3_4 => first | exact fun _ _ _ h => h | exact fun _ _ _ h => (nomatch h.1))
            (case hSn3_4 => assumption)
            (case hyn3_4 => (refine Or.inl ⟨by rfl, ?_⟩; intro W hW; skip; go_simp; try with_reducible rfl))
            (try simp only [List.getElem_toArray, List.getElem_cons_succ, List.getElem_cons_zero, Act.put, List.setIfInBounds_toArray, List.set_cons_zero, List.set_cons_succ])
            refine wpAnyH_ready (rs := [1]) (by kernel_rfl) (by simp) ?_
            refine AllReadyH.cons rfl (fun K hK => ?_) (AllReadyH.nil)
            go_simp
            refine (refNames_calls o.k _).mono ?_
            rintro e3 w3 ⟨rfl, hb3⟩
            have B3 : Below wr.heap.size wr w3 := (Below.refl _ _).drew.trans hb3
            refine hK.out _ _ (by exact hHeld.below hb3) (fun hHeld1 => ?_)
            clear hK K hHeld hb3
            try simp only [List.getElem_toArray, List.getElem_cons_succ, List.getElem_cons_zero, Act.put, List.setIfInBounds_toArray, List.set_cons_zero, List.set_cons_succ]
            refine wpAnyH_ready (rs := [5]) (by kernel_rfl) (by simp) ?_
            refine AllReadyH.cons rfl (fun K hK => ?_) (AllReadyH.nil)
            go_simp
            refine (HN.out _).mono ?_
            rintro e4 w4 ⟨rfl, hb4⟩
            have B4 := B3.trans (hb4.mono B3.size)
            refine hK.out _ _ (by exact hHeld1.below hb4) (fun hHeld2 => ?_)
            clear hK K hHeld1 hb4
            try simp only [List.getElem_toArray, List.getElem_cons_succ, List.getElem_cons_zero, Act.put, List.setIfInBounds_toArray, List.set_cons_zero, List.set_cons_succ]
            (refine wpAnyH_take (i := 6) (oi := ?oin3_6) (v := ?vn3_6) ?hin3_6 ?hsn3_6 ?hfn3_6 ?hrn3_6 ?hQn3_6 ?hyn3_6 ?hSn3_6 ?hn3_6)
            (case hin3_6 => rfl)
            (case hsn3_6 => kernel_rfl)
            (case hfn3_6 => kernel_rfl)
            (case hrn3_6 => kernel_rfl)
            (case hQn3_6 => first | exact fun _ _ _ h => h | exact fun _ _ _ h => (nomatch h.1))
            (case hSn3_6 => assumption)
            (case hyn3_6 => (refine Or.inl ⟨by rfl, ?_⟩; intro W hW; skip; go_simp; try with_reducible rfl))
            (try simp only [List.getElem_toArray, List.getElem_cons_succ, List.getElem_cons_zero, Act.put, List.setIfInBounds_toArray, List.set_cons_zero, List.set_cons_succ])
            (refine wpAnyH_take (i := 7) (oi := ?oin3_7) (v := ?vn3_7) ?hin3_7 ?hsn3_7 ?hfn3_7 ?hrn3_7 ?hQn3_7 ?hyn3_7 ?hSn3_7 ?hn3_7)
            (case hin3_7 => rfl)
            (case hsn3_7 => kernel_rfl)
            (case hfn3_7 => kernel_rfl)
            (case hrn3_7 => kernel_rfl)
            (case hQn3_7 => first | exact fun _ _ _ h => h | exact fun _ _ _ h => (nomatch h.1))
            (case hSn3_7 => assumption)
            (case hyn3_7 => (refine Or.inl ⟨by rfl, ?_⟩; intro W hW; skip; go_simp; try with_reducible rfl))
            (try simp only [List.getElem_toArray, List.getElem_cons_succ, List.getElem_cons_zero, Act.put, List.setIfInBounds_toArray, List.set_cons_zero, List.set_cons_succ])
            (refine wpAnyH_take (i := 8) (oi := ?oin3_8) (v := undef) ?hin3_8 ?hsn3_8 ?hfn3_8 ?hrn3_8 ?hQn3_8 ?hyn3_8 ?hSn3_8 ?hn3_8)
            (case hin3_8 => rfl)
            (case hsn3_8 => kernel_rfl)
            (case hfn3_8 => kernel_rfl)
            (case hrn3_8 => kernel_rfl)
            (case hQn3_8 => first | exact fun _ _ _ h => h | exact fun _ _ _ h => (nomatch h.1))
            (case hSn3_8 => assumption)
            (case hyn3_8 => exact Or.inr ⟨by rfl, rfl⟩)
            (try simp only [List.getElem_toArray, List.getElem_cons_succ, List.getElem_cons_zero, Act.put, List.setIfInBounds_toArray, List.set_cons_zero, List.set_cons_succ])
            (refine wpAnyH_take (i := 9) (oi := ?oin3_9) (v := undef) ?hin3_9 ?hsn3_9 ?hfn3_9 ?hrn3_9 ?hQn3_9 ?hyn3_9 ?hSn3_9 ?hn3_9)
            (case hin3_9 => rfl)
            (case hsn3_9 => kernel_rfl)
            (case hfn3_9 => kernel_rfl)
            (case hrn3_9 => kernel_rfl)
            (case hQn3_9 => first | exact fun _ _ _ h => h | exact fun _ _ _ h => (nomatch h.1))
            (case hSn3_9 => assumption)
            (case hyn3_9 => exact Or.inr ⟨by rfl, rfl⟩)
            (try simp only [List.getElem_toArray, List.getElem_cons_succ, List.getElem_cons_zero, Act.put, List.setIfInBounds_toArray, List.set_cons_zero, List.set_cons_succ])
            (refine wpAnyH_take (i := 10) (oi := ?oin3_10) (v := undef) ?hin3_10 ?hsn3_10 ?hfn3_10 ?hrn3_10 ?hQn3_10 ?hyn3_10 ?hSn3_10 ?hn3_10)
            (case hin3_10 => rfl)
            (case hsn3_10 => kernel_rfl)
            (case hfn3_10 => kernel_rfl)
            (case hrn3_10 => kernel_rfl)
            (case hQn3_10 => first | exact fun _ _ _ h => h | exact fun _ _ _ h => (nomatch h.1))
            (case hSn3_10 => assumption)
            (case hyn3_10 => exact Or.inr ⟨by rfl, rfl⟩)
            (try simp only [List.getElem_toArray, List.getElem_cons_succ, List.getElem_cons_zero, Act.put, List.setIfInBounds_toArray, List.set_cons_zero, List.set_cons_succ])
            (refine wpAnyH_take (i := 11) (oi := ?oin3_11) (v := undef) ?hin3_11 ?hsn3_11 ?hfn3_11 ?hrn3_11 ?hQn3_11 ?hyn3_11 ?hSn3_11 ?hn3_11)
            (case hin3_11 => rfl)
            (case hsn3_11 => kernel_rfl)
            (case hfn3_11 => kernel_rfl)
            (case hrn3_11 => kernel_rfl)
            (case hQn3_11 => first | exact fun _ _ _ h => h | exact fun _ _ _ h => (nomatch h.1))
            (case hSn3_11 => assumption)
            (case hyn3_11 => exact Or.inr ⟨by rfl, rfl⟩)
            (try simp only [List.getElem_toArray, List.getElem_cons_succ, List.getElem_cons_zero, Act.put, List.setIfInBounds_toArray, List.set_cons_zero, List.set_cons_succ])
            (refine wpAnyH_take (i := 12) (oi := ?oin3_12) (v := undef) ?hin3_12 ?hsn3_12 ?hfn3_12 ?hrn3_12 ?hQn3_12 ?hyn3_12 ?hSn3_12 ?hn3_12)
            (case hin3_12 => rfl)
            (case hsn3_12 => kernel_rfl)
            (case hfn3_12 => kernel_rfl)
            (case hrn3_12 => kernel_rfl)
            (case hQn3_12 => first | exact fun _ _ _ h => h | exact fun _ _ _ h => (nomatch h.1))
            (case hSn3_12 => assumption)
            (case hyn3_12 => exact Or.inr ⟨by rfl, rfl⟩)
            (try simp only [List.getElem_toArray, List.getElem_cons_succ, List.getElem_cons_zero, Act.put, List.setIfInBounds_toArray, List.set_cons_zero, List.set_cons_succ])
            (refine wpAnyH_take (i := 13) (oi := ?oin3_13) (v := undef) ?hin3_13 ?hsn3_13 ?hfn3_13 ?hrn3_13 ?hQn3_13 ?hyn3_13 ?hSn3_13 ?hn3_13)
            (case hin3_13 => rfl)
            (case hsn3_13 => kernel_rfl)
            (case hfn3_13 => kernel_rfl)
            (case hrn3_13 => kernel_rfl)
            (case hQn3_13 => first | exact fun _ _ _ h => h | exact fun _ _ _ h => (nomatch h.1))
            (case hSn3_13 => assumption)
            (case hyn3_13 => exact Or.inr ⟨by rfl, rfl⟩)
            (try simp only [List.getElem_toArray, List.getElem_cons_succ, List.getElem_cons_zero, Act.put, List.setIfInBounds_toArray, List.set_cons_zero, List.set_cons_succ])
            (refine wpAnyH_take (i := 14) (oi := ?oin3_14) (v := ?vn3_14) ?hin3_14 ?hsn3_14 ?hfn3_14 ?hrn3_14 ?hQn3_14 ?hyn3_14 ?hSn3_14 ?hn3_14)
            (case hin3_14 => rfl)
            (case hsn3_14 => kernel_rfl)
            (case hfn3_14 => kernel_rfl)
            (case hrn3_14 => kernel_rfl)
            (case hQn3_14 => first | exact fun _ _ _ h => h | exact fun _ _ _ h => (nomatch h.1))
            (case hSn3_14 => assumption)
            (case hyn3_14 => (refine Or.inl ⟨by rfl, ?_⟩; intro W hW; skip; go_simp; try with_reducible rfl))
            (try simp only [List.getElem_toArray, List.getElem_cons_succ, List.getElem_cons_zero, Act.put, List.setIfInBounds_toArray, List.set_cons_zero, List.set_cons_succ])
            refine wpAnyH_done (by kernel_rfl) ?_ _
            have BW := HB9.out.trans (B4.mono HB9.out.size)
            have O9' := HO9.out.below (B4)
            go_wp2
            refine ⟨?_, ?_⟩
            · exact ⟨4, 4, by omega, rfl, rfl, BW, O9', zero_step hzt.out (.inl HC.out)⟩
            · simp [intOf]
          | false =>
            rw [hc] at HN
            have HG := Lib.hid (fun W => get_calls o 3 (by omega) W)
            unfold opVal at HG
            by_cases hv : o.f = 0
            · have hv' : o.get 3 = 0 := hv
              rw [hv'] at HG
              have HV := Lib.hid hv'
              clear hv hv' hc
              go_wp2_with fail
              refine wp_region_held_drew (S := fun A => OpAt A w.heap.size o) (by kernel_rfl) HO9.out.drew (fun hHeld => ?_)
              (refine wpAnyH_take (i := 0) (oi := ?oiz3_0) (v := ?vz3_0) ?hiz3_0 ?hsz3_0 ?hfz3_0 ?hrz3_0 ?hQz3_0 ?hyz3_0 ?hSz3_0 ?hz3_0)
              (case hiz3_0 => rfl)
              (case hsz3_0 => kernel_rfl)
              (case hfz3_0 => kernel_rfl)
              (case hrz3_0 => kernel_rfl)
              (case hQz3_0 => first | exact fun _ _ _ h => h | exact fun _ _ _ h => (nomatch h.1))
              (case hSz3_0 => assumption)
              (case hyz3_0 => (refine Or.inl ⟨by rfl, ?_⟩; intro W hW; skip; go_simp; try with_reducible rfl))
              (try simp only [List.getElem_toArray, List.getElem_cons_succ, List.getElem_cons_zero, Act.put, List.setIfInBounds_toArray, List.set_cons_zero, List.set_cons_succ])
              (refine wpAnyH_take (i := 2) (oi := ?oiz3_2) (v := ?vz3_2) ?hiz3_2 ?hsz3_2 ?hfz3_2 ?hrz3_2 ?hQz3_2 ?hyz3_2 ?hSz3_2 ?hz3_2)
              (case hiz3_2 => rfl)
              (case hsz3_2 => kernel_rfl)
              (case hfz3_2 => kernel_rfl)
              (case hrz3_2 => kernel_rfl)
              (case hQz3_2 => first | exact fun _ _ _ h => h | exact fun _ _ _ h => (nomatch h.1))
              (case hSz3_2 => assumption)
              (case hyz3_2 => (refine Or.inl ⟨by rfl, ?_⟩; intro W hW; skip; go_simp; try with_reducible rfl))
              (try simp only [List.getElem_toArray, List.getElem_cons_succ, List.getElem_cons_zero, Act.put, List.setIfInBounds_toArray, List.set_cons_zero, List.set_cons_succ])
              (refine wpAnyH_take (i := 3) (oi := ?oiz3_3) (v := ?vz3_3) ?hiz3_3 ?hsz3_3 ?hfz3_3 ?hrz3_3 ?hQz3_3 ?hyz3_3 ?hSz3_3 ?hz3_3)
              (case hiz3_3 => rfl)
              (case hsz3_3 => kernel_rfl)
              (case hfz3_3 => kernel_rfl)
              (case hrz3_3 => kernel_rfl)
              (case hQz3_3 => first | exact fun _ _ _ h => h | exact fun _ _ _ h => (nomatch h.1))
              (case hSz3_3 => assumption)
              (case hyz3_3 => (refine Or.inl ⟨by rfl, ?_⟩; intro W hW; skip; go_simp; try with_reducible rfl))
              (try simp only [List.getElem_toArray, List.getElem_cons_succ, List.getElem_cons_zero, Act.put, List.setIfInBounds_toArray, List.set_cons_zero, List.set_cons_succ])
              (refine wpAnyH_take (i := 4) (oi := ?oiz3_4) (v := ?vz3_4) ?hiz3_4 ?hsz3_4 ?hfz3_4 ?hrz3_4 ?hQz3_4 ?hyz3_4 ?hSz3_4 ?hz3_4)
              (case hiz3_4 => rfl)
              (case hsz3_4 => kernel_rfl)
              (case hfz3_4 => kernel_rfl)
              (case hrz3_4 => kernel_rfl)
              (case hQz3_4 => first | exact fun _ _ _ h => h | exact fun _ _ _ h => (nomatch h.1))
              (case hSz3_4 => assumption)
              (case hyz3_4 => (refine Or.inl ⟨by rfl, ?_⟩; intro W hW; skip; go_simp; try with_reducible rfl))
              (try simp only [List.getElem_toArray, List.getElem_cons_succ, List.getElem_cons_zero, Act.put, List.setIfInBounds_toArray, List.set_cons_zero, List.set_cons_succ])
              refine wpAnyH_ready (rs := [1]) (by kernel_rfl) (by simp) ?_
              refine AllReadyH.cons rfl (fun K hK => ?_) (AllReadyH.nil)
              go_simp
              refine (refNames_calls o.k _).mono ?_
              rintro e3 w3 ⟨rfl, hb3⟩
              have B3 : Below wr.heap.size wr w3 := (Below.refl _ _).drew.trans hb3
              refine hK.out _ _ (by exact hHeld.below hb3) (fun hHeld1 => ?_)
              clear hK K hHeld hb3
              try simp only [List.getElem_toArray, List.getElem_cons_succ, List.getElem_cons_zero, Act.put, List.setIfInBounds_toArray, List.set_cons_zero, List.set_cons_succ]
              refine wpAnyH_ready (rs := [5]) (by kernel_rfl) (by simp) ?_
              refine AllReadyH.cons rfl (fun K hK => ?_) (AllReadyH.nil)
              go_simp
              refine (HN.out _).mono ?_
              rintro e4 w4 ⟨rfl, hb4⟩
              have B4 := B3.trans (hb4.mono B3.size)
              refine hK.out _ _ (by exact hHeld1.below hb4) (fun hHeld2 => ?_)
              clear hK K hHeld1 hb4
              try simp only [List.getElem_toArray, List.getElem_cons_succ, List.getElem_cons_zero, Act.put, List.setIfInBounds_toArray, List.set_cons_zero, List.set_cons_succ]
              (refine wpAnyH_take (i := 6) (oi := ?oiz3_6) (v := ?vz3_6) ?hiz3_6 ?hsz3_6 ?hfz3_6 ?hrz3_6 ?hQz3_6 ?hyz3_6 ?hSz3_6 ?hz3_6)
              (case hiz3_6 => rfl)
              (case hsz3_6 => kernel_rfl)
              (case hfz3_6 => kernel_rfl)
              (case hrz3_6 => kernel_rfl)
              (case hQz3_6 => first | exact fun _ _ _ h => h | exact fun _ _ _ h => (nomatch h.1))
              (case hSz3_6 => assumption)
              (case hyz3_6 => (refine Or.inl ⟨by rfl, ?_⟩; intro W hW; skip; go_simp; try with_reducible rfl))
              (try simp only [List.getElem_toArray, List.getElem_cons_succ, List.getElem_cons_zero, Act.put, List.setIfInBounds_toArray, List.set_cons_zero, List.set_cons_succ])
              (refine wpAnyH_take (i := 7) (oi := ?oiz3_7) (v := ?vz3_7) ?hiz3_7 ?hsz3_7 ?hfz3_7 ?hrz3_7 ?hQz3_7 ?hyz3_7 ?hSz3_7 ?hz3_7)
              (case hiz3_7 => rfl)
              (case hsz3_7 => kernel_rfl)
              (case hfz3_7 => kernel_rfl)
              (case hrz3_7 => kernel_rfl)
              (case hQz3_7 => first | exact fun _ _ _ h => h | exact fun _ _ _ h => (nomatch h.1))
              (case hSz3_7 => assumption)
              (case hyz3_7 => (refine Or.inl ⟨by rfl, ?_⟩; intro W hW; skip; go_simp; try with_reducible rfl))
              (try simp only [List.getElem_toArray, List.getElem_cons_succ, List.getElem_cons_zero, Act.put, List.setIfInBounds_toArray, List.set_cons_zero, List.set_cons_succ])
              (refine wpAnyH_take (i := 8) (oi := ?oiz3_8) (v := ?vz3_8) ?hiz3_8 ?hsz3_8 ?hfz3_8 ?hrz3_8 ?hQz3_8 ?hyz3_8 ?hSz3_8 ?hz3_8)
              (case hiz3_8 => rfl)
              (case hsz3_8 => kernel_rfl)
              (case hfz3_8 => kernel_rfl)
              (case hrz3_8 => kernel_rfl)
              (case hQz3_8 => first | exact fun _ _ _ h => h | exact fun _ _ _ h => (nomatch h.1))
              (case hSz3_8 => assumption)
              (case hyz3_8 => (refine Or.inl ⟨by rfl, ?_⟩; intro W hW; obtain ⟨q1, q2, q3, q4, q5, q6, q7, q8, q9, qf⟩ := hW; go_simp; try with_reducible rfl))
              (try simp only [List.getElem_toArray, List.getElem_cons_succ, List.getElem_cons_zero, Act.put, List.setIfInBounds_toArray, List.set_cons_zero, List.set_cons_succ])
              (refine wpAnyH_take (i := 9) (oi := ?oiz3_9) (v := ?vz3_9) ?hiz3_9 ?hsz3_9 ?hfz3_9 ?hrz3_9 ?hQz3_9 ?hyz3_9 ?hSz3_9 ?hz3_9)
              (case hiz3_9 => rfl)
              (case hsz3_9 => kernel_rfl)
              (case hfz3_9 => kernel_rfl)
              (case hrz3_9 => kernel_rfl)
              (case hQz3_9 => first | exact fun _ _ _ h => h | exact fun _ _ _ h => (nomatch h.1))
              (case hSz3_9 => assumption)
              (case hyz3_9 => (refine Or.inl ⟨by rfl, ?_⟩; intro W hW; skip; go_simp; try with_reducible rfl))
              (try simp only [List.getElem_toArray, List.getElem_cons_succ, List.getElem_cons_zero, Act.put, List.setIfInBounds_toArray, List.set_cons_zero, List.set_cons_succ])
              (refine wpAnyH_take (i := 10) (oi := ?oiz3_10) (v := ?vz3_10) ?hiz3_10 ?hsz3_10 ?hfz3_10 ?hrz3_10 ?hQz3_10 ?hyz3_10 ?hSz3_10 ?hz3_10)
              (case hiz3_10 => rfl)
              (case hsz3_10 => kernel_rfl)
              (case hfz3_10 => kernel_rfl)
              (case hrz3_10 => kernel_rfl)
              (case hQz3_10 => first | exact fun _ _ _ h => h | exact fun _ _ _ h => (nomatch h.1))
              (case hSz3_10 => assumption)
              (case hyz3_10 => (refine Or.inl ⟨by rfl, ?_⟩; intro W hW; skip; go_simp; try with_reducible rfl))
              (try simp only [List.getElem_toArray, List.getElem_cons_succ, List.getElem_cons_zero, Act.put, List.setIfInBounds_toArray, List.set_cons_zero, List.set_cons_succ])
              (refine wpAnyH_take (i := 11) (oi := ?oiz3_11) (v := ?vz3_11) ?hiz3_11 ?hsz3_11 ?hfz3_11 ?hrz3_11 ?hQz3_11 ?hyz3_11 ?hSz3_11 ?hz3_11)
              (case hiz3_11 => rfl)
              (case hsz3_11 => kernel_rfl)
              (case hfz3_11 => kernel_rfl)
              (case hrz3_11 => kernel_rfl)
              (case hQz3_11 => first | exact fun _ _ _ h => h | exact fun _ _ _ h => (nomatch h.1))
              (case hSz3_11 => assumption)
              (case hyz3_11 => (refine Or.inl ⟨by rfl, ?_⟩; intro W hW; skip; go_simp; try with_reducible rfl))
              (try simp only [List.getElem_toArray, List.getElem_cons_succ, List.getElem_cons_zero, Act.put, List.setIfInBounds_toArray, List.set_cons_zero, List.set_cons_succ])
              refine wpAnyH_ready (rs := [12]) (by kernel_rfl) (by simp) ?_
              refine AllReadyH.cons rfl (fun K hK => ?_) (AllReadyH.nil)
              go_simp
              refine (HG.out _).mono ?_
              rintro e5 w5 ⟨rfl, hb5⟩
              have B5 := B4.trans (hb5.mono B4.size)
              refine hK.out _ _ (by exact hHeld2.below hb5) (fun hHeld3 => ?_)
              clear hK K hHeld2 hb5
              try simp only [List.getElem_toArray, List.getElem_cons_succ, List.getElem_cons_zero, Act.put, List.setIfInBounds_toArray, List.set_cons_zero, List.set_cons_succ]
              (refine wpAnyH_take (i := 13) (oi := ?oiz3_13) (v := ?vz3_13) ?hiz3_13 ?hsz3_13 ?hfz3_13 ?hrz3_13 ?hQz3_13 ?hyz3_13 ?hSz3_13 ?hz3_13)
              (case hiz3_13 => rfl)
              (case hsz3_13 => kernel_rfl)
              (case hfz3_13 => kernel_rfl)
              (case hrz3_13 => kernel_rfl)
              (case hQz3_13 => first | exact fun _ _ _ h => h | exact fun _ _ _ h => (nomatch h.1))
              (case hSz3_13 => assumption)
              (case hyz3_13 => (refine Or.inl ⟨by rfl, ?_⟩; intro W hW; skip; go_simp; try with_reducible rfl))
              (try simp only [List.getElem_toArray, List.getElem_cons_succ, List.getElem_cons_zero, Act.put, List.setIfInBounds_toArray, List.set_cons_zero, List.set_cons_succ])
              (refine wpAnyH_take (i := 14) (oi := ?oiz3_14) (v := ?vz3_14) ?hiz3_14 ?hsz3_14 ?hfz3_14 ?hrz3_14 ?hQz3_14 ?hyz3_14 ?hSz3_14 ?hz3_14)
              (case hiz3_14 => rfl)
              (case hsz3_14 => kernel_rfl)
              (case hfz3_14 => kernel_rfl)
              (case hrz3_14 => kernel_rfl)
              (case hQz3_14 => first | exact fun _ _ _ h => h | exact fun _ _ _ h => (nomatch h.1))
              (case hSz3_14 => assumption)
              (case hyz3_14 => (refine Or.inl ⟨by rfl, ?_⟩; intro W hW; skip; go_simp; try with_reducible rfl))
              (try simp only [List.getElem_toArray, List.getElem_cons_succ, List.getElem_cons_zero, Act.put, List.setIfInBounds_toArray, List.set_cons_zero, List.set_cons_succ])
              refine wpAnyH_done (by kernel_rfl) ?_ _
              have BW := HB9.out.trans (B5.mono HB9.out.size)
              have O9' := HO9.out.below (B5)
              go_wp2
              refine ⟨?_, ?_⟩
              · exact ⟨4, 4, by omega, rfl, rfl, BW, O9', zero_step hzt.out (.inr HV.out)⟩
              · simp [intOf]
            · have hv' : (o.f != 0) = true := by rw [bne_iff_ne]; exact hv
              have HNB := Lib.hid (nonzero_bare o 3 (by omega) hc hv)
              have hg' : ∀ W, Calls Tryd.prog 32 #[.agg #[.int .i64 o.k, .int .i64 o.a, .int .i64 o.b, .int .i64 o.c, .int .i64 o.f, .int .i64 o.s, .int .i64 o.x, .int .i64 o.y], .int .u8 (letterN 3).toNat] W fun e w' => e = .returned (.int .i64 o.f) ∧ Below W.heap.size W w' := HG.out
              replace HG := Lib.hid hg'
              clear hv hc hg'
              go_wp2_with fail
              refine wp_region_held_drew (S := fun A => OpAt A w.heap.size o) (by kernel_rfl) HO9.out.drew (fun hHeld => ?_)
              (refine wpAnyH_take (i := 0) (oi := ?oib3_0) (v := ?vb3_0) ?hib3_0 ?hsb3_0 ?hfb3_0 ?hrb3_0 ?hQb3_0 ?hyb3_0 ?hSb3_0 ?hb3_0)
              (case hib3_0 => rfl)
              (case hsb3_0 => kernel_rfl)
              (case hfb3_0 => kernel_rfl)
              (case hrb3_0 => kernel_rfl)
              (case hQb3_0 => first | exact fun _ _ _ h => h | exact fun _ _ _ h => (nomatch h.1))
              (case hSb3_0 => assumption)
              (case hyb3_0 => (refine Or.inl ⟨by rfl, ?_⟩; intro W hW; skip; go_simp; try with_reducible rfl))
              (try simp only [List.getElem_toArray, List.getElem_cons_succ, List.getElem_cons_zero, Act.put, List.setIfInBounds_toArray, List.set_cons_zero, List.set_cons_succ])
              (refine wpAnyH_take (i := 2) (oi := ?oib3_2) (v := ?vb3_2) ?hib3_2 ?hsb3_2 ?hfb3_2 ?hrb3_2 ?hQb3_2 ?hyb3_2 ?hSb3_2 ?hb3_2)
              (case hib3_2 => rfl)
              (case hsb3_2 => kernel_rfl)
              (case hfb3_2 => kernel_rfl)
              (case hrb3_2 => kernel_rfl)
              (case hQb3_2 => first | exact fun _ _ _ h => h | exact fun _ _ _ h => (nomatch h.1))
              (case hSb3_2 => assumption)
              (case hyb3_2 => (refine Or.inl ⟨by rfl, ?_⟩; intro W hW; skip; go_simp; try with_reducible rfl))
              (try simp only [List.getElem_toArray, List.getElem_cons_succ, List.getElem_cons_zero, Act.put, List.setIfInBounds_toArray, List.set_cons_zero, List.set_cons_succ])
              (refine wpAnyH_take (i := 3) (oi := ?oib3_3) (v := ?vb3_3) ?hib3_3 ?hsb3_3 ?hfb3_3 ?hrb3_3 ?hQb3_3 ?hyb3_3 ?hSb3_3 ?hb3_3)
              (case hib3_3 => rfl)
              (case hsb3_3 => kernel_rfl)
              (case hfb3_3 => kernel_rfl)
              (case hrb3_3 => kernel_rfl)
              (case hQb3_3 => first | exact fun _ _ _ h => h | exact fun _ _ _ h => (nomatch h.1))
              (case hSb3_3 => assumption)
              (case hyb3_3 => (refine Or.inl ⟨by rfl, ?_⟩; intro W hW; skip; go_simp; try with_reducible rfl))
              (try simp only [List.getElem_toArray, List.getElem_cons_succ, List.getElem_cons_zero, Act.put, List.setIfInBounds_toArray, List.set_cons_zero, List.set_cons_succ])
              (refine wpAnyH_take (i := 4) (oi := ?oib3_4) (v := ?vb3_4) ?hib3_4 ?hsb3_4 ?hfb3_4 ?hrb3_4 ?hQb3_4 ?hyb3_4 ?hSb3_4 ?hb3_4)
              (case hib3_4 => rfl)
              (case hsb3_4 => kernel_rfl)
              (case hfb3_4 => kernel_rfl)
              (case hrb3_4 => kernel_rfl)
              (case hQb3_4 => first | exact fun _ _ _ h => h | exact fun _ _ _ h => (nomatch h.1))
              (case hSb3_4 => assumption)
              (case hyb3_4 => (refine Or.inl ⟨by rfl, ?_⟩; intro W hW; skip; go_simp; try with_reducible rfl))
              (try simp only [List.getElem_toArray, List.getElem_cons_succ, List.getElem_cons_zero, Act.put, List.setIfInBounds_toArray, List.set_cons_zero, List.set_cons_succ])
              refine wpAnyH_ready (rs := [1]) (by kernel_rfl) (by simp) ?_
              refine AllReadyH.cons rfl (fun K hK => ?_) (AllReadyH.nil)
              go_simp
              refine (refNames_calls o.k _).mono ?_
              rintro e3 w3 ⟨rfl, hb3⟩
              have B3 : Below wr.heap.size wr w3 := (Below.refl _ _).drew.trans hb3
              refine hK.out _ _ (by exact hHeld.below hb3) (fun hHeld1 => ?_)
              clear hK K hHeld hb3
              try simp only [List.getElem_toArray, List.getElem_cons_succ, List.getElem_cons_zero, Act.put, List.setIfInBounds_toArray, List.set_cons_zero, List.set_cons_succ]
              refine wpAnyH_ready (rs := [5]) (by kernel_rfl) (by simp) ?_
              refine AllReadyH.cons rfl (fun K hK => ?_) (AllReadyH.nil)
              go_simp
              refine (HN.out _).mono ?_
              rintro e4 w4 ⟨rfl, hb4⟩
              have B4 := B3.trans (hb4.mono B3.size)
              refine hK.out _ _ (by exact hHeld1.below hb4) (fun hHeld2 => ?_)
              clear hK K hHeld1 hb4
              try simp only [List.getElem_toArray, List.getElem_cons_succ, List.getElem_cons_zero, Act.put, List.setIfInBounds_toArray, List.set_cons_zero, List.set_cons_succ]
              (refine wpAnyH_take (i := 6) (oi := ?oib3_6) (v := ?vb3_6) ?hib3_6 ?hsb3_6 ?hfb3_6 ?hrb3_6 ?hQb3_6 ?hyb3_6 ?hSb3_6 ?hb3_6)
              (case hib3_6 => rfl)
              (case hsb3_6 => kernel_rfl)
              (case hfb3_6 => kernel_rfl)
              (case hrb3_6 => kernel_rfl)
              (case hQb3_6 => first | exact fun _ _ _ h => h | exact fun _ _ _ h => (nomatch h.1))
              (case hSb3_6 => assumption)
              (case hyb3_6 => (refine Or.inl ⟨by rfl, ?_⟩; intro W hW; skip; go_simp; try with_reducible rfl))
              (try simp only [List.getElem_toArray, List.getElem_cons_succ, List.getElem_cons_zero, Act.put, List.setIfInBounds_toArray, List.set_cons_zero, List.set_cons_succ])
              (refine wpAnyH_take (i := 7) (oi := ?oib3_7) (v := ?vb3_7) ?hib3_7 ?hsb3_7 ?hfb3_7 ?hrb3_7 ?hQb3_7 ?hyb3_7 ?hSb3_7 ?hb3_7)
              (case hib3_7 => rfl)
              (case hsb3_7 => kernel_rfl)
              (case hfb3_7 => kernel_rfl)
              (case hrb3_7 => kernel_rfl)
              (case hQb3_7 => first | exact fun _ _ _ h => h | exact fun _ _ _ h => (nomatch h.1))
              (case hSb3_7 => assumption)
              (case hyb3_7 => (refine Or.inl ⟨by rfl, ?_⟩; intro W hW; skip; go_simp; try with_reducible rfl))
              (try simp only [List.getElem_toArray, List.getElem_cons_succ, List.getElem_cons_zero, Act.put, List.setIfInBounds_toArray, List.set_cons_zero, List.set_cons_succ])
              (refine wpAnyH_take (i := 8) (oi := ?oib3_8) (v := ?vb3_8) ?hib3_8 ?hsb3_8 ?hfb3_8 ?hrb3_8 ?hQb3_8 ?hyb3_8 ?hSb3_8 ?hb3_8)
              (case hib3_8 => rfl)
              (case hsb3_8 => kernel_rfl)
              (case hfb3_8 => kernel_rfl)
              (case hrb3_8 => kernel_rfl)
              (case hQb3_8 => first | exact fun _ _ _ h => h | exact fun _ _ _ h => (nomatch h.1))
              (case hSb3_8 => assumption)
              (case hyb3_8 => (refine Or.inl ⟨by rfl, ?_⟩; intro W hW; obtain ⟨q1, q2, q3, q4, q5, q6, q7, q8, q9, qf⟩ := hW; go_simp; try with_reducible rfl))
              (try simp only [List.getElem_toArray, List.getElem_cons_succ, List.getElem_cons_zero, Act.put, List.setIfInBounds_toArray, List.set_cons_zero, List.set_cons_succ])
              (refine wpAnyH_take (i := 9) (oi := ?oib3_9) (v := ?vb3_9) ?hib3_9 ?hsb3_9 ?hfb3_9 ?hrb3_9 ?hQb3_9 ?hyb3_9 ?hSb3_9 ?hb3_9)
              (case hib3_9 => rfl)
              (case hsb3_9 => kernel_rfl)
              (case hfb3_9 => kernel_rfl)
              (case hrb3_9 => kernel_rfl)
              (case hQb3_9 => first | exact fun _ _ _ h => h | exact fun _ _ _ h => (nomatch h.1))
              (case hSb3_9 => assumption)
              (case hyb3_9 => (refine Or.inl ⟨by rfl, ?_⟩; intro W hW; skip; go_simp; try with_reducible rfl))
              (try simp only [List.getElem_toArray, List.getElem_cons_succ, List.getElem_cons_zero, Act.put, List.setIfInBounds_toArray, List.set_cons_zero, List.set_cons_succ])
              (refine wpAnyH_take (i := 10) (oi := ?oib3_10) (v := ?vb3_10) ?hib3_10 ?hsb3_10 ?hfb3_10 ?hrb3_10 ?hQb3_10 ?hyb3_10 ?hSb3_10 ?hb3_10)
              (case hib3_10 => rfl)
              (case hsb3_10 => kernel_rfl)
              (case hfb3_10 => kernel_rfl)
              (case hrb3_10 => kernel_rfl)
              (case hQb3_10 => first | exact fun _ _ _ h => h | exact fun _ _ _ h => (nomatch h.1))
              (case hSb3_10 => assumption)
              (case hyb3_10 => (refine Or.inl ⟨by rfl, ?_⟩; intro W hW; skip; go_simp; try with_reducible rfl))
              (try simp only [List.getElem_toArray, List.getElem_cons_succ, List.getElem_cons_zero, Act.put, List.setIfInBounds_toArray, List.set_cons_zero, List.set_cons_succ])
              (refine wpAnyH_take (i := 11) (oi := ?oib3_11) (v := ?vb3_11) ?hib3_11 ?hsb3_11 ?hfb3_11 ?hrb3_11 ?hQb3_11 ?hyb3_11 ?hSb3_11 ?hb3_11)
              (case hib3_11 => rfl)
              (case hsb3_11 => kernel_rfl)
              (case hfb3_11 => kernel_rfl)
              (case hrb3_11 => kernel_rfl)
              (case hQb3_11 => first | exact fun _ _ _ h => h | exact fun _ _ _ h => (nomatch h.1))
              (case hSb3_11 => assumption)
              (case hyb3_11 => (refine Or.inl ⟨by rfl, ?_⟩; intro W hW; skip; go_simp; try with_reducible rfl))
              (try simp only [List.getElem_toArray, List.getElem_cons_succ, List.getElem_cons_zero, Act.put, List.setIfInBounds_toArray, List.set_cons_zero, List.set_cons_succ])
              refine wpAnyH_ready (rs := [12]) (by kernel_rfl) (by simp) ?_
              refine AllReadyH.cons rfl (fun K hK => ?_) (AllReadyH.nil)
              go_simp
              refine (HG.out _).mono ?_
              rintro e5 w5 ⟨rfl, hb5⟩
              have B5 := B4.trans (hb5.mono B4.size)
              refine hK.out _ _ (by exact hHeld2.below hb5) (fun hHeld3 => ?_)
              clear hK K hHeld2 hb5
              try simp only [List.getElem_toArray, List.getElem_cons_succ, List.getElem_cons_zero, Act.put, List.setIfInBounds_toArray, List.set_cons_zero, List.set_cons_succ]
              (refine wpAnyH_take (i := 13) (oi := ?oib3_13) (v := ?vb3_13) ?hib3_13 ?hsb3_13 ?hfb3_13 ?hrb3_13 ?hQb3_13 ?hyb3_13 ?hSb3_13 ?hb3_13)
              (case hib3_13 => rfl)
              (case hsb3_13 => kernel_rfl)
              (case hfb3_13 => kernel_rfl)
              (case hrb3_13 => kernel_rfl)
              (case hQb3_13 => first | exact fun _ _ _ h => h | exact fun _ _ _ h => (nomatch h.1))
              (case hSb3_13 => assumption)
              (case hyb3_13 => (refine Or.inl ⟨by rfl, ?_⟩; intro W hW; skip; go_simp; try with_reducible rfl))
              (try simp only [List.getElem_toArray, List.getElem_cons_succ, List.getElem_cons_zero, Act.put, List.setIfInBounds_toArray, List.set_cons_zero, List.set_cons_succ])
              (refine wpAnyH_take (i := 14) (oi := ?oib3_14) (v := ?vb3_14) ?hib3_14 ?hsb3_14 ?hfb3_14 ?hrb3_14 ?hQb3_14 ?hyb3_14 ?hSb3_14 ?hb3_14)
              (case hib3_14 => rfl)
              (case hsb3_14 => kernel_rfl)
              (case hfb3_14 => kernel_rfl)
              (case hrb3_14 => kernel_rfl)
              (case hQb3_14 => first | exact fun _ _ _ h => h | exact fun _ _ _ h => (nomatch h.1))
              (case hSb3_14 => assumption)
              (case hyb3_14 => (refine Or.inl ⟨by rfl, ?_⟩; intro W hW; skip; go_simp; try with_reducible rfl))
              (try simp only [List.getElem_toArray, List.getElem_cons_succ, List.getElem_cons_zero, Act.put, List.setIfInBounds_toArray, List.set_cons_zero, List.set_cons_succ])
              refine wpAnyH_done (by kernel_rfl) ?_ _
              have BW := HB9.out.trans (B5.mono HB9.out.size)
              go_wp2
              go_ret
              exact ⟨by rw [HNB.out]; rfl, BW⟩
        · obtain rfl : t = 4 := by omega
          clear ht hlt
          have HN := Lib.hid (fun W => named_calls o.k 4 (by omega) W)
          cases hc : (opNames o.k).contains 4 with
          | true =>
            rw [hc] at HN
            have HC := Lib.hid hc
            clear hc
            go_wp2_with fail
            refine wp_region_held_drew (S := fun A => OpAt A w.heap.size o) (by kernel_rfl) HO9.out.drew (fun hHeld => ?_)
            (refine wpAnyH_take (i := 0) (oi := ?oin4_0) (v := ?vn4_0) ?hin4_0 ?hsn4_0 ?hfn4_0 ?hrn4_0 ?hQn4_0 ?hyn4_0 ?hSn4_0 ?hn4_0)
            (case hin4_0 => rfl)
            (case hsn4_0 => kernel_rfl)
            (case hfn4_0 => kernel_rfl)
            (case hrn4_0 => kernel_rfl)
            (case hQn4_0 => first | exact fun _ _ _ h => h | exact fun _ _ _ h => (nomatch h.1))
            (case hSn4_0 => assumption)
            (case hyn4_0 => (refine Or.inl ⟨by rfl, ?_⟩; intro W hW; skip; go_simp; try with_reducible rfl))
            (try simp only [List.getElem_toArray, List.getElem_cons_succ, List.getElem_cons_zero, Act.put, List.setIfInBounds_toArray, List.set_cons_zero, List.set_cons_succ])
            (refine wpAnyH_take (i := 2) (oi := ?oin4_2) (v := ?vn4_2) ?hin4_2 ?hsn4_2 ?hfn4_2 ?hrn4_2 ?hQn4_2 ?hyn4_2 ?hSn4_2 ?hn4_2)
            (case hin4_2 => rfl)
            (case hsn4_2 => kernel_rfl)
            (case hfn4_2 => kernel_rfl)
            (case hrn4_2 => kernel_rfl)
            (case hQn4_2 => first | exact fun _ _ _ h => h | exact fun _ _ _ h => (nomatch h.1))
            (case hSn4_2 => assumption)
            (case hyn4_2 => (refine Or.inl ⟨by rfl, ?_⟩; intro W hW; skip; go_simp; try with_reducible rfl))
            (try simp only [List.getElem_toArray, List.getElem_cons_succ, List.getElem_cons_zero, Act.put, List.setIfInBounds_toArray, List.set_cons_zero, List.set_cons_succ])
            (refine wpAnyH_take (i := 3) (oi := ?oin4_3) (v := ?vn4_3) ?hin4_3 ?hsn4_3 ?hfn4_3 ?hrn4_3 ?hQn4_3 ?hyn4_3 ?hSn4_3 ?hn4_3)
            (case hin4_3 => rfl)
            (case hsn4_3 => kernel_rfl)
            (case hfn4_3 => kernel_rfl)
            (case hrn4_3 => kernel_rfl)
            (case hQn4_3 => first | exact fun _ _ _ h => h | exact fun _ _ _ h => (nomatch h.1))
            (case hSn4_3 => assumption)
            (case hyn4_3 => (refine Or.inl ⟨by rfl, ?_⟩; intro W hW; skip; go_simp; try with_reducible rfl))
            (try simp only [List.getElem_toArray, List.getElem_cons_succ, List.getElem_cons_zero, Act.put, List.setIfInBounds_toArray, List.set_cons_zero, List.set_cons_succ])
            (refine wpAnyH_take (i := 4) (oi := ?oin4_4) (v := ?vn4_4) ?hin4_4 ?hsn4_4 ?hfn4_4 ?hrn4_4 ?hQn4_4 ?hyn4_4 ?hSn4_4 ?hn4_4)
            (case hin4_4 => rfl)
            (case hsn4_4 => kernel_rfl)
            (case hfn4_4 => kernel_rfl)
            (case hrn4_4 => kernel_rfl)
            (case hQn4_4 => first | exact fun _ _ _ h => h | exact fun _ _ _ h => (nomatch h.1))
            (case hSn4_4 => assumption)
            (case hyn4_4 => (refine Or.inl ⟨by rfl, ?_⟩; intro W hW; skip; go_simp; try with_reducible rfl))
            (try simp only [List.getElem_toArray, List.getElem_cons_succ, List.getElem_cons_zero, Act.put, List.setIfInBounds_toArray, List.set_cons_zero, List.set_cons_succ])
            refine wpAnyH_ready (rs := [1]) (by kernel_rfl) (by simp) ?_
            refine AllReadyH.cons rfl (fun K hK => ?_) (AllReadyH.nil)
            go_simp
            refine (refNames_calls o.k _).mono ?_
            rintro e3 w3 ⟨rfl, hb3⟩
            have B3 : Below wr.heap.size wr w3 := (Below.refl _ _).drew.trans hb3
            refine hK.out _ _ (by exact hHeld.below hb3) (fun hHeld1 => ?_)
            clear hK K hHeld hb3
            try simp only [List.getElem_toArray, List.getElem_cons_succ, List.getElem_cons_zero, Act.put, List.setIfInBounds_toArray, List.set_cons_zero, List.set_cons_succ]
            refine wpAnyH_ready (rs := [5]) (by kernel_rfl) (by simp) ?_
            refine AllReadyH.cons rfl (fun K hK => ?_) (AllReadyH.nil)
            go_simp
            refine (HN.out _).mono ?_
            rintro e4 w4 ⟨rfl, hb4⟩
            have B4 := B3.trans (hb4.mono B3.size)
            refine hK.out _ _ (by exact hHeld1.below hb4) (fun hHeld2 => ?_)
            clear hK K hHeld1 hb4
            try simp only [List.getElem_toArray, List.getElem_cons_succ, List.getElem_cons_zero, Act.put, List.setIfInBounds_toArray, List.set_cons_zero, List.set_cons_succ]
            (refine wpAnyH_take (i := 6) (oi := ?oin4_6) (v := ?vn4_6) ?hin4_6 ?hsn4_6 ?hfn4_6 ?hrn4_6 ?hQn4_6 ?hyn4_6 ?hSn4_6 ?hn4_6)
            (case hin4_6 => rfl)
            (case hsn4_6 => kernel_rfl)
            (case hfn4_6 => kernel_rfl)
            (case hrn4_6 => kernel_rfl)
            (case hQn4_6 => first | exact fun _ _ _ h => h | exact fun _ _ _ h => (nomatch h.1))
            (case hSn4_6 => assumption)
            (case hyn4_6 => (refine Or.inl ⟨by rfl, ?_⟩; intro W hW; skip; go_simp; try with_reducible rfl))
            (try simp only [List.getElem_toArray, List.getElem_cons_succ, List.getElem_cons_zero, Act.put, List.setIfInBounds_toArray, List.set_cons_zero, List.set_cons_succ])
            (refine wpAnyH_take (i := 7) (oi := ?oin4_7) (v := ?vn4_7) ?hin4_7 ?hsn4_7 ?hfn4_7 ?hrn4_7 ?hQn4_7 ?hyn4_7 ?hSn4_7 ?hn4_7)
            (case hin4_7 => rfl)
            (case hsn4_7 => kernel_rfl)
            (case hfn4_7 => kernel_rfl)
            (case hrn4_7 => kernel_rfl)
            (case hQn4_7 => first | exact fun _ _ _ h => h | exact fun _ _ _ h => (nomatch h.1))
            (case hSn4_7 => assumption)
            (case hyn4_7 => (refine Or.inl ⟨by rfl, ?_⟩; intro W hW; skip; go_simp; try with_reducible rfl))
            (try simp only [List.getElem_toArray, List.getElem_cons_succ, List.getElem_cons_zero, Act.put, List.setIfInBounds_toArray, List.set_cons_zero, List.set_cons_succ])
            (refine wpAnyH_take (i := 8) (oi := ?oin4_8) (v := undef) ?hin4_8 ?hsn4_8 ?hfn4_8 ?hrn4_8 ?hQn4_8 ?hyn4_8 ?hSn4_8 ?hn4_8)
            (case hin4_8 => rfl)
            (case hsn4_8 => kernel_rfl)
            (case hfn4_8 => kernel_rfl)
            (case hrn4_8 => kernel_rfl)
            (case hQn4_8 => first | exact fun _ _ _ h => h | exact fun _ _ _ h => (nomatch h.1))
            (case hSn4_8 => assumption)
            (case hyn4_8 => exact Or.inr ⟨by rfl, rfl⟩)
            (try simp only [List.getElem_toArray, List.getElem_cons_succ, List.getElem_cons_zero, Act.put, List.setIfInBounds_toArray, List.set_cons_zero, List.set_cons_succ])
            (refine wpAnyH_take (i := 9) (oi := ?oin4_9) (v := undef) ?hin4_9 ?hsn4_9 ?hfn4_9 ?hrn4_9 ?hQn4_9 ?hyn4_9 ?hSn4_9 ?hn4_9)
            (case hin4_9 => rfl)
            (case hsn4_9 => kernel_rfl)
            (case hfn4_9 => kernel_rfl)
            (case hrn4_9 => kernel_rfl)
            (case hQn4_9 => first | exact fun _ _ _ h => h | exact fun _ _ _ h => (nomatch h.1))
            (case hSn4_9 => assumption)
            (case hyn4_9 => exact Or.inr ⟨by rfl, rfl⟩)
            (try simp only [List.getElem_toArray, List.getElem_cons_succ, List.getElem_cons_zero, Act.put, List.setIfInBounds_toArray, List.set_cons_zero, List.set_cons_succ])
            (refine wpAnyH_take (i := 10) (oi := ?oin4_10) (v := undef) ?hin4_10 ?hsn4_10 ?hfn4_10 ?hrn4_10 ?hQn4_10 ?hyn4_10 ?hSn4_10 ?hn4_10)
            (case hin4_10 => rfl)
            (case hsn4_10 => kernel_rfl)
            (case hfn4_10 => kernel_rfl)
            (case hrn4_10 => kernel_rfl)
            (case hQn4_10 => first | exact fun _ _ _ h => h | exact fun _ _ _ h => (nomatch h.1))
            (case hSn4_10 => assumption)
            (case hyn4_10 => exact Or.inr ⟨by rfl, rfl⟩)
            (try simp only [List.getElem_toArray, List.getElem_cons_succ, List.getElem_cons_zero, Act.put, List.setIfInBounds_toArray, List.set_cons_zero, List.set_cons_succ])
            (refine wpAnyH_take (i := 11) (oi := ?oin4_11) (v := undef) ?hin4_11 ?hsn4_11 ?hfn4_11 ?hrn4_11 ?hQn4_11 ?hyn4_11 ?hSn4_11 ?hn4_11)
            (case hin4_11 => rfl)
            (case hsn4_11 => kernel_rfl)
            (case hfn4_11 => kernel_rfl)
            (case hrn4_11 => kernel_rfl)
            (case hQn4_11 => first | exact fun _ _ _ h => h | exact fun _ _ _ h => (nomatch h.1))
            (case hSn4_11 => assumption)
            (case hyn4_11 => exact Or.inr ⟨by rfl, rfl⟩)
            (try simp only [List.getElem_toArray, List.getElem_cons_succ, List.getElem_cons_zero, Act.put, List.setIfInBounds_toArray, List.set_cons_zero, List.set_cons_succ])
            (refine wpAnyH_take (i := 12) (oi := ?oin4_12) (v := undef) ?hin4_12 ?hsn4_12 ?hfn4_12 ?hrn4_12 ?hQn4_12 ?hyn4_12 ?hSn4_12 ?hn4_12)
            (case hin4_12 => rfl)
            (case hsn4_12 => kernel_rfl)
            (case hfn4_12 => kernel_rfl)
            (case hrn4_12 => kernel_rfl)
            (case hQn4_12 => first | exact fun _ _ _ h => h | exact fun _ _ _ h => (nomatch h.1))
            (case hSn4_12 => assumption)
            (case hyn4_12 => exact Or.inr ⟨by rfl, rfl⟩)
            (try simp only [List.getElem_toArray, List.getElem_cons_succ, List.getElem_cons_zero, Act.put, List.setIfInBounds_toArray, List.set_cons_zero, List.set_cons_succ])
            (refine wpAnyH_take (i := 13) (oi := ?oin4_13) (v := undef) ?hin4_13 ?hsn4_13 ?hfn4_13 ?hrn4_13 ?hQn4_13 ?hyn4_13 ?hSn4_13 ?hn4_13)
            (case hin4_13 => rfl)
            (case hsn4_13 => kernel_rfl)
            (case hfn4_13 => kernel_rfl)
            (case hrn4_13 => kernel_rfl)
            (case hQn4_13 => first | exact fun _ _ _ h => h | exact fun _ _ _ h => (nomatch h.1))
            (case hSn4_13 => assumption)
            (case hyn4_13 => exact Or.inr ⟨by rfl, rfl⟩)
            (try simp only [List.getElem_toArray, List.getElem_cons_succ, List.getElem_cons_zero, Act.put, List.setIfInBounds_toArray, List.set_cons_zero, List.set_cons_succ])
            (refine wpAnyH_take (i := 14) (oi := ?oin4_14) (v := ?vn4_14) ?hin4_14 ?hsn4_14 ?hfn4_14 ?hrn4_14 ?hQn4_14 ?hyn4_14 ?hSn4_14 ?hn4_14)
            (case hin4_14 => rfl)
            (case hsn4_14 => kernel_rfl)
            (case hfn4_14 => kernel_rfl)
            (case hrn4_14 => kernel_rfl)
            (case hQn4_14 => first | exact fun _ _ _ h => h | exact fun _ _ _ h => (nomatch h.1))
            (case hSn4_14 => assumption)
            (case hyn4_14 => (refine Or.inl ⟨by rfl, ?_⟩; intro W hW; skip; go_simp; try with_reducible rfl))
            (try simp only [List.getElem_toArray, List.getElem_cons_succ, List.getElem_cons_zero, Act.put, List.setIfInBounds_toArray, List.set_cons_zero, List.set_cons_succ])
            refine wpAnyH_done (by kernel_rfl) ?_ _
            have BW := HB9.out.trans (B4.mono HB9.out.size)
            have O9' := HO9.out.below (B4)
            go_wp2
            refine ⟨?_, ?_⟩
            · exact ⟨5, 5, by omega, rfl, rfl, BW, O9', zero_step hzt.out (.inl HC.out)⟩
            · simp [intOf]
          | false =>
            rw [hc] at HN
            have HG := Lib.hid (fun W => get_calls o 4 (by omega) W)
            unfold opVal at HG
            by_cases hv : o.s = 0
            · have hv' : o.get 4 = 0 := hv
              rw [hv'] at HG
              have HV := Lib.hid hv'
              clear hv hv' hc
              go_wp2_with fail
              refine wp_region_held_drew (S := fun A => OpAt A w.heap.size o) (by kernel_rfl) HO9.out.drew (fun hHeld => ?_)
              (refine wpAnyH_take (i := 0) (oi := ?oiz4_0) (v := ?vz4_0) ?hiz4_0 ?hsz4_0 ?hfz4_0 ?hrz4_0 ?hQz4_0 ?hyz4_0 ?hSz4_0 ?hz4_0)
              (case hiz4_0 => rfl)
              (case hsz4_0 => kernel_rfl)
              (case hfz4_0 => kernel_rfl)
              (case hrz4_0 => kernel_rfl)
              (case hQz4_0 => first | exact fun _ _ _ h => h | exact fun _ _ _ h => (nomatch h.1))
              (case hSz4_0 => assumption)
              (case hyz4_0 => (refine Or.inl ⟨by rfl, ?_⟩; intro W hW; skip; go_simp; try with_reducible rfl))
              (try simp only [List.getElem_toArray, List.getElem_cons_succ, List.getElem_cons_zero, Act.put, List.setIfInBounds_toArray, List.set_cons_zero, List.set_cons_succ])
              (refine wpAnyH_take (i := 2) (oi := ?oiz4_2) (v := ?vz4_2) ?hiz4_2 ?hsz4_2 ?hfz4_2 ?hrz4_2 ?hQz4_2 ?hyz4_2 ?hSz4_2 ?hz4_2)
              (case hiz4_2 => rfl)
              (case hsz4_2 => kernel_rfl)
              (case hfz4_2 => kernel_rfl)
              (case hrz4_2 => kernel_rfl)
              (case hQz4_2 => first | exact fun _ _ _ h => h | exact fun _ _ _ h => (nomatch h.1))
              (case hSz4_2 => assumption)
              (case hyz4_2 => (refine Or.inl ⟨by rfl, ?_⟩; intro W hW; skip; go_simp; try with_reducible rfl))
              (try simp only [List.getElem_toArray, List.getElem_cons_succ, List.getElem_cons_zero, Act.put, List.setIfInBounds_toArray, List.set_cons_zero, List.set_cons_succ])
              (refine wpAnyH_take (i := 3) (oi := ?oiz4_3) (v := ?vz4_3) ?hiz4_3 ?hsz4_3 ?hfz4_3 ?hrz4_3 ?hQz4_3 ?hyz4_3 ?hSz4_3 ?hz4_3)
              (case hiz4_3 => rfl)
              (case hsz4_3 => kernel_rfl)
              (case hfz4_3 => kernel_rfl)
              (case hrz4_3 => kernel_rfl)
              (case hQz4_3 => first | exact fun _ _ _ h => h | exact fun _ _ _ h => (nomatch h.1))
              (case hSz4_3 => assumption)
              (case hyz4_3 => (refine Or.inl ⟨by rfl, ?_⟩; intro W hW; skip; go_simp; try with_reducible rfl))
              (try simp only [List.getElem_toArray, List.getElem_cons_succ, List.getElem_cons_zero, Act.put, List.setIfInBounds_toArray, List.set_cons_zero, List.set_cons_succ])
              (refine wpAnyH_take (i := 4) (oi := ?oiz4_4) (v := ?vz4_4) ?hiz4_4 ?hsz4_4 ?hfz4_4 ?hrz4_4 ?hQz4_4 ?hyz4_4 ?hSz4_4 ?hz4_4)
              (case hiz4_4 => rfl)
              (case hsz4_4 => kernel_rfl)
              (case hfz4_4 => kernel_rfl)
              (case hrz4_4 => kernel_rfl)
              (case hQz4_4 => first | exact fun _ _ _ h => h | exact fun _ _ _ h => (nomatch h.1))
              (case hSz4_4 => assumption)
              (case hyz4_4 => (refine Or.inl ⟨by rfl, ?_⟩; intro W hW; skip; go_simp; try with_reducible rfl))
              (try simp only [List.getElem_toArray, List.getElem_cons_succ, List.getElem_cons_zero, Act.put, List.setIfInBounds_toArray, List.set_cons_zero, List.set_cons_succ])
              refine wpAnyH_ready (rs := [1]) (by kernel_rfl) (by simp) ?_
              refine AllReadyH.cons rfl (fun K hK => ?_) (AllReadyH.nil)
              go_simp
              refine (refNames_calls o.k _).mono ?_
              rintro e3 w3 ⟨rfl, hb3⟩
              have B3 : Below wr.heap.size wr w3 := (Below.refl _ _).drew.trans hb3
              refine hK.out _ _ (by exact hHeld.below hb3) (fun hHeld1 => ?_)
              clear hK K hHeld hb3
              try simp only [List.getElem_toArray, List.getElem_cons_succ, List.getElem_cons_zero, Act.put, List.setIfInBounds_toArray, List.set_cons_zero, List.set_cons_succ]
              refine wpAnyH_ready (rs := [5]) (by kernel_rfl) (by simp) ?_
              refine AllReadyH.cons rfl (fun K hK => ?_) (AllReadyH.nil)
              go_simp
              refine (HN.out _).mono ?_
              rintro e4 w4 ⟨rfl, hb4⟩
              have B4 := B3.trans (hb4.mono B3.size)
              refine hK.out _ _ (by exact hHeld1.below hb4) (fun hHeld2 => ?_)
              clear hK K hHeld1 hb4
              try simp only [List.getElem_toArray, List.getElem_cons_succ, List.getElem_cons_zero, Act.put, List.setIfInBounds_toArray, List.set_cons_zero, List.set_cons_succ]
              (refine wpAnyH_take (i := 6) (oi := ?oiz4_6) (v := ?vz4_6) ?hiz4_6 ?hsz4_6 ?hfz4_6 ?hrz4_6 ?hQz4_6 ?hyz4_6 ?hSz4_6 ?hz4_6)
              (case hiz4_6 => rfl)
              (case hsz4_6 => kernel_rfl)
              (case hfz4_6 => kernel_rfl)
              (case hrz4_6 => kernel_rfl)
              (case hQz4_6 => first | exact fun _ _ _ h => h | exact fun _ _ _ h => (nomatch h.1))
              (case hSz4_6 => assumption)
              (case hyz4_6 => (refine Or.inl ⟨by rfl, ?_⟩; intro W hW; skip; go_simp; try with_reducible rfl))
              (try simp only [List.getElem_toArray, List.getElem_cons_succ, List.getElem_cons_zero, Act.put, List.setIfInBounds_toArray, List.set_cons_zero, List.set_cons_succ])
              (refine wpAnyH_take (i := 7) (oi := ?oiz4_7) (v := ?vz4_7) ?hiz4_7 ?hsz4_7 ?hfz4_7 ?hrz4_7 ?hQz4_7 ?hyz4_7 ?hSz4_7 ?hz4_7)
              (case hiz4_7 => rfl)
              (case hsz4_7 => kernel_rfl)
              (case hfz4_7 => kernel_rfl)
              (case hrz4_7 => kernel_rfl)
              (case hQz4_7 => first | exact fun _ _ _ h => h | exact fun _ _ _ h => (nomatch h.1))
              (case hSz4_7 => assumption)
              (case hyz4_7 => (refine Or.inl ⟨by rfl, ?_⟩; intro W hW; skip; go_simp; try with_reducible rfl))
              (try simp only [List.getElem_toArray, List.getElem_cons_succ, List.getElem_cons_zero, Act.put, List.setIfInBounds_toArray, List.set_cons_zero, List.set_cons_succ])
              (refine wpAnyH_take (i := 8) (oi := ?oiz4_8) (v := ?vz4_8) ?hiz4_8 ?hsz4_8 ?hfz4_8 ?hrz4_8 ?hQz4_8 ?hyz4_8 ?hSz4_8 ?hz4_8)
              (case hiz4_8 => rfl)
              (case hsz4_8 => kernel_rfl)
              (case hfz4_8 => kernel_rfl)
              (case hrz4_8 => kernel_rfl)
              (case hQz4_8 => first | exact fun _ _ _ h => h | exact fun _ _ _ h => (nomatch h.1))
              (case hSz4_8 => assumption)
              (case hyz4_8 => (refine Or.inl ⟨by rfl, ?_⟩; intro W hW; obtain ⟨q1, q2, q3, q4, q5, q6, q7, q8, q9, qf⟩ := hW; go_simp; try with_reducible rfl))
              (try simp only [List.getElem_toArray, List.getElem_cons_succ, List.getElem_cons_zero, Act.put, List.setIfInBounds_toArray, List.set_cons_zero, List.set_cons_succ])
              (refine wpAnyH_take (i := 9) (oi := ?oiz4_9) (v := ?vz4_9) ?hiz4_9 ?hsz4_9 ?hfz4_9 ?hrz4_9 ?hQz4_9 ?hyz4_9 ?hSz4_9 ?hz4_9)
              (case hiz4_9 => rfl)
              (case hsz4_9 => kernel_rfl)
              (case hfz4_9 => kernel_rfl)
              (case hrz4_9 => kernel_rfl)
              (case hQz4_9 => first | exact fun _ _ _ h => h | exact fun _ _ _ h => (nomatch h.1))
              (case hSz4_9 => assumption)
              (case hyz4_9 => (refine Or.inl ⟨by rfl, ?_⟩; intro W hW; skip; go_simp; try with_reducible rfl))
              (try simp only [List.getElem_toArray, List.getElem_cons_succ, List.getElem_cons_zero, Act.put, List.setIfInBounds_toArray, List.set_cons_zero, List.set_cons_succ])
              (refine wpAnyH_take (i := 10) (oi := ?oiz4_10) (v := ?vz4_10) ?hiz4_10 ?hsz4_10 ?hfz4_10 ?hrz4_10 ?hQz4_10 ?hyz4_10 ?hSz4_10 ?hz4_10)
              (case hiz4_10 => rfl)
              (case hsz4_10 => kernel_rfl)
              (case hfz4_10 => kernel_rfl)
              (case hrz4_10 => kernel_rfl)
              (case hQz4_10 => first | exact fun _ _ _ h => h | exact fun _ _ _ h => (nomatch h.1))
              (case hSz4_10 => assumption)
              (case hyz4_10 => (refine Or.inl ⟨by rfl, ?_⟩; intro W hW; skip; go_simp; try with_reducible rfl))
              (try simp only [List.getElem_toArray, List.getElem_cons_succ, List.getElem_cons_zero, Act.put, List.setIfInBounds_toArray, List.set_cons_zero, List.set_cons_succ])
              (refine wpAnyH_take (i := 11) (oi := ?oiz4_11) (v := ?vz4_11) ?hiz4_11 ?hsz4_11 ?hfz4_11 ?hrz4_11 ?hQz4_11 ?hyz4_11 ?hSz4_11 ?hz4_11)
              (case hiz4_11 => rfl)
              (case hsz4_11 => kernel_rfl)
              (case hfz4_11 => kernel_rfl)
              (case hrz4_11 => kernel_rfl)
              (case hQz4_11 => first | exact fun _ _ _ h => h | exact fun _ _ _ h => (nomatch h.1))
              (case hSz4_11 => assumption)
              (case hyz4_11 => (refine Or.inl ⟨by rfl, ?_⟩; intro W hW; skip; go_simp; try with_reducible rfl))
              (try simp only [List.getElem_toArray, List.getElem_cons_succ, List.getElem_cons_zero, Act.put, List.setIfInBounds_toArray, List.set_cons_zero, List.set_cons_succ])
              refine wpAnyH_ready (rs := [12]) (by kernel_rfl) (by simp) ?_
              refine AllReadyH.cons rfl (fun K hK => ?_) (AllReadyH.nil)
              go_simp
              refine (HG.out _).mono ?_
              rintro e5 w5 ⟨rfl, hb5⟩
              have B5 := B4.trans (hb5.mono B4.size)
              refine hK.out _ _ (by exact hHeld2.below hb5) (fun hHeld3 => ?_)
              clear hK K hHeld2 hb5
              try simp only [List.getElem_toArray, List.getElem_cons_succ, List.getElem_cons_zero, Act.put, List.setIfInBounds_toArray, List.set_cons_zero, List.set_cons_succ]
              (refine wpAnyH_take (i := 13) (oi := ?oiz4_13) (v := ?vz4_13) ?hiz4_13 ?hsz4_13 ?hfz4_13 ?hrz4_13 ?hQz4_13 ?hyz4_13 ?hSz4_13 ?hz4_13)
              (case hiz4_13 => rfl)
              (case hsz4_13 => kernel_rfl)
              (case hfz4_13 => kernel_rfl)
              (case hrz4_13 => kernel_rfl)
              (case hQz4_13 => first | exact fun _ _ _ h => h | exact fun _ _ _ h => (nomatch h.1))
              (case hSz4_13 => assumption)
              (case hyz4_13 => (refine Or.inl ⟨by rfl, ?_⟩; intro W hW; skip; go_simp; try with_reducible rfl))
              (try simp only [List.getElem_toArray, List.getElem_cons_succ, List.getElem_cons_zero, Act.put, List.setIfInBounds_toArray, List.set_cons_zero, List.set_cons_succ])
              (refine wpAnyH_take (i := 14) (oi := ?oiz4_14) (v := ?vz4_14) ?hiz4_14 ?hsz4_14 ?hfz4_14 ?hrz4_14 ?hQz4_14 ?hyz4_14 ?hSz4_14 ?hz4_14)
              (case hiz4_14 => rfl)
              (case hsz4_14 => kernel_rfl)
              (case hfz4_14 => kernel_rfl)
              (case hrz4_14 => kernel_rfl)
              (case hQz4_14 => first | exact fun _ _ _ h => h | exact fun _ _ _ h => (nomatch h.1))
              (case hSz4_14 => assumption)
              (case hyz4_14 => (refine Or.inl ⟨by rfl, ?_⟩; intro W hW; skip; go_simp; try with_reducible rfl))
              (try simp only [List.getElem_toArray, List.getElem_cons_succ, List.getElem_cons_zero, Act.put, List.setIfInBounds_toArray, List.set_cons_zero, List.set_cons_succ])
              refine wpAnyH_done (by kernel_rfl) ?_ _
              have BW := HB9.out.trans (B5.mono HB9.out.size)
              have O9' := HO9.out.below (B5)
              go_wp2
              refine ⟨?_, ?_⟩
              · exact ⟨5, 5, by omega, rfl, rfl, BW, O9', zero_step hzt.out (.inr HV.out)⟩
              · simp [intOf]
            · have hv' : (o.s != 0) = true := by rw [bne_iff_ne]; exact hv
              have HNB := Lib.hid (nonzero_bare o 4 (by omega) hc hv)
              have hg' : ∀ W, Calls Tryd.prog 32 #[.agg #[.int .i64 o.k, .int .i64 o.a, .int .i64 o.b, .int .i64 o.c, .int .i64 o.f, .int .i64 o.s, .int .i64 o.x, .int .i64 o.y], .int .u8 (letterN 4).toNat] W fun e w' => e = .returned (.int .i64 o.s) ∧ Below W.heap.size W w' := HG.out
              replace HG := Lib.hid hg'
              clear hv hc hg'
              go_wp2_with fail
              refine wp_region_held_drew (S := fun A => OpAt A w.heap.size o) (by kernel_rfl) HO9.out.drew (fun hHeld => ?_)
              (refine wpAnyH_take (i := 0) (oi := ?oib4_0) (v := ?vb4_0) ?hib4_0 ?hsb4_0 ?hfb4_0 ?hrb4_0 ?hQb4_0 ?hyb4_0 ?hSb4_0 ?hb4_0)
              (case hib4_0 => rfl)
              (case hsb4_0 => kernel_rfl)
              (case hfb4_0 => kernel_rfl)
              (case hrb4_0 => kernel_rfl)
              (case hQb4_0 => first | exact fun _ _ _ h => h | exact fun _ _ _ h => (nomatch h.1))
              (case hSb4_0 => assumption)
              (case hyb4_0 => (refine Or.inl ⟨by rfl, ?_⟩; intro W hW; skip; go_simp; try with_reducible rfl))
              (try simp only [List.getElem_toArray, List.getElem_cons_succ, List.getElem_cons_zero, Act.put, List.setIfInBounds_toArray, List.set_cons_zero, List.set_cons_succ])
              (refine wpAnyH_take (i := 2) (oi := ?oib4_2) (v := ?vb4_2) ?hib4_2 ?hsb4_2 ?hfb4_2 ?hrb4_2 ?hQb4_2 ?hyb4_2 ?hSb4_2 ?hb4_2)
              (case hib4_2 => rfl)
              (case hsb4_2 => kernel_rfl)
              (case hfb4_2 => kernel_rfl)
              (case hrb4_2 => kernel_rfl)
              (case hQb4_2 => first | exact fun _ _ _ h => h | exact fun _ _ _ h => (nomatch h.1))
              (case hSb4_2 => assumption)
              (case hyb4_2 => (refine Or.inl ⟨by rfl, ?_⟩; intro W hW; skip; go_simp; try with_reducible rfl))
              (try simp only [List.getElem_toArray, List.getElem_cons_succ, List.getElem_cons_zero, Act.put, List.setIfInBounds_toArray, List.set_cons_zero, List.set_cons_succ])
              (refine wpAnyH_take (i := 3) (oi := ?oib4_3) (v := ?vb4_3) ?hib4_3 ?hsb4_3 ?hfb4_3 ?hrb4_3 ?hQb4_3 ?hyb4_3 ?hSb4_3 ?hb4_3)
              (case hib4_3 => rfl)
              (case hsb4_3 => kernel_rfl)
              (case hfb4_3 => kernel_rfl)
              (case hrb4_3 => kernel_rfl)
              (case hQb4_3 => first | exact fun _ _ _ h => h | exact fun _ _ _ h => (nomatch h.1))
              (case hSb4_3 => assumption)
              (case hyb4_3 => (refine Or.inl ⟨by rfl, ?_⟩; intro W hW; skip; go_simp; try with_reducible rfl))
              (try simp only [List.getElem_toArray, List.getElem_cons_succ, List.getElem_cons_zero, Act.put, List.setIfInBounds_toArray, List.set_cons_zero, List.set_cons_succ])
              (refine wpAnyH_take (i := 4) (oi := ?oib4_4) (v := ?vb4_4) ?hib4_4 ?hsb4_4 ?hfb4_4 ?hrb4_4 ?hQb4_4 ?hyb4_4 ?hSb4_4 ?hb4_4)
              (case hib4_4 => rfl)
              (case hsb4_4 => kernel_rfl)
              (case hfb4_4 => kernel_rfl)
              (case hrb4_4 => kernel_rfl)
              (case hQb4_4 => first | exact fun _ _ _ h => h | exact fun _ _ _ h => (nomatch h.1))
              (case hSb4_4 => assumption)
              (case hyb4_4 => (refine Or.inl ⟨by rfl, ?_⟩; intro W hW; skip; go_simp; try with_reducible rfl))
              (try simp only [List.getElem_toArray, List.getElem_cons_succ, List.getElem_cons_zero, Act.put, List.setIfInBounds_toArray, List.set_cons_zero, List.set_cons_succ])
              refine wpAnyH_ready (rs := [1]) (by kernel_rfl) (by simp) ?_
              refine AllReadyH.cons rfl (fun K hK => ?_) (AllReadyH.nil)
              go_simp
              refine (refNames_calls o.k _).mono ?_
              rintro e3 w3 ⟨rfl, hb3⟩
              have B3 : Below wr.heap.size wr w3 := (Below.refl _ _).drew.trans hb3
              refine hK.out _ _ (by exact hHeld.below hb3) (fun hHeld1 => ?_)
              clear hK K hHeld hb3
              try simp only [List.getElem_toArray, List.getElem_cons_succ, List.getElem_cons_zero, Act.put, List.setIfInBounds_toArray, List.set_cons_zero, List.set_cons_succ]
              refine wpAnyH_ready (rs := [5]) (by kernel_rfl) (by simp) ?_
              refine AllReadyH.cons rfl (fun K hK => ?_) (AllReadyH.nil)
              go_simp
              refine (HN.out _).mono ?_
              rintro e4 w4 ⟨rfl, hb4⟩
              have B4 := B3.trans (hb4.mono B3.size)
              refine hK.out _ _ (by exact hHeld1.below hb4) (fun hHeld2 => ?_)
              clear hK K hHeld1 hb4
              try simp only [List.getElem_toArray, List.getElem_cons_succ, List.getElem_cons_zero, Act.put, List.setIfInBounds_toArray, List.set_cons_zero, List.set_cons_succ]
              (refine wpAnyH_take (i := 6) (oi := ?oib4_6) (v := ?vb4_6) ?hib4_6 ?hsb4_6 ?hfb4_6 ?hrb4_6 ?hQb4_6 ?hyb4_6 ?hSb4_6 ?hb4_6)
              (case hib4_6 => rfl)
              (case hsb4_6 => kernel_rfl)
              (case hfb4_6 => kernel_rfl)
              (case hrb4_6 => kernel_rfl)
              (case hQb4_6 => first | exact fun _ _ _ h => h | exact fun _ _ _ h => (nomatch h.1))
              (case hSb4_6 => assumption)
              (case hyb4_6 => (refine Or.inl ⟨by rfl, ?_⟩; intro W hW; skip; go_simp; try with_reducible rfl))
              (try simp only [List.getElem_toArray, List.getElem_cons_succ, List.getElem_cons_zero, Act.put, List.setIfInBounds_toArray, List.set_cons_zero, List.set_cons_succ])
              (refine wpAnyH_take (i := 7) (oi := ?oib4_7) (v := ?vb4_7) ?hib4_7 ?hsb4_7 ?hfb4_7 ?hrb4_7 ?hQb4_7 ?hyb4_7 ?hSb4_7 ?hb4_7)
              (case hib4_7 => rfl)
              (case hsb4_7 => kernel_rfl)
              (case hfb4_7 => kernel_rfl)
              (case hrb4_7 => kernel_rfl)
              (case hQb4_7 => first | exact fun _ _ _ h => h | exact fun _ _ _ h => (nomatch h.1))
              (case hSb4_7 => assumption)
              (case hyb4_7 => (refine Or.inl ⟨by rfl, ?_⟩; intro W hW; skip; go_simp; try with_reducible rfl))
              (try simp only [List.getElem_toArray, List.getElem_cons_succ, List.getElem_cons_zero, Act.put, List.setIfInBounds_toArray, List.set_cons_zero, List.set_cons_succ])
              (refine wpAnyH_take (i := 8) (oi := ?oib4_8) (v := ?vb4_8) ?hib4_8 ?hsb4_8 ?hfb4_8 ?hrb4_8 ?hQb4_8 ?hyb4_8 ?hSb4_8 ?hb4_8)
              (case hib4_8 => rfl)
              (case hsb4_8 => kernel_rfl)
              (case hfb4_8 => kernel_rfl)
              (case hrb4_8 => kernel_rfl)
              (case hQb4_8 => first | exact fun _ _ _ h => h | exact fun _ _ _ h => (nomatch h.1))
              (case hSb4_8 => assumption)
              (case hyb4_8 => (refine Or.inl ⟨by rfl, ?_⟩; intro W hW; obtain ⟨q1, q2, q3, q4, q5, q6, q7, q8, q9, qf⟩ := hW; go_simp; try with_reducible rfl))
              (try simp only [List.getElem_toArray, List.getElem_cons_succ, List.getElem_cons_zero, Act.put, List.setIfInBounds_toArray, List.set_cons_zero, List.set_cons_succ])
              (refine wpAnyH_take (i := 9) (oi := ?oib4_9) (v := ?vb4_9) ?hib4_9 ?hsb4_9 ?hfb4_9 ?hrb4_9 ?hQb4_9 ?hyb4_9 ?hSb4_9 ?hb4_9)
              (case hib4_9 => rfl)
              (case hsb4_9 => kernel_rfl)
              (case hfb4_9 => kernel_rfl)
              (case hrb4_9 => kernel_rfl)
              (case hQb4_9 => first | exact fun _ _ _ h => h | exact fun _ _ _ h => (nomatch h.1))
              (case hSb4_9 => assumption)
              (case hyb4_9 => (refine Or.inl ⟨by rfl, ?_⟩; intro W hW; skip; go_simp; try with_reducible rfl))
              (try simp only [List.getElem_toArray, List.getElem_cons_succ, List.getElem_cons_zero, Act.put, List.setIfInBounds_toArray, List.set_cons_zero, List.set_cons_succ])
              (refine wpAnyH_take (i := 10) (oi := ?oib4_10) (v := ?vb4_10) ?hib4_10 ?hsb4_10 ?hfb4_10 ?hrb4_10 ?hQb4_10 ?hyb4_10 ?hSb4_10 ?hb4_10)
              (case hib4_10 => rfl)
              (case hsb4_10 => kernel_rfl)
              (case hfb4_10 => kernel_rfl)
              (case hrb4_10 => kernel_rfl)
              (case hQb4_10 => first | exact fun _ _ _ h => h | exact fun _ _ _ h => (nomatch h.1))
              (case hSb4_10 => assumption)
              (case hyb4_10 => (refine Or.inl ⟨by rfl, ?_⟩; intro W hW; skip; go_simp; try with_reducible rfl))
              (try simp only [List.getElem_toArray, List.getElem_cons_succ, List.getElem_cons_zero, Act.put, List.setIfInBounds_toArray, List.set_cons_zero, List.set_cons_succ])
              (refine wpAnyH_take (i := 11) (oi := ?oib4_11) (v := ?vb4_11) ?hib4_11 ?hsb4_11 ?hfb4_11 ?hrb4_11 ?hQb4_11 ?hyb4_11 ?hSb4_11 ?hb4_11)
              (case hib4_11 => rfl)
              (case hsb4_11 => kernel_rfl)
              (case hfb4_11 => kernel_rfl)
              (case hrb4_11 => kernel_rfl)
              (case hQb4_11 => first | exact fun _ _ _ h => h | exact fun _ _ _ h => (nomatch h.1))
              (case hSb4_11 => assumption)
              (case hyb4_11 => (refine Or.inl ⟨by rfl, ?_⟩; intro W hW; skip; go_simp; try with_reducible rfl))
              (try simp only [List.getElem_toArray, List.getElem_cons_succ, List.getElem_cons_zero, Act.put, List.setIfInBounds_toArray, List.set_cons_zero, List.set_cons_succ])
              refine wpAnyH_ready (rs := [12]) (by kernel_rfl) (by simp) ?_
              refine AllReadyH.cons rfl (fun K hK => ?_) (AllReadyH.nil)
              go_simp
              refine (HG.out _).mono ?_
              rintro e5 w5 ⟨rfl, hb5⟩
              have B5 := B4.trans (hb5.mono B4.size)
              refine hK.out _ _ (by exact hHeld2.below hb5) (fun hHeld3 => ?_)
              clear hK K hHeld2 hb5
              try simp only [List.getElem_toArray, List.getElem_cons_succ, List.getElem_cons_zero, Act.put, List.setIfInBounds_toArray, List.set_cons_zero, List.set_cons_succ]
              (refine wpAnyH_take (i := 13) (oi := ?oib4_13) (v := ?vb4_13) ?hib4_13 ?hsb4_13 ?hfb4_13 ?hrb4_13 ?hQb4_13 ?hyb4_13 ?hSb4_13 ?hb4_13)
              (case hib4_13 => rfl)
              (case hsb4_13 => kernel_rfl)
              (case hfb4_13 => kernel_rfl)
              (case hrb4_13 => kernel_rfl)
              (case hQb4_13 => first | exact fun _ _ _ h => h | exact fun _ _ _ h => (nomatch h.1))
              (case hSb4_13 => assumption)
              (case hyb4_13 => (refine Or.inl ⟨by rfl, ?_⟩; intro W hW; skip; go_simp; try with_reducible rfl))
              (try simp only [List.getElem_toArray, List.getElem_cons_succ, List.getElem_cons_zero, Act.put, List.setIfInBounds_toArray, List.set_cons_zero, List.set_cons_succ])
              (refine wpAnyH_take (i := 14) (oi := ?oib4_14) (v := ?vb4_14) ?hib4_14 ?hsb4_14 ?hfb4_14 ?hrb4_14 ?hQb4_14 ?hyb4_14 ?hSb4_14 ?hb4_14)
              (case hib4_14 => rfl)
              (case hsb4_14 => kernel_rfl)
              (case hfb4_14 => kernel_rfl)
              (case hrb4_14 => kernel_rfl)
              (case hQb4_14 => first | exact fun _ _ _ h => h | exact fun _ _ _ h => (nomatch h.1))
              (case hSb4_14 => assumption)
              (case hyb4_14 => (refine Or.inl ⟨by rfl, ?_⟩; intro W hW; skip; go_simp; try with_reducible rfl))
              (try simp only [List.getElem_toArray, List.getElem_cons_succ, List.getElem_cons_zero, Act.put, List.setIfInBounds_toArray, List.set_cons_zero, List.set_cons_succ])
              refine wpAnyH_done (by kernel_rfl) ?_ _
              have BW := HB9.out.trans (B5.mono HB9.out.size)
              go_wp2
              go_ret
              exact ⟨by rw [HNB.out]; rfl, BW⟩
        · obtain rfl : t = 5 := by omega
          clear ht hlt
          have HN := Lib.hid (fun W => named_calls o.k 5 (by omega) W)
          cases hc : (opNames o.k).contains 5 with
          | true =>
            rw [hc] at HN
            have HC := Lib.hid hc
            clear hc
            go_wp2_with fail
            refine wp_region_held_drew (S := fun A => OpAt A w.heap.size o) (by kernel_rfl) HO9.out.drew (fun hHeld => ?_)
            (refine wpAnyH_take (i := 0) (oi := ?oin5_0) (v := ?vn5_0) ?hin5_0 ?hsn5_0 ?hfn5_0 ?hrn5_0 ?hQn5_0 ?hyn5_0 ?hSn5_0 ?hn5_0)
            (case hin5_0 => rfl)
            (case hsn5_0 => kernel_rfl)
            (case hfn5_0 => kernel_rfl)
            (case hrn5_0 => kernel_rfl)
            (case hQn5_0 => first | exact fun _ _ _ h => h | exact fun _ _ _ h => (nomatch h.1))
            (case hSn5_0 => assumption)
            (case hyn5_0 => (refine Or.inl ⟨by rfl, ?_⟩; intro W hW; skip; go_simp; try with_reducible rfl))
            (try simp only [List.getElem_toArray, List.getElem_cons_succ, List.getElem_cons_zero, Act.put, List.setIfInBounds_toArray, List.set_cons_zero, List.set_cons_succ])
            (refine wpAnyH_take (i := 2) (oi := ?oin5_2) (v := ?vn5_2) ?hin5_2 ?hsn5_2 ?hfn5_2 ?hrn5_2 ?hQn5_2 ?hyn5_2 ?hSn5_2 ?hn5_2)
            (case hin5_2 => rfl)
            (case hsn5_2 => kernel_rfl)
            (case hfn5_2 => kernel_rfl)
            (case hrn5_2 => kernel_rfl)
            (case hQn5_2 => first | exact fun _ _ _ h => h | exact fun _ _ _ h => (nomatch h.1))
            (case hSn5_2 => assumption)
            (case hyn5_2 => (refine Or.inl ⟨by rfl, ?_⟩; intro W hW; skip; go_simp; try with_reducible rfl))
            (try simp only [List.getElem_toArray, List.getElem_cons_succ, List.getElem_cons_zero, Act.put, List.setIfInBounds_toArray, List.set_cons_zero, List.set_cons_succ])
            (refine wpAnyH_take (i := 3) (oi := ?oin5_3) (v := ?vn5_3) ?hin5_3 ?hsn5_3 ?hfn5_3 ?hrn5_3 ?hQn5_3 ?hyn5_3 ?hSn5_3 ?hn5_3)
            (case hin5_3 => rfl)
            (case hsn5_3 => kernel_rfl)
            (case hfn5_3 => kernel_rfl)
            (case hrn5_3 => kernel_rfl)
            (case hQn5_3 => first | exact fun _ _ _ h => h | exact fun _ _ _ h => (nomatch h.1))
            (case hSn5_3 => assumption)
            (case hyn5_3 => (refine Or.inl ⟨by rfl, ?_⟩; intro W hW; skip; go_simp; try with_reducible rfl))
            (try simp only [List.getElem_toArray, List.getElem_cons_succ, List.getElem_cons_zero, Act.put, List.setIfInBounds_toArray, List.set_cons_zero, List.set_cons_succ])
            (refine wpAnyH_take (i := 4) (oi := ?oin5_4) (v := ?vn5_4) ?hin5_4 ?hsn5_4 ?hfn5_4 ?hrn5_4 ?hQn5_4 ?hyn5_4 ?hSn5_4 ?hn5_4)
            (case hin5_4 => rfl)
            (case hsn5_4 => kernel_rfl)
            (case hfn5_4 => kernel_rfl)
            (case hrn5_4 => kernel_rfl)
            (case hQn5_4 => first | exact fun _ _ _ h => h | exact fun _ _ _ h => (nomatch h.1))
            (case hSn5_4 => assumption)
            (case hyn5_4 => (refine Or.inl ⟨by rfl, ?_⟩; intro W hW; skip; go_simp; try with_reducible rfl))
            (try simp only [List.getElem_toArray, List.getElem_cons_succ, List.getElem_cons_zero, Act.put, List.setIfInBounds_toArray, List.set_cons_zero, List.set_cons_succ])
            refine wpAnyH_ready (rs := [1]) (by kernel_rfl) (by simp) ?_
            refine AllReadyH.cons rfl (fun K hK => ?_) (AllReadyH.nil)
            go_simp
            refine (refNames_calls o.k _).mono ?_
            rintro e3 w3 ⟨rfl, hb3⟩
            have B3 : Below wr.heap.size wr w3 := (Below.refl _ _).drew.trans hb3
            refine hK.out _ _ (by exact hHeld.below hb3) (fun hHeld1 => ?_)
            clear hK K hHeld hb3
            try simp only [List.getElem_toArray, List.getElem_cons_succ, List.getElem_cons_zero, Act.put, List.setIfInBounds_toArray, List.set_cons_zero, List.set_cons_succ]
            refine wpAnyH_ready (rs := [5]) (by kernel_rfl) (by simp) ?_
            refine AllReadyH.cons rfl (fun K hK => ?_) (AllReadyH.nil)
            go_simp
            refine (HN.out _).mono ?_
            rintro e4 w4 ⟨rfl, hb4⟩
            have B4 := B3.trans (hb4.mono B3.size)
            refine hK.out _ _ (by exact hHeld1.below hb4) (fun hHeld2 => ?_)
            clear hK K hHeld1 hb4
            try simp only [List.getElem_toArray, List.getElem_cons_succ, List.getElem_cons_zero, Act.put, List.setIfInBounds_toArray, List.set_cons_zero, List.set_cons_succ]
            (refine wpAnyH_take (i := 6) (oi := ?oin5_6) (v := ?vn5_6) ?hin5_6 ?hsn5_6 ?hfn5_6 ?hrn5_6 ?hQn5_6 ?hyn5_6 ?hSn5_6 ?hn5_6)
            (case hin5_6 => rfl)
            (case hsn5_6 => kernel_rfl)
            (case hfn5_6 => kernel_rfl)
            (case hrn5_6 => kernel_rfl)
            (case hQn5_6 => first | exact fun _ _ _ h => h | exact fun _ _ _ h => (nomatch h.1))
            (case hSn5_6 => assumption)
            (case hyn5_6 => (refine Or.inl ⟨by rfl, ?_⟩; intro W hW; skip; go_simp; try with_reducible rfl))
            (try simp only [List.getElem_toArray, List.getElem_cons_succ, List.getElem_cons_zero, Act.put, List.setIfInBounds_toArray, List.set_cons_zero, List.set_cons_succ])
            (refine wpAnyH_take (i := 7) (oi := ?oin5_7) (v := ?vn5_7) ?hin5_7 ?hsn5_7 ?hfn5_7 ?hrn5_7 ?hQn5_7 ?hyn5_7 ?hSn5_7 ?hn5_7)
            (case hin5_7 => rfl)
            (case hsn5_7 => kernel_rfl)
            (case hfn5_7 => kernel_rfl)
            (case hrn5_7 => kernel_rfl)
            (case hQn5_7 => first | exact fun _ _ _ h => h | exact fun _ _ _ h => (nomatch h.1))
            (case hSn5_7 => assumption)
            (case hyn5_7 => (refine Or.inl ⟨by rfl, ?_⟩; intro W hW; skip; go_simp; try with_reducible rfl))
            (try simp only [List.getElem_toArray, List.getElem_cons_succ, List.getElem_cons_zero, Act.put, List.setIfInBounds_toArray, List.set_cons_zero, List.set_cons_succ])
            (refine wpAnyH_take (i := 8) (oi := ?oin5_8) (v := undef) ?hin5_8 ?hsn5_8 ?hfn5_8 ?hrn5_8 ?hQn5_8 ?hyn5_8 ?hSn5_8 ?hn5_8)
            (case hin5_8 => rfl)
            (case hsn5_8 => kernel_rfl)
            (case hfn5_8 => kernel_rfl)
            (case hrn5_8 => kernel_rfl)
            (case hQn5_8 => first | exact fun _ _ _ h => h | exact fun _ _ _ h => (nomatch h.1))
            (case hSn5_8 => assumption)
            (case hyn5_8 => exact Or.inr ⟨by rfl, rfl⟩)
            (try simp only [List.getElem_toArray, List.getElem_cons_succ, List.getElem_cons_zero, Act.put, List.setIfInBounds_toArray, List.set_cons_zero, List.set_cons_succ])
            (refine wpAnyH_take (i := 9) (oi := ?oin5_9) (v := undef) ?hin5_9 ?hsn5_9 ?hfn5_9 ?hrn5_9 ?hQn5_9 ?hyn5_9 ?hSn5_9 ?hn5_9)
            (case hin5_9 => rfl)
            (case hsn5_9 => kernel_rfl)
            (case hfn5_9 => kernel_rfl)
            (case hrn5_9 => kernel_rfl)
            (case hQn5_9 => first | exact fun _ _ _ h => h | exact fun _ _ _ h => (nomatch h.1))
            (case hSn5_9 => assumption)
            (case hyn5_9 => exact Or.inr ⟨by rfl, rfl⟩)
            (try simp only [List.getElem_toArray, List.getElem_cons_succ, List.getElem_cons_zero, Act.put, List.setIfInBounds_toArray, List.set_cons_zero, List.set_cons_succ])
            (refine wpAnyH_take (i := 10) (oi := ?oin5_10) (v := undef) ?hin5_10 ?hsn5_10 ?hfn5_10 ?hrn5_10 ?hQn5_10 ?hyn5_10 ?hSn5_10 ?hn5_10)
            (case hin5_10 => rfl)
            (case hsn5_10 => kernel_rfl)
            (case hfn5_10 => kernel_rfl)
            (case hrn5_10 => kernel_rfl)
            (case hQn5_10 => first | exact fun _ _ _ h => h | exact fun _ _ _ h => (nomatch h.1))
            (case hSn5_10 => assumption)
            (case hyn5_10 => exact Or.inr ⟨by rfl, rfl⟩)
            (try simp only [List.getElem_toArray, List.getElem_cons_succ, List.getElem_cons_zero, Act.put, List.setIfInBounds_toArray, List.set_cons_zero, List.set_cons_succ])
            (refine wpAnyH_take (i := 11) (oi := ?oin5_11) (v := undef) ?hin5_11 ?hsn5_11 ?hfn5_11 ?hrn5_11 ?hQn5_11 ?hyn5_11 ?hSn5_11 ?hn5_11)
            (case hin5_11 => rfl)
            (case hsn5_11 => kernel_rfl)
            (case hfn5_11 => kernel_rfl)
            (case hrn5_11 => kernel_rfl)
            (case hQn5_11 => first | exact fun _ _ _ h => h | exact fun _ _ _ h => (nomatch h.1))
            (case hSn5_11 => assumption)
            (case hyn5_11 => exact Or.inr ⟨by rfl, rfl⟩)
            (try simp only [List.getElem_toArray, List.getElem_cons_succ, List.getElem_cons_zero, Act.put, List.setIfInBounds_toArray, List.set_cons_zero, List.set_cons_succ])
            (refine wpAnyH_take (i := 12) (oi := ?oin5_12) (v := undef) ?hin5_12 ?hsn5_12 ?hfn5_12 ?hrn5_12 ?hQn5_12 ?hyn5_12 ?hSn5_12 ?hn5_12)
            (case hin5_12 => rfl)
            (case hsn5_12 => kernel_rfl)
            (case hfn5_12 => kernel_rfl)
            (case hrn5_12 => kernel_rfl)
            (case hQn5_12 => first | exact fun _ _ _ h => h | exact fun _ _ _ h => (nomatch h.1))
            (case hSn5_12 => assumption)
            (case hyn5_12 => exact Or.inr ⟨by rfl, rfl⟩)
            (try simp only [List.getElem_toArray, List.getElem_cons_succ, List.getElem_cons_zero, Act.put, List.setIfInBounds_toArray, List.set_cons_zero, List.set_cons_succ])
            (refine wpAnyH_take (i := 13) (oi := ?oin5_13) (v := undef) ?hin5_13 ?hsn5_13 ?hfn5_13 ?hrn5_13 ?hQn5_13 ?hyn5_13 ?hSn5_13 ?hn5_13)
            (case hin5_13 => rfl)
            (case hsn5_13 => kernel_rfl)
            (case hfn5_13 => kernel_rfl)
            (case hrn5_13 => kernel_rfl)
            (case hQn5_13 => first | exact fun _ _ _ h => h | exact fun _ _ _ h => (nomatch h.1))
            (case hSn5_13 => assumption)
            (case hyn5_13 => exact Or.inr ⟨by rfl, rfl⟩)
            (try simp only [List.getElem_toArray, List.getElem_cons_succ, List.getElem_cons_zero, Act.put, List.setIfInBounds_toArray, List.set_cons_zero, List.set_cons_succ])
            (refine wpAnyH_take (i := 14) (oi := ?oin5_14) (v := ?vn5_14) ?hin5_14 ?hsn5_14 ?hfn5_14 ?hrn5_14 ?hQn5_14 ?hyn5_14 ?hSn5_14 ?hn5_14)
            (case hin5_14 => rfl)
            (case hsn5_14 => kernel_rfl)
            (case hfn5_14 => kernel_rfl)
            (case hrn5_14 => kernel_rfl)
            (case hQn5_14 => first | exact fun _ _ _ h => h | exact fun _ _ _ h => (nomatch h.1))
            (case hSn5_14 => assumption)
            (case hyn5_14 => (refine Or.inl ⟨by rfl, ?_⟩; intro W hW; skip; go_simp; try with_reducible rfl))
            (try simp only [List.getElem_toArray, List.getElem_cons_succ, List.getElem_cons_zero, Act.put, List.setIfInBounds_toArray, List.set_cons_zero, List.set_cons_succ])
            refine wpAnyH_done (by kernel_rfl) ?_ _
            have BW := HB9.out.trans (B4.mono HB9.out.size)
            have O9' := HO9.out.below (B4)
            go_wp2
            refine ⟨?_, ?_⟩
            · exact ⟨6, 6, by omega, rfl, rfl, BW, O9', zero_step hzt.out (.inl HC.out)⟩
            · simp [intOf]
          | false =>
            rw [hc] at HN
            have HG := Lib.hid (fun W => get_calls o 5 (by omega) W)
            unfold opVal at HG
            by_cases hv : o.x = 0
            · have hv' : o.get 5 = 0 := hv
              rw [hv'] at HG
              have HV := Lib.hid hv'
              clear hv hv' hc
              go_wp2_with fail
              refine wp_region_held_drew (S := fun A => OpAt A w.heap.size o) (by kernel_rfl) HO9.out.drew (fun hHeld => ?_)
              (refine wpAnyH_take (i := 0) (oi := ?oiz5_0) (v := ?vz5_0) ?hiz5_0 ?hsz5_0 ?hfz5_0 ?hrz5_0 ?hQz5_0 ?hyz5_0 ?hSz5_0 ?hz5_0)
              (case hiz5_0 => rfl)
              (case hsz5_0 => kernel_rfl)
              (case hfz5_0 => kernel_rfl)
              (case hrz5_0 => kernel_rfl)
              (case hQz5_0 => first | exact fun _ _ _ h => h | exact fun _ _ _ h => (nomatch h.1))
              (case hSz5_0 => assumption)
              (case hyz5_0 => (refine Or.inl ⟨by rfl, ?_⟩; intro W hW; skip; go_simp; try with_reducible rfl))
              (try simp only [List.getElem_toArray, List.getElem_cons_succ, List.getElem_cons_zero, Act.put, List.setIfInBounds_toArray, List.set_cons_zero, List.set_cons_succ])
              (refine wpAnyH_take (i := 2) (oi := ?oiz5_2) (v := ?vz5_2) ?hiz5_2 ?hsz5_2 ?hfz5_2 ?hrz5_2 ?hQz5_2 ?hyz5_2 ?hSz5_2 ?hz5_2)
              (case hiz5_2 => rfl)
              (case hsz5_2 => kernel_rfl)
              (case hfz5_2 => kernel_rfl)
              (case hrz5_2 => kernel_rfl)
              (case hQz5_2 => first | exact fun _ _ _ h => h | exact fun _ _ _ h => (nomatch h.1))
              (case hSz5_2 => assumption)
              (case hyz5_2 => (refine Or.inl ⟨by rfl, ?_⟩; intro W hW; skip; go_simp; try with_reducible rfl))
              (try simp only [List.getElem_toArray, List.getElem_cons_succ, List.getElem_cons_zero, Act.put, List.setIfInBounds_toArray, List.set_cons_zero, List.set_cons_succ])
              (refine wpAnyH_take (i := 3) (oi := ?oiz5_3) (v := ?vz5_3) ?hiz5_3 ?hsz5_3 ?hfz5_3 ?hrz5_3 ?hQz5_3 ?hyz5_3 ?hSz5_3 ?hz5_3)
              (case hiz5_3 => rfl)
              (case hsz5_3 => kernel_rfl)
              (case hfz5_3 => kernel_rfl)
              (case hrz5_3 => kernel_rfl)
              (case hQz5_3 => first | exact fun _ _ _ h => h | exact fun _ _ _ h => (nomatch h.1))
              (case hSz5_3 => assumption)
              (case hyz5_3 => (refine Or.inl ⟨by rfl, ?_⟩; intro W hW; skip; go_simp; try with_reducible rfl))
              (try simp only [List.getElem_toArray, List.getElem_cons_succ, List.getElem_cons_zero, Act.put, List.setIfInBounds_toArray, List.set_cons_zero, List.set_cons_succ])
              (refine wpAnyH_take (i := 4) (oi := ?oiz5_4) (v := ?vz5_4) ?hiz5_4 ?hsz5_4 ?hfz5_4 ?hrz5_4 ?hQz5_4 ?hyz5_4 ?hSz5_4 ?hz5_4)
              (case hiz5_4 => rfl)
              (case hsz5_4 => kernel_rfl)
              (case hfz5_4 => kernel_rfl)
              (case hrz5_4 => kernel_rfl)
              (case hQz5_4 => first | exact fun _ _ _ h => h | exact fun _ _ _ h => (nomatch h.1))
              (case hSz5_4 => assumption)
              (case hyz5_4 => (refine Or.inl ⟨by rfl, ?_⟩; intro W hW; skip; go_simp; try with_reducible rfl))
              (try simp only [List.getElem_toArray, List.getElem_cons_succ, List.getElem_cons_zero, Act.put, List.setIfInBounds_toArray, List.set_cons_zero, List.set_cons_succ])
              refine wpAnyH_ready (rs := [1]) (by kernel_rfl) (by simp) ?_
              refine AllReadyH.cons rfl (fun K hK => ?_) (AllReadyH.nil)
              go_simp
              refine (refNames_calls o.k _).mono ?_
              rintro e3 w3 ⟨rfl, hb3⟩
              have B3 : Below wr.heap.size wr w3 := (Below.refl _ _).drew.trans hb3
              refine hK.out _ _ (by exact hHeld.below hb3) (fun hHeld1 => ?_)
              clear hK K hHeld hb3
              try simp only [List.getElem_toArray, List.getElem_cons_succ, List.getElem_cons_zero, Act.put, List.setIfInBounds_toArray, List.set_cons_zero, List.set_cons_succ]
              refine wpAnyH_ready (rs := [5]) (by kernel_rfl) (by simp) ?_
              refine AllReadyH.cons rfl (fun K hK => ?_) (AllReadyH.nil)
              go_simp
              refine (HN.out _).mono ?_
              rintro e4 w4 ⟨rfl, hb4⟩
              have B4 := B3.trans (hb4.mono B3.size)
              refine hK.out _ _ (by exact hHeld1.below hb4) (fun hHeld2 => ?_)
              clear hK K hHeld1 hb4
              try simp only [List.getElem_toArray, List.getElem_cons_succ, List.getElem_cons_zero, Act.put, List.setIfInBounds_toArray, List.set_cons_zero, List.set_cons_succ]
              (refine wpAnyH_take (i := 6) (oi := ?oiz5_6) (v := ?vz5_6) ?hiz5_6 ?hsz5_6 ?hfz5_6 ?hrz5_6 ?hQz5_6 ?hyz5_6 ?hSz5_6 ?hz5_6)
              (case hiz5_6 => rfl)
              (case hsz5_6 => kernel_rfl)
              (case hfz5_6 => kernel_rfl)
              (case hrz5_6 => kernel_rfl)
              (case hQz5_6 => first | exact fun _ _ _ h => h | exact fun _ _ _ h => (nomatch h.1))
              (case hSz5_6 => assumption)
              (case hyz5_6 => (refine Or.inl ⟨by rfl, ?_⟩; intro W hW; skip; go_simp; try with_reducible rfl))
              (try simp only [List.getElem_toArray, List.getElem_cons_succ, List.getElem_cons_zero, Act.put, List.setIfInBounds_toArray, List.set_cons_zero, List.set_cons_succ])
              (refine wpAnyH_take (i := 7) (oi := ?oiz5_7) (v := ?vz5_7) ?hiz5_7 ?hsz5_7 ?hfz5_7 ?hrz5_7 ?hQz5_7 ?hyz5_7 ?hSz5_7 ?hz5_7)
              (case hiz5_7 => rfl)
              (case hsz5_7 => kernel_rfl)
              (case hfz5_7 => kernel_rfl)
              (case hrz5_7 => kernel_rfl)
              (case hQz5_7 => first | exact fun _ _ _ h => h | exact fun _ _ _ h => (nomatch h.1))
              (case hSz5_7 => assumption)
              (case hyz5_7 => (refine Or.inl ⟨by rfl, ?_⟩; intro W hW; skip; go_simp; try with_reducible rfl))
              (try simp only [List.getElem_toArray, List.getElem_cons_succ, List.getElem_cons_zero, Act.put, List.setIfInBounds_toArray, List.set_cons_zero, List.set_cons_succ])
              (refine wpAnyH_take (i := 8) (oi := ?oiz5_8) (v := ?vz5_8) ?hiz5_8 ?hsz5_8 ?hfz5_8 ?hrz5_8 ?hQz5_8 ?hyz5_8 ?hSz5_8 ?hz5_8)
              (case hiz5_8 => rfl)
              (case hsz5_8 => kernel_rfl)
              (case hfz5_8 => kernel_rfl)
              (case hrz5_8 => kernel_rfl)
              (case hQz5_8 => first | exact fun _ _ _ h => h | exact fun _ _ _ h => (nomatch h.1))
              (case hSz5_8 => assumption)
              (case hyz5_8 => (refine Or.inl ⟨by rfl, ?_⟩; intro W hW; obtain ⟨q1, q2, q3, q4, q5, q6, q7, q8, q9, qf⟩ := hW; go_simp; try with_reducible rfl))
              (try simp only [List.getElem_toArray, List.getElem_cons_succ, List.getElem_cons_zero, Act.put, List.setIfInBounds_toArray, List.set_cons_zero, List.set_cons_succ])
              (refine wpAnyH_take (i := 9) (oi := ?oiz5_9) (v := ?vz5_9) ?hiz5_9 ?hsz5_9 ?hfz5_9 ?hrz5_9 ?hQz5_9 ?hyz5_9 ?hSz5_9 ?hz5_9)
              (case hiz5_9 => rfl)
              (case hsz5_9 => kernel_rfl)
              (case hfz5_9 => kernel_rfl)
              (case hrz5_9 => kernel_rfl)
              (case hQz5_9 => first | exact fun _ _ _ h => h | exact fun _ _ _ h => (nomatch h.1))
              (case hSz5_9 => assumption)
              (case hyz5_9 => (refine Or.inl ⟨by rfl, ?_⟩; intro W hW; skip; go_simp; try with_reducible rfl))
              (try simp only [List.getElem_toArray, List.getElem_cons_succ, List.getElem_cons_zero, Act.put, List.setIfInBounds_toArray, List.set_cons_zero, List.set_cons_succ])
              (refine wpAnyH_take (i := 10) (oi := ?oiz5_10) (v := ?vz5_10) ?hiz5_10 ?hsz5_10 ?hfz5_10 ?hrz5_10 ?hQz5_10 ?hyz5_10 ?hSz5_10 ?hz5_10)
              (case hiz5_10 => rfl)
              (case hsz5_10 => kernel_rfl)
              (case hfz5_10 => kernel_rfl)
              (case hrz5_10 => kernel_rfl)
              (case hQz5_10 => first | exact fun _ _ _ h => h | exact fun _ _ _ h => (nomatch h.1))
              (case hSz5_10 => assumption)
              (case hyz5_10 => (refine Or.inl ⟨by rfl, ?_⟩; intro W hW; skip; go_simp; try with_reducible rfl))
              (try simp only [List.getElem_toArray, List.getElem_cons_succ, List.getElem_cons_zero, Act.put, List.setIfInBounds_toArray, List.set_cons_zero, List.set_cons_succ])
              (refine wpAnyH_take (i := 11) (oi := ?oiz5_11) (v := ?vz5_11) ?hiz5_11 ?hsz5_11 ?hfz5_11 ?hrz5_11 ?hQz5_11 ?hyz5_11 ?hSz5_11 ?hz5_11)
              (case hiz5_11 => rfl)
              (case hsz5_11 => kernel_rfl)
              (case hfz5_11 => kernel_rfl)
              (case hrz5_11 => kernel_rfl)
              (case hQz5_11 => first | exact fun _ _ _ h => h | exact fun _ _ _ h => (nomatch h.1))
              (case hSz5_11 => assumption)
              (case hyz5_11 => (refine Or.inl ⟨by rfl, ?_⟩; intro W hW; skip; go_simp; try with_reducible rfl))
              (try simp only [List.getElem_toArray, List.getElem_cons_succ, List.getElem_cons_zero, Act.put, List.setIfInBounds_toArray, List.set_cons_zero, List.set_cons_succ])
              refine wpAnyH_ready (rs := [12]) (by kernel_rfl) (by simp) ?_
              refine AllReadyH.cons rfl (fun K hK => ?_) (AllReadyH.nil)
              go_simp
              refine (HG.out _).mono ?_
              rintro e5 w5 ⟨rfl, hb5⟩
              have B5 := B4.trans (hb5.mono B4.size)
              refine hK.out _ _ (by exact hHeld2.below hb5) (fun hHeld3 => ?_)
              clear hK K hHeld2 hb5
              try simp only [List.getElem_toArray, List.getElem_cons_succ, List.getElem_cons_zero, Act.put, List.setIfInBounds_toArray, List.set_cons_zero, List.set_cons_succ]
              (refine wpAnyH_take (i := 13) (oi := ?oiz5_13) (v := ?vz5_13) ?hiz5_13 ?hsz5_13 ?hfz5_13 ?hrz5_13 ?hQz5_13 ?hyz5_13 ?hSz5_13 ?hz5_13)
              (case hiz5_13 => rfl)
              (case hsz5_13 => kernel_rfl)
              (case hfz5_13 => kernel_rfl)
              (case hrz5_13 => kernel_rfl)
              (case hQz5_13 => first | exact fun _ _ _ h => h | exact fun _ _ _ h => (nomatch h.1))
              (case hSz5_13 => assumption)
              (case hyz5_13 => (refine Or.inl ⟨by rfl, ?_⟩; intro W hW; skip; go_simp; try with_reducible rfl))
              (try simp only [List.getElem_toArray, List.getElem_cons_succ, List.getElem_cons_zero, Act.put, List.setIfInBounds_toArray, List.set_cons_zero, List.set_cons_succ])
              (refine wpAnyH_take (i := 14) (oi := ?oiz5_14) (v := ?vz5_14) ?hiz5_14 ?hsz5_14 ?hfz5_14 ?hrz5_14 ?hQz5_14 ?hyz5_14 ?hSz5_14 ?hz5_14)
              (case hiz5_14 => rfl)
              (case hsz5_14 => kernel_rfl)
              (case hfz5_14 => kernel_rfl)
              (case hrz5_14 => kernel_rfl)
              (case hQz5_14 => first | exact fun _ _ _ h => h | exact fun _ _ _ h => (nomatch h.1))
              (case hSz5_14 => assumption)
              (case hyz5_14 => (refine Or.inl ⟨by rfl, ?_⟩; intro W hW; skip; go_simp; try with_reducible rfl))
              (try simp only [List.getElem_toArray, List.getElem_cons_succ, List.getElem_cons_zero, Act.put, List.setIfInBounds_toArray, List.set_cons_zero, List.set_cons_succ])
              refine wpAnyH_done (by kernel_rfl) ?_ _
              have BW := HB9.out.trans (B5.mono HB9.out.size)
              have O9' := HO9.out.below (B5)
              go_wp2
              refine ⟨?_, ?_⟩
              · exact ⟨6, 6, by omega, rfl, rfl, BW, O9', zero_step hzt.out (.inr HV.out)⟩
              · simp [intOf]
            · have hv' : (o.x != 0) = true := by rw [bne_iff_ne]; exact hv
              have HNB := Lib.hid (nonzero_bare o 5 (by omega) hc hv)
              have hg' : ∀ W, Calls Tryd.prog 32 #[.agg #[.int .i64 o.k, .int .i64 o.a, .int .i64 o.b, .int .i64 o.c, .int .i64 o.f, .int .i64 o.s, .int .i64 o.x, .int .i64 o.y], .int .u8 (letterN 5).toNat] W fun e w' => e = .returned (.int .i64 o.x) ∧ Below W.heap.size W w' := HG.out
              replace HG := Lib.hid hg'
              clear hv hc hg'
              go_wp2_with fail
              refine wp_region_held_drew (S := fun A => OpAt A w.heap.size o) (by kernel_rfl) HO9.out.drew (fun hHeld => ?_)
              (refine wpAnyH_take (i := 0) (oi := ?oib5_0) (v := ?vb5_0) ?hib5_0 ?hsb5_0 ?hfb5_0 ?hrb5_0 ?hQb5_0 ?hyb5_0 ?hSb5_0 ?hb5_0)
              (case hib5_0 => rfl)
              (case hsb5_0 => kernel_rfl)
              (case hfb5_0 => kernel_rfl)
              (case hrb5_0 => kernel_rfl)
              (case hQb5_0 => first | exact fun _ _ _ h => h | exact fun _ _ _ h => (nomatch h.1))
              (case hSb5_0 => assumption)
              (case hyb5_0 => (refine Or.inl ⟨by rfl, ?_⟩; intro W hW; skip; go_simp; try with_reducible rfl))
              (try simp only [List.getElem_toArray, List.getElem_cons_succ, List.getElem_cons_zero, Act.put, List.setIfInBounds_toArray, List.set_cons_zero, List.set_cons_succ])
              (refine wpAnyH_take (i := 2) (oi := ?oib5_2) (v := ?vb5_2) ?hib5_2 ?hsb5_2 ?hfb5_2 ?hrb5_2 ?hQb5_2 ?hyb5_2 ?hSb5_2 ?hb5_2)
              (case hib5_2 => rfl)
              (case hsb5_2 => kernel_rfl)
              (case hfb5_2 => kernel_rfl)
              (case hrb5_2 => kernel_rfl)
              (case hQb5_2 => first | exact fun _ _ _ h => h | exact fun _ _ _ h => (nomatch h.1))
              (case hSb5_2 => assumption)
              (case hyb5_2 => (refine Or.inl ⟨by rfl, ?_⟩; intro W hW; skip; go_simp; try with_reducible rfl))
              (try simp only [List.getElem_toArray, List.getElem_cons_succ, List.getElem_cons_zero, Act.put, List.setIfInBounds_toArray, List.set_cons_zero, List.set_cons_succ])
              (refine wpAnyH_take (i := 3) (oi := ?oib5_3) (v := ?vb5_3) ?hib5_3 ?hsb5_3 ?hfb5_3 ?hrb5_3 ?hQb5_3 ?hyb5_3 ?hSb5_3 ?hb5_3)
              (case hib5_3 => rfl)
              (case hsb5_3 => kernel_rfl)
              (case hfb5_3 => kernel_rfl)
              (case hrb5_3 => kernel_rfl)
              (case hQb5_3 => first | exact fun _ _ _ h => h | exact fun _ _ _ h => (nomatch h.1))
              (case hSb5_3 => assumption)
              (case hyb5_3 => (refine Or.inl ⟨by rfl, ?_⟩; intro W hW; skip; go_simp; try with_reducible rfl))
              (try simp only [List.getElem_toArray, List.getElem_cons_succ, List.getElem_cons_zero, Act.put, List.setIfInBounds_toArray, List.set_cons_zero, List.set_cons_succ])
              (refine wpAnyH_take (i := 4) (oi := ?oib5_4) (v := ?vb5_4) ?hib5_4 ?hsb5_4 ?hfb5_4 ?hrb5_4 ?hQb5_4 ?hyb5_4 ?hSb5_4 ?hb5_4)
              (case hib5_4 => rfl)
              (case hsb5_4 => kernel_rfl)
              (case hfb5_4 => kernel_rfl)
              (case hrb5_4 => kernel_rfl)
              (case hQb5_4 => first | exact fun _ _ _ h => h | exact fun _ _ _ h => (nomatch h.1))
              (case hSb5_4 => assumption)
              (case hyb5_4 => (refine Or.inl ⟨by rfl, ?_⟩; intro W hW; skip; go_simp; try with_reducible rfl))
              (try simp only [List.getElem_toArray, List.getElem_cons_succ, List.getElem_cons_zero, Act.put, List.setIfInBounds_toArray, List.set_cons_zero, List.set_cons_succ])
              refine wpAnyH_ready (rs := [1]) (by kernel_rfl) (by simp) ?_
              refine AllReadyH.cons rfl (fun K hK => ?_) (AllReadyH.nil)
              go_simp
              refine (refNames_calls o.k _).mono ?_
              rintro e3 w3 ⟨rfl, hb3⟩
              have B3 : Below wr.heap.size wr w3 := (Below.refl _ _).drew.trans hb3
              refine hK.out _ _ (by exact hHeld.below hb3) (fun hHeld1 => ?_)
              clear hK K hHeld hb3
              try simp only [List.getElem_toArray, List.getElem_cons_succ, List.getElem_cons_zero, Act.put, List.setIfInBounds_toArray, List.set_cons_zero, List.set_cons_succ]
              refine wpAnyH_ready (rs := [5]) (by kernel_rfl) (by simp) ?_
              refine AllReadyH.cons rfl (fun K hK => ?_) (AllReadyH.nil)
              go_simp
              refine (HN.out _).mono ?_
              rintro e4 w4 ⟨rfl, hb4⟩
              have B4 := B3.trans (hb4.mono B3.size)
              refine hK.out _ _ (by exact hHeld1.below hb4) (fun hHeld2 => ?_)
              clear hK K hHeld1 hb4
              try simp only [List.getElem_toArray, List.getElem_cons_succ, List.getElem_cons_zero, Act.put, List.setIfInBounds_toArray, List.set_cons_zero, List.set_cons_succ]
              (refine wpAnyH_take (i := 6) (oi := ?oib5_6) (v := ?vb5_6) ?hib5_6 ?hsb5_6 ?hfb5_6 ?hrb5_6 ?hQb5_6 ?hyb5_6 ?hSb5_6 ?hb5_6)
              (case hib5_6 => rfl)
              (case hsb5_6 => kernel_rfl)
              (case hfb5_6 => kernel_rfl)
              (case hrb5_6 => kernel_rfl)
              (case hQb5_6 => first | exact fun _ _ _ h => h | exact fun _ _ _ h => (nomatch h.1))
              (case hSb5_6 => assumption)
              (case hyb5_6 => (refine Or.inl ⟨by rfl, ?_⟩; intro W hW; skip; go_simp; try with_reducible rfl))
              (try simp only [List.getElem_toArray, List.getElem_cons_succ, List.getElem_cons_zero, Act.put, List.setIfInBounds_toArray, List.set_cons_zero, List.set_cons_succ])
              (refine wpAnyH_take (i := 7) (oi := ?oib5_7) (v := ?vb5_7) ?hib5_7 ?hsb5_7 ?hfb5_7 ?hrb5_7 ?hQb5_7 ?hyb5_7 ?hSb5_7 ?hb5_7)
              (case hib5_7 => rfl)
              (case hsb5_7 => kernel_rfl)
              (case hfb5_7 => kernel_rfl)
              (case hrb5_7 => kernel_rfl)
              (case hQb5_7 => first | exact fun _ _ _ h => h | exact fun _ _ _ h => (nomatch h.1))
              (case hSb5_7 => assumption)
              (case hyb5_7 => (refine Or.inl ⟨by rfl, ?_⟩; intro W hW; skip; go_simp; try with_reducible rfl))
              (try simp only [List.getElem_toArray, List.getElem_cons_succ, List.getElem_cons_zero, Act.put, List.setIfInBounds_toArray, List.set_cons_zero, List.set_cons_succ])
              (refine wpAnyH_take (i := 8) (oi := ?oib5_8) (v := ?vb5_8) ?hib5_8 ?hsb5_8 ?hfb5_8 ?hrb5_8 ?hQb5_8 ?hyb5_8 ?hSb5_8 ?hb5_8)
              (case hib5_8 => rfl)
              (case hsb5_8 => kernel_rfl)
              (case hfb5_8 => kernel_rfl)
              (case hrb5_8 => kernel_rfl)
              (case hQb5_8 => first | exact fun _ _ _ h => h | exact fun _ _ _ h => (nomatch h.1))
              (case hSb5_8 => assumption)
              (case hyb5_8 => (refine Or.inl ⟨by rfl, ?_⟩; intro W hW; obtain ⟨q1, q2, q3, q4, q5, q6, q7, q8, q9, qf⟩ := hW; go_simp; try with_reducible rfl))
              (try simp only [List.getElem_toArray, List.getElem_cons_succ, List.getElem_cons_zero, Act.put, List.setIfInBounds_toArray, List.set_cons_zero, List.set_cons_succ])
              (refine wpAnyH_take (i := 9) (oi := ?oib5_9) (v := ?vb5_9) ?hib5_9 ?hsb5_9 ?hfb5_9 ?hrb5_9 ?hQb5_9 ?hyb5_9 ?hSb5_9 ?hb5_9)
              (case hib5_9 => rfl)
              (case hsb5_9 => kernel_rfl)
              (case hfb5_9 => kernel_rfl)
              (case hrb5_9 => kernel_rfl)
              (case hQb5_9 => first | exact fun _ _ _ h => h | exact fun _ _ _ h => (nomatch h.1))
              (case hSb5_9 => assumption)
              (case hyb5_9 => (refine Or.inl ⟨by rfl, ?_⟩; intro W hW; skip; go_simp; try with_reducible rfl))
              (try simp only [List.getElem_toArray, List.getElem_cons_succ, List.getElem_cons_zero, Act.put, List.setIfInBounds_toArray, List.set_cons_zero, List.set_cons_succ])
              (refine wpAnyH_take (i := 10) (oi := ?oib5_10) (v := ?vb5_10) ?hib5_10 ?hsb5_10 ?hfb5_10 ?hrb5_10 ?hQb5_10 ?hyb5_10 ?hSb5_10 ?hb5_10)
              (case hib5_10 => rfl)
              (case hsb5_10 => kernel_rfl)
              (case hfb5_10 => kernel_rfl)
              (case hrb5_10 => kernel_rfl)
              (case hQb5_10 => first | exact fun _ _ _ h => h | exact fun _ _ _ h => (nomatch h.1))
              (case hSb5_10 => assumption)
              (case hyb5_10 => (refine Or.inl ⟨by rfl, ?_⟩; intro W hW; skip; go_simp; try with_reducible rfl))
              (try simp only [List.getElem_toArray, List.getElem_cons_succ, List.getElem_cons_zero, Act.put, List.setIfInBounds_toArray, List.set_cons_zero, List.set_cons_succ])
              (refine wpAnyH_take (i := 11) (oi := ?oib5_11) (v := ?vb5_11) ?hib5_11 ?hsb5_11 ?hfb5_11 ?hrb5_11 ?hQb5_11 ?hyb5_11 ?hSb5_11 ?hb5_11)
              (case hib5_11 => rfl)
              (case hsb5_11 => kernel_rfl)
              (case hfb5_11 => kernel_rfl)
              (case hrb5_11 => kernel_rfl)
              (case hQb5_11 => first | exact fun _ _ _ h => h | exact fun _ _ _ h => (nomatch h.1))
              (case hSb5_11 => assumption)
              (case hyb5_11 => (refine Or.inl ⟨by rfl, ?_⟩; intro W hW; skip; go_simp; try with_reducible rfl))
              (try simp only [List.getElem_toArray, List.getElem_cons_succ, List.getElem_cons_zero, Act.put, List.setIfInBounds_toArray, List.set_cons_zero, List.set_cons_succ])
              refine wpAnyH_ready (rs := [12]) (by kernel_rfl) (by simp) ?_
              refine AllReadyH.cons rfl (fun K hK => ?_) (AllReadyH.nil)
              go_simp
              refine (HG.out _).mono ?_
              rintro e5 w5 ⟨rfl, hb5⟩
              have B5 := B4.trans (hb5.mono B4.size)
              refine hK.out _ _ (by exact hHeld2.below hb5) (fun hHeld3 => ?_)
              clear hK K hHeld2 hb5
              try simp only [List.getElem_toArray, List.getElem_cons_succ, List.getElem_cons_zero, Act.put, List.setIfInBounds_toArray, List.set_cons_zero, List.set_cons_succ]
              (refine wpAnyH_take (i := 13) (oi := ?oib5_13) (v := ?vb5_13) ?hib5_13 ?hsb5_13 ?hfb5_13 ?hrb5_13 ?hQb5_13 ?hyb5_13 ?hSb5_13 ?hb5_13)
              (case hib5_13 => rfl)
              (case hsb5_13 => kernel_rfl)
              (case hfb5_13 => kernel_rfl)
              (case hrb5_13 => kernel_rfl)
              (case hQb5_13 => first | exact fun _ _ _ h => h | exact fun _ _ _ h => (nomatch h.1))
              (case hSb5_13 => assumption)
              (case hyb5_13 => (refine Or.inl ⟨by rfl, ?_⟩; intro W hW; skip; go_simp; try with_reducible rfl))
              (try simp only [List.getElem_toArray, List.getElem_cons_succ, List.getElem_cons_zero, Act.put, List.setIfInBounds_toArray, List.set_cons_zero, List.set_cons_succ])
              (refine wpAnyH_take (i := 14) (oi := ?oib5_14) (v := ?vb5_14) ?hib5_14 ?hsb5_14 ?hfb5_14 ?hrb5_14 ?hQb5_14 ?hyb5_14 ?hSb5_14 ?hb5_14)
              (case hib5_14 => rfl)
              (case hsb5_14 => kernel_rfl)
              (case hfb5_14 => kernel_rfl)
              (case hrb5_14 => kernel_rfl)
              (case hQb5_14 => first | exact fun _ _ _ h => h | exact fun _ _ _ h => (nomatch h.1))
              (case hSb5_14 => assumption)
              (case hyb5_14 => (refine Or.inl ⟨by rfl, ?_⟩; intro W hW; skip; go_simp; try with_reducible rfl))
              (try simp only [List.getElem_toArray, List.getElem_cons_succ, List.getElem_cons_zero, Act.put, List.setIfInBounds_toArray, List.set_cons_zero, List.set_cons_succ])
              refine wpAnyH_done (by kernel_rfl) ?_ _
              have BW := HB9.out.trans (B5.mono HB9.out.size)
              go_wp2
              go_ret
              exact ⟨by rw [HNB.out]; rfl, BW⟩
        · obtain rfl : t = 6 := by omega
          clear ht hlt
          have HN := Lib.hid (fun W => named_calls o.k 6 (by omega) W)
          cases hc : (opNames o.k).contains 6 with
          | true =>
            rw [hc] at HN
            have HC := Lib.hid hc
            clear hc
            go_wp2_with fail
            refine wp_region_held_drew (S := fun A => OpAt A w.heap.size o) (by kernel_rfl) HO9.out.drew (fun hHeld => ?_)
            (refine wpAnyH_take (i := 0) (oi := ?oin6_0) (v := ?vn6_0) ?hin6_0 ?hsn6_0 ?hfn6_0 ?hrn6_0 ?hQn6_0 ?hyn6_0 ?hSn6_0 ?hn6_0)
            (case hin6_0 => rfl)
            (case hsn6_0 => kernel_rfl)
            (case hfn6_0 => kernel_rfl)
            (case hrn6_0 => kernel_rfl)
            (case hQn6_0 => first | exact fun _ _ _ h => h | exact fun _ _ _ h => (nomatch h.1))
            (case hSn6_0 => assumption)
            (case hyn6_0 => (refine Or.inl ⟨by rfl, ?_⟩; intro W hW; skip; go_simp; try with_reducible rfl))
            (try simp only [List.getElem_toArray, List.getElem_cons_succ, List.getElem_cons_zero, Act.put, List.setIfInBounds_toArray, List.set_cons_zero, List.set_cons_succ])
            (refine wpAnyH_take (i := 2) (oi := ?oin6_2) (v := ?vn6_2) ?hin6_2 ?hsn6_2 ?hfn6_2 ?hrn6_2 ?hQn6_2 ?hyn6_2 ?hSn6_2 ?hn6_2)
            (case hin6_2 => rfl)
            (case hsn6_2 => kernel_rfl)
            (case hfn6_2 => kernel_rfl)
            (case hrn6_2 => kernel_rfl)
            (case hQn6_2 => first | exact fun _ _ _ h => h | exact fun _ _ _ h => (nomatch h.1))
            (case hSn6_2 => assumption)
            (case hyn6_2 => (refine Or.inl ⟨by rfl, ?_⟩; intro W hW; skip; go_simp; try with_reducible rfl))
            (try simp only [List.getElem_toArray, List.getElem_cons_succ, List.getElem_cons_zero, Act.put, List.setIfInBounds_toArray, List.set_cons_zero, List.set_cons_succ])
            (refine wpAnyH_take (i := 3) (oi := ?oin6_3) (v := ?vn6_3) ?hin6_3 ?hsn6_3 ?hfn6_3 ?hrn6_3 ?hQn6_3 ?hyn6_3 ?hSn6_3 ?hn6_3)
            (case hin6_3 => rfl)
            (case hsn6_3 => kernel_rfl)
            (case hfn6_3 => kernel_rfl)
            (case hrn6_3 => kernel_rfl)
            (case hQn6_3 => first | exact fun _ _ _ h => h | exact fun _ _ _ h => (nomatch h.1))
            (case hSn6_3 => assumption)
            (case hyn6_3 => (refine Or.inl ⟨by rfl, ?_⟩; intro W hW; skip; go_simp; try with_reducible rfl))
            (try simp only [List.getElem_toArray, List.getElem_cons_succ, List.getElem_cons_zero, Act.put, List.setIfInBounds_toArray, List.set_cons_zero, List.set_cons_succ])
            (refine wpAnyH_take (i := 4) (oi := ?oin6_4) (v := ?vn6_4) ?hin6_4 ?hsn6_4 ?hfn6_4 ?hrn6_4 ?hQn6_4 ?hyn6_4 ?hSn6_4 ?hn6_4)
            (case hin6_4 => rfl)
            (case hsn6_4 => kernel_rfl)
            (case hfn6_4 => kernel_rfl)
            (case hrn6_4 => kernel_rfl)
            (case hQn6_4 => first | exact fun _ _ _ h => h | exact fun _ _ _ h => (nomatch h.1))
            (case hSn6_4 => assumption)
            (case hyn6_4 => (refine Or.inl ⟨by rfl, ?_⟩; intro W hW; skip; go_simp; try with_reducible rfl))
            (try simp only [List.getElem_toArray, List.getElem_cons_succ, List.getElem_cons_zero, Act.put, List.setIfInBounds_toArray, List.set_cons_zero, List.set_cons_succ])
            refine wpAnyH_ready (rs := [1]) (by kernel_rfl) (by simp) ?_
            refine AllReadyH.cons rfl (fun K hK => ?_) (AllReadyH.nil)
            go_simp
            refine (refNames_calls o.k _).mono ?_
            rintro e3 w3 ⟨rfl, hb3⟩
            have B3 : Below wr.heap.size wr w3 := (Below.refl _ _).drew.trans hb3
            refine hK.out _ _ (by exact hHeld.below hb3) (fun hHeld1 => ?_)
            clear hK K hHeld hb3
            try simp only [List.getElem_toArray, List.getElem_cons_succ, List.getElem_cons_zero, Act.put, List.setIfInBounds_toArray, List.set_cons_zero, List.set_cons_succ]
            refine wpAnyH_ready (rs := [5]) (by kernel_rfl) (by simp) ?_
            refine AllReadyH.cons rfl (fun K hK => ?_) (AllReadyH.nil)
            go_simp
            refine (HN.out _).mono ?_
            rintro e4 w4 ⟨rfl, hb4⟩
            have B4 := B3.trans (hb4.mono B3.size)
            refine hK.out _ _ (by exact hHeld1.below hb4) (fun hHeld2 => ?_)
            clear hK K hHeld1 hb4
            try simp only [List.getElem_toArray, List.getElem_cons_succ, List.getElem_cons_zero, Act.put, List.setIfInBounds_toArray, List.set_cons_zero, List.set_cons_succ]
            (refine wpAnyH_take (i := 6) (oi := ?oin6_6) (v := ?vn6_6) ?hin6_6 ?hsn6_6 ?hfn6_6 ?hrn6_6 ?hQn6_6 ?hyn6_6 ?hSn6_6 ?hn6_6)
            (case hin6_6 => rfl)
            (case hsn6_6 => kernel_rfl)
            (case hfn6_6 => kernel_rfl)
            (case hrn6_6 => kernel_rfl)
            (case hQn6_6 => first | exact fun _ _ _ h => h | exact fun _ _ _ h => (nomatch h.1))
            (case hSn6_6 => assumption)
            (case hyn6_6 => (refine Or.inl ⟨by rfl, ?_⟩; intro W hW; skip; go_simp; try with_reducible rfl))
            (try simp only [List.getElem_toArray, List.getElem_cons_succ, List.getElem_cons_zero, Act.put, List.setIfInBounds_toArray, List.set_cons_zero, List.set_cons_succ])
            (refine wpAnyH_take (i := 7) (oi := ?oin6_7) (v := ?vn6_7) ?hin6_7 ?hsn6_7 ?hfn6_7 ?hrn6_7 ?hQn6_7 ?hyn6_7 ?hSn6_7 ?hn6_7)
            (case hin6_7 => rfl)
            (case hsn6_7 => kernel_rfl)
            (case hfn6_7 => kernel_rfl)
            (case hrn6_7 => kernel_rfl)
            (case hQn6_7 => first | exact fun _ _ _ h => h | exact fun _ _ _ h => (nomatch h.1))
            (case hSn6_7 => assumption)
            (case hyn6_7 => (refine Or.inl ⟨by rfl, ?_⟩; intro W hW; skip; go_simp; try with_reducible rfl))
            (try simp only [List.getElem_toArray, List.getElem_cons_succ, List.getElem_cons_zero, Act.put, List.setIfInBounds_toArray, List.set_cons_zero, List.set_cons_succ])
            (refine wpAnyH_take (i := 8) (oi := ?oin6_8) (v := undef) ?hin6_8 ?hsn6_8 ?hfn6_8 ?hrn6_8 ?hQn6_8 ?hyn6_8 ?hSn6_8 ?hn6_8)
            (case hin6_8 => rfl)
            (case hsn6_8 => kernel_rfl)
            (case hfn6_8 => kernel_rfl)
            (case hrn6_8 => kernel_rfl)
            (case hQn6_8 => first | exact fun _ _ _ h => h | exact fun _ _ _ h => (nomatch h.1))
            (case hSn6_8 => assumption)
            (case hyn6_8 => exact Or.inr ⟨by rfl, rfl⟩)
            (try simp only [List.getElem_toArray, List.getElem_cons_succ, List.getElem_cons_zero, Act.put, List.setIfInBounds_toArray, List.set_cons_zero, List.set_cons_succ])
            (refine wpAnyH_take (i := 9) (oi := ?oin6_9) (v := undef) ?hin6_9 ?hsn6_9 ?hfn6_9 ?hrn6_9 ?hQn6_9 ?hyn6_9 ?hSn6_9 ?hn6_9)
            (case hin6_9 => rfl)
            (case hsn6_9 => kernel_rfl)
            (case hfn6_9 => kernel_rfl)
            (case hrn6_9 => kernel_rfl)
            (case hQn6_9 => first | exact fun _ _ _ h => h | exact fun _ _ _ h => (nomatch h.1))
            (case hSn6_9 => assumption)
            (case hyn6_9 => exact Or.inr ⟨by rfl, rfl⟩)
            (try simp only [List.getElem_toArray, List.getElem_cons_succ, List.getElem_cons_zero, Act.put, List.setIfInBounds_toArray, List.set_cons_zero, List.set_cons_succ])
            (refine wpAnyH_take (i := 10) (oi := ?oin6_10) (v := undef) ?hin6_10 ?hsn6_10 ?hfn6_10 ?hrn6_10 ?hQn6_10 ?hyn6_10 ?hSn6_10 ?hn6_10)
            (case hin6_10 => rfl)
            (case hsn6_10 => kernel_rfl)
            (case hfn6_10 => kernel_rfl)
            (case hrn6_10 => kernel_rfl)
            (case hQn6_10 => first | exact fun _ _ _ h => h | exact fun _ _ _ h => (nomatch h.1))
            (case hSn6_10 => assumption)
            (case hyn6_10 => exact Or.inr ⟨by rfl, rfl⟩)
            (try simp only [List.getElem_toArray, List.getElem_cons_succ, List.getElem_cons_zero, Act.put, List.setIfInBounds_toArray, List.set_cons_zero, List.set_cons_succ])
            (refine wpAnyH_take (i := 11) (oi := ?oin6_11) (v := undef) ?hin6_11 ?hsn6_11 ?hfn6_11 ?hrn6_11 ?hQn6_11 ?hyn6_11 ?hSn6_11 ?hn6_11)
            (case hin6_11 => rfl)
            (case hsn6_11 => kernel_rfl)
            (case hfn6_11 => kernel_rfl)
            (case hrn6_11 => kernel_rfl)
            (case hQn6_11 => first | exact fun _ _ _ h => h | exact fun _ _ _ h => (nomatch h.1))
            (case hSn6_11 => assumption)
            (case hyn6_11 => exact Or.inr ⟨by rfl, rfl⟩)
            (try simp only [List.getElem_toArray, List.getElem_cons_succ, List.getElem_cons_zero, Act.put, List.setIfInBounds_toArray, List.set_cons_zero, List.set_cons_succ])
            (refine wpAnyH_take (i := 12) (oi := ?oin6_12) (v := undef) ?hin6_12 ?hsn6_12 ?hfn6_12 ?hrn6_12 ?hQn6_12 ?hyn6_12 ?hSn6_12 ?hn6_12)
            (case hin6_12 => rfl)
            (case hsn6_12 => kernel_rfl)
            (case hfn6_12 => kernel_rfl)
            (case hrn6_12 => kernel_rfl)
            (case hQn6_12 => first | exact fun _ _ _ h => h | exact fun _ _ _ h => (nomatch h.1))
            (case hSn6_12 => assumption)
            (case hyn6_12 => exact Or.inr ⟨by rfl, rfl⟩)
            (try simp only [List.getElem_toArray, List.getElem_cons_succ, List.getElem_cons_zero, Act.put, List.setIfInBounds_toArray, List.set_cons_zero, List.set_cons_succ])
            (refine wpAnyH_take (i := 13) (oi := ?oin6_13) (v := undef) ?hin6_13 ?hsn6_13 ?hfn6_13 ?hrn6_13 ?hQn6_13 ?hyn6_13 ?hSn6_13 ?hn6_13)
            (case hin6_13 => rfl)
            (case hsn6_13 => kernel_rfl)
            (case hfn6_13 => kernel_rfl)
            (case hrn6_13 => kernel_rfl)
            (case hQn6_13 => first | exact fun _ _ _ h => h | exact fun _ _ _ h => (nomatch h.1))
            (case hSn6_13 => assumption)
            (case hyn6_13 => exact Or.inr ⟨by rfl, rfl⟩)
            (try simp only [List.getElem_toArray, List.getElem_cons_succ, List.getElem_cons_zero, Act.put, List.setIfInBounds_toArray, List.set_cons_zero, List.set_cons_succ])
            (refine wpAnyH_take (i := 14) (oi := ?oin6_14) (v := ?vn6_14) ?hin6_14 ?hsn6_14 ?hfn6_14 ?hrn6_14 ?hQn6_14 ?hyn6_14 ?hSn6_14 ?hn6_14)
            (case hin6_14 => rfl)
            (case hsn6_14 => kernel_rfl)
            (case hfn6_14 => kernel_rfl)
            (case hrn6_14 => kernel_rfl)
            (case hQn6_14 => first | exact fun _ _ _ h => h | exact fun _ _ _ h => (nomatch h.1))
            (case hSn6_14 => assumption)
            (case hyn6_14 => (refine Or.inl ⟨by rfl, ?_⟩; intro W hW; skip; go_simp; try with_reducible rfl))
            (try simp only [List.getElem_toArray, List.getElem_cons_succ, List.getElem_cons_zero, Act.put, List.setIfInBounds_toArray, List.set_cons_zero, List.set_cons_succ])
            refine wpAnyH_done (by kernel_rfl) ?_ _
            have BW := HB9.out.trans (B4.mono HB9.out.size)
            have O9' := HO9.out.below (B4)
            go_wp2
            refine ⟨?_, ?_⟩
            · exact ⟨7, 7, by omega, rfl, rfl, BW, O9', zero_step hzt.out (.inl HC.out)⟩
            · simp [intOf]
          | false =>
            rw [hc] at HN
            have HG := Lib.hid (fun W => get_calls o 6 (by omega) W)
            unfold opVal at HG
            by_cases hv : o.y = 0
            · have hv' : o.get 6 = 0 := hv
              rw [hv'] at HG
              have HV := Lib.hid hv'
              clear hv hv' hc
              go_wp2_with fail
              refine wp_region_held_drew (S := fun A => OpAt A w.heap.size o) (by kernel_rfl) HO9.out.drew (fun hHeld => ?_)
              (refine wpAnyH_take (i := 0) (oi := ?oiz6_0) (v := ?vz6_0) ?hiz6_0 ?hsz6_0 ?hfz6_0 ?hrz6_0 ?hQz6_0 ?hyz6_0 ?hSz6_0 ?hz6_0)
              (case hiz6_0 => rfl)
              (case hsz6_0 => kernel_rfl)
              (case hfz6_0 => kernel_rfl)
              (case hrz6_0 => kernel_rfl)
              (case hQz6_0 => first | exact fun _ _ _ h => h | exact fun _ _ _ h => (nomatch h.1))
              (case hSz6_0 => assumption)
              (case hyz6_0 => (refine Or.inl ⟨by rfl, ?_⟩; intro W hW; skip; go_simp; try with_reducible rfl))
              (try simp only [List.getElem_toArray, List.getElem_cons_succ, List.getElem_cons_zero, Act.put, List.setIfInBounds_toArray, List.set_cons_zero, List.set_cons_succ])
              (refine wpAnyH_take (i := 2) (oi := ?oiz6_2) (v := ?vz6_2) ?hiz6_2 ?hsz6_2 ?hfz6_2 ?hrz6_2 ?hQz6_2 ?hyz6_2 ?hSz6_2 ?hz6_2)
              (case hiz6_2 => rfl)
              (case hsz6_2 => kernel_rfl)
              (case hfz6_2 => kernel_rfl)
              (case hrz6_2 => kernel_rfl)
              (case hQz6_2 => first | exact fun _ _ _ h => h | exact fun _ _ _ h => (nomatch h.1))
              (case hSz6_2 => assumption)
              (case hyz6_2 => (refine Or.inl ⟨by rfl, ?_⟩; intro W hW; skip; go_simp; try with_reducible rfl))
              (try simp only [List.getElem_toArray, List.getElem_cons_succ, List.getElem_cons_zero, Act.put, List.setIfInBounds_toArray, List.set_cons_zero, List.set_cons_succ])
              (refine wpAnyH_take (i := 3) (oi := ?oiz6_3) (v := ?vz6_3) ?hiz6_3 ?hsz6_3 ?hfz6_3 ?hrz6_3 ?hQz6_3 ?hyz6_3 ?hSz6_3 ?hz6_3)
              (case hiz6_3 => rfl)
              (case hsz6_3 => kernel_rfl)
              (case hfz6_3 => kernel_rfl)
              (case hrz6_3 => kernel_rfl)
              (case hQz6_3 => first | exact fun _ _ _ h => h | exact fun _ _ _ h => (nomatch h.1))
              (case hSz6_3 => assumption)
              (case hyz6_3 => (refine Or.inl ⟨by rfl, ?_⟩; intro W hW; skip; go_simp; try with_reducible rfl))
              (try simp only [List.getElem_toArray, List.getElem_cons_succ, List.getElem_cons_zero, Act.put, List.setIfInBounds_toArray, List.set_cons_zero, List.set_cons_succ])
              (refine wpAnyH_take (i := 4) (oi := ?oiz6_4) (v := ?vz6_4) ?hiz6_4 ?hsz6_4 ?hfz6_4 ?hrz6_4 ?hQz6_4 ?hyz6_4 ?hSz6_4 ?hz6_4)
              (case hiz6_4 => rfl)
              (case hsz6_4 => kernel_rfl)
              (case hfz6_4 => kernel_rfl)
              (case hrz6_4 => kernel_rfl)
              (case hQz6_4 => first | exact fun _ _ _ h => h | exact fun _ _ _ h => (nomatch h.1))
              (case hSz6_4 => assumption)
              (case hyz6_4 => (refine Or.inl ⟨by rfl, ?_⟩; intro W hW; skip; go_simp; try with_reducible rfl))
              (try simp only [List.getElem_toArray, List.getElem_cons_succ, List.getElem_cons_zero, Act.put, List.setIfInBounds_toArray, List.set_cons_zero, List.set_cons_succ])
              refine wpAnyH_ready (rs := [1]) (by kernel_rfl) (by simp) ?_
              refine AllReadyH.cons rfl (fun K hK => ?_) (AllReadyH.nil)
              go_simp
              refine (refNames_calls o.k _).mono ?_
              rintro e3 w3 ⟨rfl, hb3⟩
              have B3 : Below wr.heap.size wr w3 := (Below.refl _ _).drew.trans hb3
              refine hK.out _ _ (by exact hHeld.below hb3) (fun hHeld1 => ?_)
              clear hK K hHeld hb3
              try simp only [List.getElem_toArray, List.getElem_cons_succ, List.getElem_cons_zero, Act.put, List.setIfInBounds_toArray, List.set_cons_zero, List.set_cons_succ]
              refine wpAnyH_ready (rs := [5]) (by kernel_rfl) (by simp) ?_
              refine AllReadyH.cons rfl (fun K hK => ?_) (AllReadyH.nil)
              go_simp
              refine (HN.out _).mono ?_
              rintro e4 w4 ⟨rfl, hb4⟩
              have B4 := B3.trans (hb4.mono B3.size)
              refine hK.out _ _ (by exact hHeld1.below hb4) (fun hHeld2 => ?_)
              clear hK K hHeld1 hb4
              try simp only [List.getElem_toArray, List.getElem_cons_succ, List.getElem_cons_zero, Act.put, List.setIfInBounds_toArray, List.set_cons_zero, List.set_cons_succ]
              (refine wpAnyH_take (i := 6) (oi := ?oiz6_6) (v := ?vz6_6) ?hiz6_6 ?hsz6_6 ?hfz6_6 ?hrz6_6 ?hQz6_6 ?hyz6_6 ?hSz6_6 ?hz6_6)
              (case hiz6_6 => rfl)
              (case hsz6_6 => kernel_rfl)
              (case hfz6_6 => kernel_rfl)
              (case hrz6_6 => kernel_rfl)
              (case hQz6_6 => first | exact fun _ _ _ h => h | exact fun _ _ _ h => (nomatch h.1))
              (case hSz6_6 => assumption)
              (case hyz6_6 => (refine Or.inl ⟨by rfl, ?_⟩; intro W hW; skip; go_simp; try with_reducible rfl))
              (try simp only [List.getElem_toArray, List.getElem_cons_succ, List.getElem_cons_zero, Act.put, List.setIfInBounds_toArray, List.set_cons_zero, List.set_cons_succ])
              (refine wpAnyH_take (i := 7) (oi := ?oiz6_7) (v := ?vz6_7) ?hiz6_7 ?hsz6_7 ?hfz6_7 ?hrz6_7 ?hQz6_7 ?hyz6_7 ?hSz6_7 ?hz6_7)
              (case hiz6_7 => rfl)
              (case hsz6_7 => kernel_rfl)
              (case hfz6_7 => kernel_rfl)
              (case hrz6_7 => kernel_rfl)
              (case hQz6_7 => first | exact fun _ _ _ h => h | exact fun _ _ _ h => (nomatch h.1))
              (case hSz6_7 => assumption)
              (case hyz6_7 => (refine Or.inl ⟨by rfl, ?_⟩; intro W hW; skip; go_simp; try with_reducible rfl))
              (try simp only [List.getElem_toArray, List.getElem_cons_succ, List.getElem_cons_zero, Act.put, List.setIfInBounds_toArray, List.set_cons_zero, List.set_cons_succ])
              (refine wpAnyH_take (i := 8) (oi := ?oiz6_8) (v := ?vz6_8) ?hiz6_8 ?hsz6_8 ?hfz6_8 ?hrz6_8 ?hQz6_8 ?hyz6_8 ?hSz6_8 ?hz6_8)
              (case hiz6_8 => rfl)
              (case hsz6_8 => kernel_rfl)
              (case hfz6_8 => kernel_rfl)
              (case hrz6_8 => kernel_rfl)
              (case hQz6_8 => first | exact fun _ _ _ h => h | exact fun _ _ _ h => (nomatch h.1))
              (case hSz6_8 => assumption)
              (case hyz6_8 => (refine Or.inl ⟨by rfl, ?_⟩; intro W hW; obtain ⟨q1, q2, q3, q4, q5, q6, q7, q8, q9, qf⟩ := hW; go_simp; try with_reducible rfl))
              (try simp only [List.getElem_toArray, List.getElem_cons_succ, List.getElem_cons_zero, Act.put, List.setIfInBounds_toArray, List.set_cons_zero, List.set_cons_succ])
              (refine wpAnyH_take (i := 9) (oi := ?oiz6_9) (v := ?vz6_9) ?hiz6_9 ?hsz6_9 ?hfz6_9 ?hrz6_9 ?hQz6_9 ?hyz6_9 ?hSz6_9 ?hz6_9)
              (case hiz6_9 => rfl)
              (case hsz6_9 => kernel_rfl)
              (case hfz6_9 => kernel_rfl)
              (case hrz6_9 => kernel_rfl)
              (case hQz6_9 => first | exact fun _ _ _ h => h | exact fun _ _ _ h => (nomatch h.1))
              (case hSz6_9 => assumption)
              (case hyz6_9 => (refine Or.inl ⟨by rfl, ?_⟩; intro W hW; skip; go_simp; try with_reducible rfl))
              (try simp only [List.getElem_toArray, List.getElem_cons_succ, List.getElem_cons_zero, Act.put, List.setIfInBounds_toArray, List.set_cons_zero, List.set_cons_succ])
              (refine wpAnyH_take (i := 10) (oi := ?oiz6_10) (v := ?vz6_10) ?hiz6_10 ?hsz6_10 ?hfz6_10 ?hrz6_10 ?hQz6_10 ?hyz6_10 ?hSz6_10 ?hz6_10)
              (case hiz6_10 => rfl)
              (case hsz6_10 => kernel_rfl)
              (case hfz6_10 => kernel_rfl)
              (case hrz6_10 => kernel_rfl)
              (case hQz6_10 => first | exact fun _ _ _ h => h | exact fun _ _ _ h => (nomatch h.1))
              (case hSz6_10 => assumption)
              (case hyz6_10 => (refine Or.inl ⟨by rfl, ?_⟩; intro W hW; skip; go_simp; try with_reducible rfl))
              (try simp only [List.getElem_toArray, List.getElem_cons_succ, List.getElem_cons_zero, Act.put, List.setIfInBounds_toArray, List.set_cons_zero, List.set_cons_succ])
              (refine wpAnyH_take (i := 11) (oi := ?oiz6_11) (v := ?vz6_11) ?hiz6_11 ?hsz6_11 ?hfz6_11 ?hrz6_11 ?hQz6_11 ?hyz6_11 ?hSz6_11 ?hz6_11)
              (case hiz6_11 => rfl)
              (case hsz6_11 => kernel_rfl)
              (case hfz6_11 => kernel_rfl)
              (case hrz6_11 => kernel_rfl)
              (case hQz6_11 => first | exact fun _ _ _ h => h | exact fun _ _ _ h => (nomatch h.1))
              (case hSz6_11 => assumption)
              (case hyz6_11 => (refine Or.inl ⟨by rfl, ?_⟩; intro W hW; skip; go_simp; try with_reducible rfl))
              (try simp only [List.getElem_toArray, List.getElem_cons_succ, List.getElem_cons_zero, Act.put, List.setIfInBounds_toArray, List.set_cons_zero, List.set_cons_succ])
              refine wpAnyH_ready (rs := [12]) (by kernel_rfl) (by simp) ?_
              refine AllReadyH.cons rfl (fun K hK => ?_) (AllReadyH.nil)
              go_simp
              refine (HG.out _).mono ?_
              rintro e5 w5 ⟨rfl, hb5⟩
              have B5 := B4.trans (hb5.mono B4.size)
              refine hK.out _ _ (by exact hHeld2.below hb5) (fun hHeld3 => ?_)
              clear hK K hHeld2 hb5
              try simp only [List.getElem_toArray, List.getElem_cons_succ, List.getElem_cons_zero, Act.put, List.setIfInBounds_toArray, List.set_cons_zero, List.set_cons_succ]
              (refine wpAnyH_take (i := 13) (oi := ?oiz6_13) (v := ?vz6_13) ?hiz6_13 ?hsz6_13 ?hfz6_13 ?hrz6_13 ?hQz6_13 ?hyz6_13 ?hSz6_13 ?hz6_13)
              (case hiz6_13 => rfl)
              (case hsz6_13 => kernel_rfl)
              (case hfz6_13 => kernel_rfl)
              (case hrz6_13 => kernel_rfl)
              (case hQz6_13 => first | exact fun _ _ _ h => h | exact fun _ _ _ h => (nomatch h.1))
              (case hSz6_13 => assumption)
              (case hyz6_13 => (refine Or.inl ⟨by rfl, ?_⟩; intro W hW; skip; go_simp; try with_reducible rfl))
              (try simp only [List.getElem_toArray, List.getElem_cons_succ, List.getElem_cons_zero, Act.put, List.setIfInBounds_toArray, List.set_cons_zero, List.set_cons_succ])
              (refine wpAnyH_take (i := 14) (oi := ?oiz6_14) (v := ?vz6_14) ?hiz6_14 ?hsz6_14 ?hfz6_14 ?hrz6_14 ?hQz6_14 ?hyz6_14 ?hSz6_14 ?hz6_14)
              (case hiz6_14 => rfl)
              (case hsz6_14 => kernel_rfl)
              (case hfz6_14 => kernel_rfl)
              (case hrz6_14 => kernel_rfl)
              (case hQz6_14 => first | exact fun _ _ _ h => h | exact fun _ _ _ h => (nomatch h.1))
              (case hSz6_14 => assumption)
              (case hyz6_14 => (refine Or.inl ⟨by rfl, ?_⟩; intro W hW; skip; go_simp; try with_reducible rfl))
              (try simp only [List.getElem_toArray, List.getElem_cons_succ, List.getElem_cons_zero, Act.put, List.setIfInBounds_toArray, List.set_cons_zero, List.set_cons_succ])
              refine wpAnyH_done (by kernel_rfl) ?_ _
              have BW := HB9.out.trans (B5.mono HB9.out.size)
              have O9' := HO9.out.below (B5)
              go_wp2
              refine ⟨?_, ?_⟩
              · exact ⟨7, 7, by omega, rfl, rfl, BW, O9', zero_step hzt.out (.inr HV.out)⟩
              · simp [intOf]
            · have hv' : (o.y != 0) = true := by rw [bne_iff_ne]; exact hv
              have HNB := Lib.hid (nonzero_bare o 6 (by omega) hc hv)
              have hg' : ∀ W, Calls Tryd.prog 32 #[.agg #[.int .i64 o.k, .int .i64 o.a, .int .i64 o.b, .int .i64 o.c, .int .i64 o.f, .int .i64 o.s, .int .i64 o.x, .int .i64 o.y], .int .u8 (letterN 6).toNat] W fun e w' => e = .returned (.int .i64 o.y) ∧ Below W.heap.size W w' := HG.out
              replace HG := Lib.hid hg'
              clear hv hc hg'
              go_wp2_with fail
              refine wp_region_held_drew (S := fun A => OpAt A w.heap.size o) (by kernel_rfl) HO9.out.drew (fun hHeld => ?_)
              (refine wpAnyH_take (i := 0) (oi := ?oib6_0) (v := ?vb6_0) ?hib6_0 ?hsb6_0 ?hfb6_0 ?hrb6_0 ?hQb6_0 ?hyb6_0 ?hSb6_0 ?hb6_0)
              (case hib6_0 => rfl)
              (case hsb6_0 => kernel_rfl)
              (case hfb6_0 => kernel_rfl)
              (case hrb6_0 => kernel_rfl)
              (case hQb6_0 => first | exact fun _ _ _ h => h | exact fun _ _ _ h => (nomatch h.1))
              (case hSb6_0 => assumption)
              (case hyb6_0 => (refine Or.inl ⟨by rfl, ?_⟩; intro W hW; skip; go_simp; try with_reducible rfl))
              (try simp only [List.getElem_toArray, List.getElem_cons_succ, List.getElem_cons_zero, Act.put, List.setIfInBounds_toArray, List.set_cons_zero, List.set_cons_succ])
              (refine wpAnyH_take (i := 2) (oi := ?oib6_2) (v := ?vb6_2) ?hib6_2 ?hsb6_2 ?hfb6_2 ?hrb6_2 ?hQb6_2 ?hyb6_2 ?hSb6_2 ?hb6_2)
              (case hib6_2 => rfl)
              (case hsb6_2 => kernel_rfl)
              (case hfb6_2 => kernel_rfl)
              (case hrb6_2 => kernel_rfl)
              (case hQb6_2 => first | exact fun _ _ _ h => h | exact fun _ _ _ h => (nomatch h.1))
              (case hSb6_2 => assumption)
              (case hyb6_2 => (refine Or.inl ⟨by rfl, ?_⟩; intro W hW; skip; go_simp; try with_reducible rfl))
              (try simp only [List.getElem_toArray, List.getElem_cons_succ, List.getElem_cons_zero, Act.put, List.setIfInBounds_toArray, List.set_cons_zero, List.set_cons_succ])
              (refine wpAnyH_take (i := 3) (oi := ?oib6_3) (v := ?vb6_3) ?hib6_3 ?hsb6_3 ?hfb6_3 ?hrb6_3 ?hQb6_3 ?hyb6_3 ?hSb6_3 ?hb6_3)
              (case hib6_3 => rfl)
              (case hsb6_3 => kernel_rfl)
              (case hfb6_3 => kernel_rfl)
              (case hrb6_3 => kernel_rfl)
              (case hQb6_3 => first | exact fun _ _ _ h => h | exact fun _ _ _ h => (nomatch h.1))
              (case hSb6_3 => assumption)
              (case hyb6_3 => (refine Or.inl ⟨by rfl, ?_⟩; intro W hW; skip; go_simp; try with_reducible rfl))
              (try simp only [List.getElem_toArray, List.getElem_cons_succ, List.getElem_cons_zero, Act.put, List.setIfInBounds_toArray, List.set_cons_zero, List.set_cons_succ])
              (refine wpAnyH_take (i := 4) (oi := ?oib6_4) (v := ?vb6_4) ?hib6_4 ?hsb6_4 ?hfb6_4 ?hrb6_4 ?hQb6_4 ?hyb6_4 ?hSb6_4 ?hb6_4)
              (case hib6_4 => rfl)
              (case hsb6_4 => kernel_rfl)
              (case hfb6_4 => kernel_rfl)
              (case hrb6_4 => kernel_rfl)
              (case hQb6_4 => first | exact fun _ _ _ h => h | exact fun _ _ _ h => (nomatch h.1))
              (case hSb6_4 => assumption)
              (case hyb6_4 => (refine Or.inl ⟨by rfl, ?_⟩; intro W hW; skip; go_simp; try with_reducible rfl))
              (try simp only [List.getElem_toArray, List.getElem_cons_succ, List.getElem_cons_zero, Act.put, List.setIfInBounds_toArray, List.set_cons_zero, List.set_cons_succ])
              refine wpAnyH_ready (rs := [1]) (by kernel_rfl) (by simp) ?_
              refine AllReadyH.cons rfl (fun K hK => ?_) (AllReadyH.nil)
              go_simp
              refine (refNames_calls o.k _).mono ?_
              rintro e3 w3 ⟨rfl, hb3⟩
              have B3 : Below wr.heap.size wr w3 := (Below.refl _ _).drew.trans hb3
              refine hK.out _ _ (by exact hHeld.below hb3) (fun hHeld1 => ?_)
              clear hK K hHeld hb3
              try simp only [List.getElem_toArray, List.getElem_cons_succ, List.getElem_cons_zero, Act.put, List.setIfInBounds_toArray, List.set_cons_zero, List.set_cons_succ]
              refine wpAnyH_ready (rs := [5]) (by kernel_rfl) (by simp) ?_
              refine AllReadyH.cons rfl (fun K hK => ?_) (AllReadyH.nil)
              go_simp
              refine (HN.out _).mono ?_
              rintro e4 w4 ⟨rfl, hb4⟩
              have B4 := B3.trans (hb4.mono B3.size)
              refine hK.out _ _ (by exact hHeld1.below hb4) (fun hHeld2 => ?_)
              clear hK K hHeld1 hb4
              try simp only [List.getElem_toArray, List.getElem_cons_succ, List.getElem_cons_zero, Act.put, List.setIfInBounds_toArray, List.set_cons_zero, List.set_cons_succ]
              (refine wpAnyH_take (i := 6) (oi := ?oib6_6) (v := ?vb6_6) ?hib6_6 ?hsb6_6 ?hfb6_6 ?hrb6_6 ?hQb6_6 ?hyb6_6 ?hSb6_6 ?hb6_6)
              (case hib6_6 => rfl)
              (case hsb6_6 => kernel_rfl)
              (case hfb6_6 => kernel_rfl)
              (case hrb6_6 => kernel_rfl)
              (case hQb6_6 => first | exact fun _ _ _ h => h | exact fun _ _ _ h => (nomatch h.1))
              (case hSb6_6 => assumption)
              (case hyb6_6 => (refine Or.inl ⟨by rfl, ?_⟩; intro W hW; skip; go_simp; try with_reducible rfl))
              (try simp only [List.getElem_toArray, List.getElem_cons_succ, List.getElem_cons_zero, Act.put, List.setIfInBounds_toArray, List.set_cons_zero, List.set_cons_succ])
              (refine wpAnyH_take (i := 7) (oi := ?oib6_7) (v := ?vb6_7) ?hib6_7 ?hsb6_7 ?hfb6_7 ?hrb6_7 ?hQb6_7 ?hyb6_7 ?hSb6_7 ?hb6_7)
              (case hib6_7 => rfl)
              (case hsb6_7 => kernel_rfl)
              (case hfb6_7 => kernel_rfl)
              (case hrb6_7 => kernel_rfl)
              (case hQb6_7 => first | exact fun _ _ _ h => h | exact fun _ _ _ h => (nomatch h.1))
              (case hSb6_7 => assumption)
              (case hyb6_7 => (refine Or.inl ⟨by rfl, ?_⟩; intro W hW; skip; go_simp; try with_reducible rfl))
              (try simp only [List.getElem_toArray, List.getElem_cons_succ, List.getElem_cons_zero, Act.put, List.setIfInBounds_toArray, List.set_cons_zero, List.set_cons_succ])
              (refine wpAnyH_take (i := 8) (oi := ?oib6_8) (v := ?vb6_8) ?hib6_8 ?hsb6_8 ?hfb6_8 ?hrb6_8 ?hQb6_8 ?hyb6_8 ?hSb6_8 ?hb6_8)
              (case hib6_8 => rfl)
              (case hsb6_8 => kernel_rfl)
              (case hfb6_8 => kernel_rfl)
              (case hrb6_8 => kernel_rfl)
              (case hQb6_8 => first | exact fun _ _ _ h => h | exact fun _ _ _ h => (nomatch h.1))
              (case hSb6_8 => assumption)
              (case hyb6_8 => (refine Or.inl ⟨by rfl, ?_⟩; intro W hW; obtain ⟨q1, q2, q3, q4, q5, q6, q7, q8, q9, qf⟩ := hW; go_simp; try with_reducible rfl))
              (try simp only [List.getElem_toArray, List.getElem_cons_succ, List.getElem_cons_zero, Act.put, List.setIfInBounds_toArray, List.set_cons_zero, List.set_cons_succ])
              (refine wpAnyH_take (i := 9) (oi := ?oib6_9) (v := ?vb6_9) ?hib6_9 ?hsb6_9 ?hfb6_9 ?hrb6_9 ?hQb6_9 ?hyb6_9 ?hSb6_9 ?hb6_9)
              (case hib6_9 => rfl)
              (case hsb6_9 => kernel_rfl)
              (case hfb6_9 => kernel_rfl)
              (case hrb6_9 => kernel_rfl)
              (case hQb6_9 => first | exact fun _ _ _ h => h | exact fun _ _ _ h => (nomatch h.1))
              (case hSb6_9 => assumption)
              (case hyb6_9 => (refine Or.inl ⟨by rfl, ?_⟩; intro W hW; skip; go_simp; try with_reducible rfl))
              (try simp only [List.getElem_toArray, List.getElem_cons_succ, List.getElem_cons_zero, Act.put, List.setIfInBounds_toArray, List.set_cons_zero, List.set_cons_succ])
              (refine wpAnyH_take (i := 10) (oi := ?oib6_10) (v := ?vb6_10) ?hib6_10 ?hsb6_10 ?hfb6_10 ?hrb6_10 ?hQb6_10 ?hyb6_10 ?hSb6_10 ?hb6_10)
              (case hib6_10 => rfl)
              (case hsb6_10 => kernel_rfl)
              (case hfb6_10 => kernel_rfl)
              (case hrb6_10 => kernel_rfl)
              (case hQb6_10 => first | exact fun _ _ _ h => h | exact fun _ _ _ h => (nomatch h.1))
              (case hSb6_10 => assumption)
              (case hyb6_10 => (refine Or.inl ⟨by rfl, ?_⟩; intro W hW; skip; go_simp; try with_reducible rfl))
              (try simp only [List.getElem_toArray, List.getElem_cons_succ, List.getElem_cons_zero, Act.put, List.setIfInBounds_toArray, List.set_cons_zero, List.set_cons_succ])
              (refine wpAnyH_take (i := 11) (oi := ?oib6_11) (v := ?vb6_11) ?hib6_11 ?hsb6_11 ?hfb6_11 ?hrb6_11 ?hQb6_11 ?hyb6_11 ?hSb6_11 ?hb6_11)
              (case hib6_11 => rfl)
              (case hsb6_11 => kernel_rfl)
              (case hfb6_11 => kernel_rfl)
              (case hrb6_11 => kernel_rfl)
              (case hQb6_11 => first | exact fun _ _ _ h => h | exact fun _ _ _ h => (nomatch h.1))
              (case hSb6_11 => assumption)
              (case hyb6_11 => (refine Or.inl ⟨by rfl, ?_⟩; intro W hW; skip; go_simp; try with_reducible rfl))
              (try simp only [List.getElem_toArray, List.getElem_cons_succ, List.getElem_cons_zero, Act.put, List.setIfInBounds_toArray, List.set_cons_zero, List.set_cons_succ])
              refine wpAnyH_ready (rs := [12]) (by kernel_rfl) (by simp) ?_
              refine AllReadyH.cons rfl (fun K hK => ?_) (AllReadyH.nil)
              go_simp
              refine (HG.out _).mono ?_
              rintro e5 w5 ⟨rfl, hb5⟩
              have B5 := B4.trans (hb5.mono B4.size)
              refine hK.out _ _ (by exact hHeld2.below hb5) (fun hHeld3 => ?_)
              clear hK K hHeld2 hb5
              try simp only [List.getElem_toArray, List.getElem_cons_succ, List.getElem_cons_zero, Act.put, List.setIfInBounds_toArray, List.set_cons_zero, List.set_cons_succ]
              (refine wpAnyH_take (i := 13) (oi := ?oib6_13) (v := ?vb6_13) ?hib6_13 ?hsb6_13 ?hfb6_13 ?hrb6_13 ?hQb6_13 ?hyb6_13 ?hSb6_13 ?hb6_13)
              (case hib6_13 => rfl)
              (case hsb6_13 => kernel_rfl)
              (case hfb6_13 => kernel_rfl)
              (case hrb6_13 => kernel_rfl)
              (case hQb6_13 => first | exact fun _ _ _ h => h | exact fun _ _ _ h => (nomatch h.1))
              (case hSb6_13 => assumption)
              (case hyb6_13 => (refine Or.inl ⟨by rfl, ?_⟩; intro W hW; skip; go_simp; try with_reducible rfl))
              (try simp only [List.getElem_toArray, List.getElem_cons_succ, List.getElem_cons_zero, Act.put, List.setIfInBounds_toArray, List.set_cons_zero, List.set_cons_succ])
              (refine wpAnyH_take (i := 14) (oi := ?oib6_14) (v := ?vb6_14) ?hib6_14 ?hsb6_14 ?hfb6_14 ?hrb6_14 ?hQb6_14 ?hyb6_14 ?hSb6_14 ?hb6_14)
              (case hib6_14 => rfl)
              (case hsb6_14 => kernel_rfl)
              (case hfb6_14 => kernel_rfl)
              (case hrb6_14 => kernel_rfl)
              (case hQb6_14 => first | exact fun _ _ _ h => h | exact fun _ _ _ h => (nomatch h.1))
              (case hSb6_14 => assumption)
              (case hyb6_14 => (refine Or.inl ⟨by rfl, ?_⟩; intro W hW; skip; go_simp; try with_reducible rfl))
              (try simp only [List.getElem_toArray, List.getElem_cons_succ, List.getElem_cons_zero, Act.put, List.setIfInBounds_toArray, List.set_cons_zero, List.set_cons_succ])
              refine wpAnyH_done (by kernel_rfl) ?_ _
              have BW := HB9.out.trans (B5.mono HB9.out.size)
              go_wp2
              go_ret
              exact ⟨by rw [HNB.out]; rfl, BW⟩
      · obtain rfl : j = 7 := by omega
        obtain rfl : t = 7 := by omega
        clear ht hlt
        go_wp2
        go_ret
        exact ⟨by rw [zero_bare o HK.out hzt.out]; rfl, HB9.out⟩

end Go.Proofs.YtlohfcinffaagaaDoor
