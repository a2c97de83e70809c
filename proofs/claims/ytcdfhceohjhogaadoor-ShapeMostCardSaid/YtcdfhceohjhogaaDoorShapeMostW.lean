/- The statement ShapeMost, as a walk: the greatest size is one of the sizes, and none is greater. -/
import Derived.Test.YtcdfhceohjhogaaDoorLaw03
namespace Go.Proofs.YtcdfhceohjhogaaDoor
open Go.RowKit

theorem mostTo_mono (ss : List ByteArray) (j k : Nat) (h : j ≤ k) (hk : k ≤ ss.length) : mostTo ss j ≤ mostTo ss k := by
  induction k with
  | zero => obtain rfl : j = 0 := by omega
            exact Nat.le_refl _
  | succ k ih =>
    by_cases e : j = k + 1
    · rw [e]; exact Nat.le_refl _
    · rw [mostTo_succ ss k (by omega)]
      have := ih (by omega) (by omega)
      omega
theorem most_ge (ss : List ByteArray) (k : Nat) (h : k < ss.length) : 2 + ss[k].size ≤ mostN ss := by
  have h1 := mostTo_mono ss (k + 1) ss.length (by omega) (Nat.le_refl _)
  rw [mostTo_succ ss k h] at h1
  unfold mostN
  omega
theorem most_hit (ss : List ByteArray) (k : Nat) (h0 : 1 ≤ k) (hk : k ≤ ss.length) : ∃ j, ∃ h : j < ss.length, mostTo ss k = 2 + ss[j].size := by
  induction k with
  | zero => omega
  | succ k ih =>
    rw [mostTo_succ ss k (by omega)]
    by_cases hge : mostTo ss k ≤ 2 + ss[k].size
    · exact ⟨k, by omega, by omega⟩
    · by_cases e : k = 0
      · subst e; simp [mostTo] at hge
      · obtain ⟨j, hj, h⟩ := ih (by omega) (by omega)
        exact ⟨j, hj, by omega⟩
def hitTo (ss : List ByteArray) (k : Nat) : Bool := (ss.take k).any (fun s => decide (2 + s.size = mostN ss))
theorem hitTo_succ (ss : List ByteArray) (k : Nat) (h : k < ss.length) : hitTo ss (k + 1) = (hitTo ss k || decide (2 + ss[k].size = mostN ss)) := by
  unfold hitTo
  rw [List.take_succ_eq_append_getElem h, List.any_append]
  simp
theorem hit_all (ss : List ByteArray) (h : 1 ≤ ss.length) : hitTo ss ss.length = true := by
  unfold hitTo
  rw [List.take_of_length_le (Nat.le_refl _), List.any_eq_true]
  obtain ⟨j, hj, e⟩ := most_hit ss ss.length h (Nat.le_refl _)
  exact ⟨ss[j], List.getElem_mem hj, by rw [decide_eq_true_eq]; exact e.symm⟩

theorem hit_eq (x m : Nat) : Value.bool (2 + (x : Int) == (m : Int)) = .bool (false || decide (2 + x = m)) := by
  congr 1
  rw [Bool.false_or, Bool.eq_iff_iff, beq_iff_eq, decide_eq_true_eq]
  omega

set_option maxRecDepth 100000 in
set_option maxHeartbeats 3200000 in
theorem shapeMost_walk (w : World) (a : Option Addr) (c : Nat) (ss : List ByteArray) (hn : ss.length ≤ maxLen) (h : SlOf w a (strV ss)) (hs : ∀ s ∈ ss, s.size ≤ maxLen) :
    Calls Tryd.prog 14 #[.slice a ss.length c] w fun e w' => e = .returned (.bool true) ∧ Below w.heap.size w w' := by
  have HS := Lib.hid h
  have hv := fun w h => vast_calls a c ss ⟨hn, hs⟩ w h
  have hm := fun w h => most_calls a c ss hn w h
  have HW := Lib.hid works03_calls
  clear h hs
  cases hvb : vastB ss with
  | true =>
    rw [hvb] at hv
    have HV := Lib.hid hv
    have HM := Lib.hid hm
    clear hv hvb hm
    go_enter Tryd.func14, Tryd.ntmps14
    go_wp2_with fail
    refine (HM.out _ HS.out).mono ?_; rintro e1 w1 ⟨rfl, hb1⟩; have hz1 := hb1.size; (try simp at hz1)
    have hS1 := Lib.hid (HS.out.below hb1)
    go_wp2_with fail
    refine (HV.out _ hS1.out).mono ?_; rintro e2 w2 ⟨rfl, hb2⟩; have hz2 := hb2.size; (try simp at hz2)
    go_wp2_with (first | (go_at_call 34; go_in))
    refine (HW.out _).mono ?_; rintro e3 w3 ⟨rfl, hb3⟩; have hz3 := hb3.size; (try simp at hz3)
    go_wp2
    go_ret
    exact ⟨rfl, by (repeat (first | exact Below.refl _ _ | (with_reducible assumption) | refine Below.drew ?_ | refine Below.drewN' ?_ _ | refine Below.alloc ?_ (by first | omega | (simp; done) | (simp; omega)) _ | refine Below.setCell ?_ (by first | omega | (simp; done) | (simp; omega)) _ | refine Below.then ?_ hb9 (by first | omega | (simp; done) | (simp; omega)) | refine Below.then ?_ hb8 (by first | omega | (simp; done) | (simp; omega)) | refine Below.then ?_ hb7 (by first | omega | (simp; done) | (simp; omega)) | refine Below.then ?_ hb6 (by first | omega | (simp; done) | (simp; omega)) | refine Below.then ?_ hb5 (by first | omega | (simp; done) | (simp; omega)) | refine Below.then ?_ hb4 (by first | omega | (simp; done) | (simp; omega)) | refine Below.then ?_ hb3 (by first | omega | (simp; done) | (simp; omega)) | refine Below.then ?_ hb2 (by first | omega | (simp; done) | (simp; omega)) | refine Below.then ?_ hb1 (by first | omega | (simp; done) | (simp; omega))))⟩
  | false =>
    rw [hvb] at hv
    have HV := Lib.hid hv
    cases ht : tableB ss with
    | false =>
      have e2 : mostM ss = 0 := by simp [mostM, ht]
      have e3 : checkE ss = 2 := by simp [checkE, ht]
      rw [e2, e3] at hm
      have HM := Lib.hid hm
      clear hv hvb hm e2 e3 ht
      go_enter Tryd.func14, Tryd.ntmps14
      go_wp2_with fail
      refine (HM.out _ HS.out).mono ?_; rintro e1 w1 ⟨rfl, hb1⟩; have hz1 := hb1.size; (try simp at hz1)
      have hS1 := Lib.hid (HS.out.below hb1)
      go_wp2_with fail
      refine (HV.out _ hS1.out).mono ?_; rintro e2 w2 ⟨rfl, hb2⟩; have hz2 := hb2.size; (try simp at hz2)
      go_wp2_with (first | (go_at_call 34; go_in))
      refine (HW.out _).mono ?_; rintro e3 w3 ⟨rfl, hb3⟩; have hz3 := hb3.size; (try simp at hz3)
      go_wp2
      go_ret
      exact ⟨rfl, by (repeat (first | exact Below.refl _ _ | (with_reducible assumption) | refine Below.drew ?_ | refine Below.drewN' ?_ _ | refine Below.alloc ?_ (by first | omega | (simp; done) | (simp; omega)) _ | refine Below.setCell ?_ (by first | omega | (simp; done) | (simp; omega)) _ | refine Below.then ?_ hb9 (by first | omega | (simp; done) | (simp; omega)) | refine Below.then ?_ hb8 (by first | omega | (simp; done) | (simp; omega)) | refine Below.then ?_ hb7 (by first | omega | (simp; done) | (simp; omega)) | refine Below.then ?_ hb6 (by first | omega | (simp; done) | (simp; omega)) | refine Below.then ?_ hb5 (by first | omega | (simp; done) | (simp; omega)) | refine Below.then ?_ hb4 (by first | omega | (simp; done) | (simp; omega)) | refine Below.then ?_ hb3 (by first | omega | (simp; done) | (simp; omega)) | refine Below.then ?_ hb2 (by first | omega | (simp; done) | (simp; omega)) | refine Below.then ?_ hb1 (by first | omega | (simp; done) | (simp; omega))))⟩
    | true =>
      have e2 : mostM ss = mostN ss := by simp [mostM, ht]
      have e3 : checkE ss = 0 := by simp [checkE, ht]
      rw [e2, e3] at hm
      have HM := Lib.hid hm
      have hlen := table_len ht
      have HT := Lib.hid ht
      clear hv hvb hm e2 e3 ht
      go_enter Tryd.func14, Tryd.ntmps14
      go_wp2_with fail
      refine (HM.out _ HS.out).mono ?_; rintro e1 w1 ⟨rfl, hb1⟩; have hz1 := hb1.size; (try simp at hz1)
      have hS1 := Lib.hid (HS.out.below hb1)
      go_wp2_with fail
      refine (HV.out _ hS1.out).mono ?_; rintro e2 w2 ⟨rfl, hb2⟩; have hz2 := hb2.size; (try simp at hz2)
      have hS2 := Lib.hid (hS1.out.below hb2)
      have hB2 : Below w.heap.size w w2 := by (repeat (first | exact Below.refl _ _ | (with_reducible assumption) | refine Below.drew ?_ | refine Below.drewN' ?_ _ | refine Below.alloc ?_ (by first | omega | (simp; done) | (simp; omega)) _ | refine Below.setCell ?_ (by first | omega | (simp; done) | (simp; omega)) _ | refine Below.then ?_ hb9 (by first | omega | (simp; done) | (simp; omega)) | refine Below.then ?_ hb8 (by first | omega | (simp; done) | (simp; omega)) | refine Below.then ?_ hb7 (by first | omega | (simp; done) | (simp; omega)) | refine Below.then ?_ hb6 (by first | omega | (simp; done) | (simp; omega)) | refine Below.then ?_ hb5 (by first | omega | (simp; done) | (simp; omega)) | refine Below.then ?_ hb4 (by first | omega | (simp; done) | (simp; omega)) | refine Below.then ?_ hb3 (by first | omega | (simp; done) | (simp; omega)) | refine Below.then ?_ hb2 (by first | omega | (simp; done) | (simp; omega)) | refine Below.then ?_ hb1 (by first | omega | (simp; done) | (simp; omega))))
      go_wp2_with (go_at_call 34; go_in)
      go_loopw [5, 6, 7, 8] (fun b i _ _ wr => ∃ k : Nat, k ≤ ss.length ∧ i = .int .i64 k ∧ b = .bool (hitTo ss k) ∧ Below w2.heap.size w2 wr) (fun _ i _ _ _ => ss.length - (intOf i).toNat)
      case atStart => exact ⟨0, Nat.zero_le _, rfl, rfl, by (repeat (first | exact Below.refl _ _ | (with_reducible assumption) | refine Below.drew ?_ | refine Below.drewN' ?_ _ | refine Below.alloc ?_ (by first | omega | (simp; done) | (simp; omega)) _ | refine Below.setCell ?_ (by first | omega | (simp; done) | (simp; omega)) _ | refine Below.then ?_ hb9 (by first | omega | (simp; done) | (simp; omega)) | refine Below.then ?_ hb8 (by first | omega | (simp; done) | (simp; omega)) | refine Below.then ?_ hb7 (by first | omega | (simp; done) | (simp; omega)) | refine Below.then ?_ hb6 (by first | omega | (simp; done) | (simp; omega)) | refine Below.then ?_ hb5 (by first | omega | (simp; done) | (simp; omega)) | refine Below.then ?_ hb4 (by first | omega | (simp; done) | (simp; omega)) | refine Below.then ?_ hb3 (by first | omega | (simp; done) | (simp; omega)) | refine Below.then ?_ hb2 (by first | omega | (simp; done) | (simp; omega)) | refine Below.then ?_ hb1 (by first | omega | (simp; done) | (simp; omega))))⟩
      case round =>
        obtain ⟨k, hk, rfl, rfl, hB⟩ := hrel
        have hzB := hB.size
        by_cases hlt : k < ss.length
        · have hkc := fun w h => shSize_calls a c ss k hn w h
          have he := ofE_in HT.out (i := k) (by omega) (by omega)
          have e2 : sizeN ss k = 2 + ss[k].size := by unfold sizeN; rw [if_pos he]; simp [hlt]
          rw [he, e2] at hkc
          have HK := Lib.hid hkc
          have hge := most_ge ss k hlt
          have hsz := shape_size (table_at HT.out k hlt)
          have hst := hitTo_succ ss k hlt
          have HH := Lib.hid hst
          have hSk := Lib.hid (hS2.out.below hB)
          clear hkc he e2 hst
          cases hb : hitTo ss k with
          | true =>
            rw [hb] at HH
            clear hb
            go_wp2_with (first | (go_at_call 39; refine (HK.out _ hSk.out).mono ?_; rintro e3 w3 ⟨rfl, hb3⟩; have hz3 := hb3.size; (try simp at hz3)) | (go_at_call 34; go_in))
            refine ⟨?_, ?measure⟩; (repeat apply Exists.intro); refine ⟨?rel, rfl⟩
            case rel => exact ⟨k + 1, by omega, by go_num, by rw [HH.out]; rfl, Below.then hB hb3 hB.size⟩
            case measure => simp [intOf]; omega
          | false =>
            rw [hb] at HH
            clear hb
            go_wp2_with (first | (go_at_call 39; refine (HK.out _ hSk.out).mono ?_; rintro e3 w3 ⟨rfl, hb3⟩; have hz3 := hb3.size; (try simp at hz3)) | (go_at_call 34; go_in))
            refine ⟨?_, ?measure⟩; (repeat apply Exists.intro); refine ⟨?rel, rfl⟩
            case rel => exact ⟨k + 1, by omega, by go_num, by rw [HH.out]; exact hit_eq _ _, Below.then hB hb3 hB.size⟩
            case measure => simp [intOf]; omega
        · obtain rfl : k = ss.length := by omega
          have hh := hit_all ss hlen.1
          rw [hh]
          clear hh
          go_wp2_with fail
          refine (HW.out _).mono ?_; rintro e3 w3 ⟨rfl, hb3⟩; have hz3 := hb3.size; (try simp at hz3)
          go_wp2
          go_ret
          exact ⟨rfl, Below.then hB2 (Below.then hB hb3 hB.size) hB2.size⟩

end Go.Proofs.YtcdfhceohjhogaaDoor
