/- The layer 'op': the kinds of a name that name so many numbers. -/
import Derived.Test.YtlohfcinffaagaaDoorOpC
import Derived.Test.YtlohfcinffaagaaDoorOnce
import Derived.OwnWalkIn
import Derived.TacticsInMore
import Derived.LoopNIn
import Derived.LoopIn
import Derived.RangeFuncBox
namespace Go.Proofs.YtlohfcinffaagaaDoor
open Go.RowKit Go.Shelf
set_option linter.unusedVariables false
set_option linter.unusedSimpArgs false
attribute [local go_sem] Oper.semAt_some

/-- is it a kind of that name, which names so many numbers? -/
def KindIs (name : ByteArray) (n : Int) (k : Int) : Prop := opIs k = true ∧ opName k = name ∧ ((opNames k).length : Int) = n
def kindEnc (x : Int × Option Addr) : Array Value := #[.int .i64 x.1, .agg #[.string (opName x.1), .slice x.2 (opNames x.1).length (opNames x.1).length]]
def KindE (name : ByteArray) (n : Int) (lo : Nat) (x : Int × Option Addr) (W : World) : Prop := KindIs name n x.1 ∧ (∀ y, x.2 = some y → lo ≤ y.block) ∧ SlOf W x.2 (nmV (opNames x.1))

theorem kinds_calls (name : ByteArray) (n : Int) (w : World) :
    Calls Tryd.prog 41 #[.string name, .int .i64 n] w fun e w' =>
      e = .returned (.func (.func 68) #[] #[.pointer (some ⟨w.heap.size, 0, none⟩), .pointer (some ⟨w.heap.size + 1, 0, none⟩)]) ∧ (w.alloc (.cells #[.string name] 9)).alloc (.cells #[.int .i64 n] 3) = w' := by
  go_enter Tryd.func41, Tryd.ntmps41
  go_wp2
  go_ret
  exact ⟨rfl, rfl⟩

theorem NamesAt.below {w w' : World} {B : Nat} (h : NamesAt w B) (hb : Below w.heap.size w w') : NamesAt w' B :=
  ⟨h.n1.below hb, h.n2.below hb, h.n3.below hb, h.n4.below hb, h.n5.below hb, h.n6.below hb, h.n7.below hb, h.n8.below hb, h.n9.below hb, h.n10.below hb⟩

set_option maxRecDepth 100000 in
set_option maxHeartbeats 3200000 in
theorem kinds_once (m : Nat) (hm : 1 ≤ m) (name : ByteArray) (n : Int) (B : Nat) (w : World) (hB : B + 1 < w.heap.size) (hc : w.cell? ⟨B, 0, none⟩ = some (.string name)) (hd : w.cell? ⟨B + 1, 0, none⟩ = some (.int .i64 n)) :
    IterOnce m Tryd.prog 68 #[.pointer (some ⟨B, 0, none⟩), .pointer (some ⟨B + 1, 0, none⟩)] kindEnc (KindE name n w.heap.size) (∀ k, ¬ KindIs name n k) w := by
  intro l J Jx W hW hJ hY h0
  have hcW := (hW.cell (p := ⟨B, 0, none⟩) (show B < _ by omega)).trans hc
  have hdW := (hW.cell (p := ⟨B + 1, 0, none⟩) (show B + 1 < _ by omega)).trans hd
  have hzW := hW.size
  have HY := Lib.hid hY
  have HJ := Lib.hid hJ
  clear hY hJ hc hd
  refine callsIn_of_wp Tryd.func68 rfl trivial ?_ rfl
  simp only [Tryd.ntmps68, List.size_toArray, List.length_cons, List.length_nil, Nat.reduceAdd, Nat.reduceSub, Array.replicate_succ, Array.replicate_zero, List.push_toArray, List.append_toArray, List.nil_append, List.cons_append]
  gi_wp2_with fail
  refine ⟨trivial, (callsIn_wide.2 (opRows_calls _)).mono ?_⟩
  rintro e1 w1 ⟨rfl, hb1, hN⟩
  have hz1 := hb1.size
  have HN := Lib.hid hN
  have J1 := HJ.out _ _ h0 hb1
  clear hN
  gi_wp2
  gi_loopw [7] (fun i wr => ∃ (j : Nat) (t : Int), j ≤ 12 ∧ i = .int .i64 t ∧ t = j ∧ Below w1.heap.size w1 wr ∧ J wr ∧ Hid (∀ k : Int, 1 ≤ k → k < j → ¬ KindIs name n k)) (fun i _ => 12 - (intOf i).toNat)
  case atStart => exact ⟨0, 0, by omega, rfl, rfl, Below.refl _ _, J1, Lib.hid (fun k h1 h2 => by omega)⟩
  case round =>
    obtain ⟨j, t, hj, rfl, ht, hb9, hJr, hno⟩ := hrel
    have hz9 := hb9.size
    have q0 := (hb9.cell (p := ⟨B, 0, none⟩) (show B < w1.heap.size by omega)).trans ((hb1.cell (p := ⟨B, 0, none⟩) (show B < W.heap.size by omega)).trans hcW)
    have q1 := (hb9.cell (p := ⟨B + 1, 0, none⟩) (show B + 1 < w1.heap.size by omega)).trans ((hb1.cell (p := ⟨B + 1, 0, none⟩) (show B + 1 < W.heap.size by omega)).trans hdW)
    have l0 : B < wr.heap.size := by omega
    have l1 : B + 1 < wr.heap.size := by omega
    by_cases hlt : j < 12
    · by_cases h0t : j = 0
      · subst h0t
        obtain rfl : t = 0 := by omega
        have hi := row_at0 (W.heap.size + 1)
        clear ht hlt
        gi_wp2
        refine ⟨(fun f h => nomatch h), ?_⟩
        gi_wp2
        go_roundw
        case rel => exact ⟨1, 1, by omega, rfl, rfl, by (repeat (first | exact Below.refl _ _ | (with_reducible assumption) | refine Below.drew ?_ | refine Below.drewN' ?_ _ | refine Below.alloc ?_ (by first | omega | (simp; done) | (simp; omega)) _ | refine Below.setCell ?_ (by first | omega | (simp; done) | (simp; omega)) _ | refine Below.then ?_ hb9 (by first | omega | (simp; done) | (simp; omega)) | refine Below.then ?_ hb8 (by first | omega | (simp; done) | (simp; omega)) | refine Below.then ?_ hb7 (by first | omega | (simp; done) | (simp; omega)) | refine Below.then ?_ hb6 (by first | omega | (simp; done) | (simp; omega)) | refine Below.then ?_ hb5 (by first | omega | (simp; done) | (simp; omega)) | refine Below.then ?_ hb4 (by first | omega | (simp; done) | (simp; omega)) | refine Below.then ?_ hb3 (by first | omega | (simp; done) | (simp; omega)) | refine Below.then ?_ hb2 (by first | omega | (simp; done) | (simp; omega)) | refine Below.then ?_ hb1 (by first | omega | (simp; done) | (simp; omega)))), HJ.out _ _ hJr ((Below.refl _ _).alloc (Nat.le_refl _) _), Lib.hid (fun k h1 h2 => by omega)⟩
        case measure => simp [intOf]
      · have hk : opIs t = true := by unfold opIs; simp only [decide_eq_true_eq]; omega
        obtain ⟨a, hrow, hs, hne⟩ := row_at t hk _ wr (HN.out.below hb9)
        unfold RowAt at hrow
        have HT := Lib.hid ht
        have HS := Lib.hid hs
        have HNE := Lib.hid hne
        have g1 : 0 < t := by omega
        have g2 : t < 12 := by omega
        have hp1 : (j : Int) + 1 = t + 1 := by omega
        have HP := Lib.hid hp1
        clear ht hs hne hp1
        by_cases hnm : opName t = name
        · by_cases hln : ((opNames t).length : Int) = n
          · have c1 : ((opName t).toList == name.toList) = true := by rw [hnm]; exact beq_self_eq_true _
            have c2 : (((opNames t).length : Int) == n) = true := by rw [hln]; exact beq_self_eq_true _
            have J2 := HJ.out _ _ hJr ((Below.refl _ _).alloc (Nat.le_refl _) (.cells #[.string (opName t), .slice a (opNames t).length (opNames t).length] 61))
            obtain ⟨fn, tmps, assign, body, hy, hR⟩ := HY.out (t, a) _ J2 ⟨⟨hk, hnm, hln⟩, fun y hy => by have := HNE.out y hy; omega, HS.out.alloc _⟩
            simp only [kindEnc] at hy
            have HK := Lib.hid (show KindIs name n t from ⟨hk, hnm, hln⟩)
            clear hnm hln hk J2
            gi_wp2
            refine hR.mono ?_
            rintro e W3 ⟨rfl, hJx⟩
            gi_wp2
            refine bodyPost_ret (results_none rfl _ _ _) rfl ?_
            exact ⟨⟨_, rfl⟩, .inr ⟨_, hJx⟩⟩
          · have c1 : ((opName t).toList == name.toList) = true := by rw [hnm]; exact beq_self_eq_true _
            have c2 : (((opNames t).length : Int) == n) = false := beq_eq_false_iff_ne.2 hln
            have HNM := Lib.hid (show ¬ KindIs name n t from fun h => hln h.2.2)
            clear hnm hln hk
            gi_wp2
            refine ⟨(fun f h => nomatch h), ?_⟩
            gi_wp2
            go_roundw
            case rel => exact ⟨j + 1, t + 1, by omega, rfl, by rw [← HP.out]; simp, by (repeat (first | exact Below.refl _ _ | (with_reducible assumption) | refine Below.drew ?_ | refine Below.drewN' ?_ _ | refine Below.alloc ?_ (by first | omega | (simp; done) | (simp; omega)) _ | refine Below.setCell ?_ (by first | omega | (simp; done) | (simp; omega)) _ | refine Below.then ?_ hb9 (by first | omega | (simp; done) | (simp; omega)) | refine Below.then ?_ hb8 (by first | omega | (simp; done) | (simp; omega)) | refine Below.then ?_ hb7 (by first | omega | (simp; done) | (simp; omega)) | refine Below.then ?_ hb6 (by first | omega | (simp; done) | (simp; omega)) | refine Below.then ?_ hb5 (by first | omega | (simp; done) | (simp; omega)) | refine Below.then ?_ hb4 (by first | omega | (simp; done) | (simp; omega)) | refine Below.then ?_ hb3 (by first | omega | (simp; done) | (simp; omega)) | refine Below.then ?_ hb2 (by first | omega | (simp; done) | (simp; omega)) | refine Below.then ?_ hb1 (by first | omega | (simp; done) | (simp; omega)))), HJ.out _ _ hJr ((Below.refl _ _).alloc (Nat.le_refl _) _), Lib.hid (fun k h1 h2 => by
              by_cases e : k = t
              · subst e; exact HNM.out
              · exact hno.out k h1 (by have := HT.out; simp at h2; omega))⟩
            case measure => have := HT.out; simp [intOf]; omega
        · have c1 : ((opName t).toList == name.toList) = false := beq_eq_false_iff_ne.2 fun e => hnm (bytes_inj' (by rw [ByteArray.toList_eq, ByteArray.toList_eq] at e; exact e))
          have HNM := Lib.hid (show ¬ KindIs name n t from fun h => hnm h.2.1)
          clear hnm hk
          gi_wp2
          refine ⟨(fun f h => nomatch h), ?_⟩
          gi_wp2
          go_roundw
          case rel => exact ⟨j + 1, t + 1, by omega, rfl, by rw [← HP.out]; simp, by (repeat (first | exact Below.refl _ _ | (with_reducible assumption) | refine Below.drew ?_ | refine Below.drewN' ?_ _ | refine Below.alloc ?_ (by first | omega | (simp; done) | (simp; omega)) _ | refine Below.setCell ?_ (by first | omega | (simp; done) | (simp; omega)) _ | refine Below.then ?_ hb9 (by first | omega | (simp; done) | (simp; omega)) | refine Below.then ?_ hb8 (by first | omega | (simp; done) | (simp; omega)) | refine Below.then ?_ hb7 (by first | omega | (simp; done) | (simp; omega)) | refine Below.then ?_ hb6 (by first | omega | (simp; done) | (simp; omega)) | refine Below.then ?_ hb5 (by first | omega | (simp; done) | (simp; omega)) | refine Below.then ?_ hb4 (by first | omega | (simp; done) | (simp; omega)) | refine Below.then ?_ hb3 (by first | omega | (simp; done) | (simp; omega)) | refine Below.then ?_ hb2 (by first | omega | (simp; done) | (simp; omega)) | refine Below.then ?_ hb1 (by first | omega | (simp; done) | (simp; omega)))), HJ.out _ _ hJr ((Below.refl _ _).alloc (Nat.le_refl _) _), Lib.hid (fun k h1 h2 => by
            by_cases e : k = t
            · subst e; exact HNM.out
            · exact hno.out k h1 (by have := HT.out; simp at h2; omega))⟩
          case measure => have := HT.out; simp [intOf]; omega
    · obtain rfl : j = 12 := by omega
      obtain rfl : t = 12 := by omega
      clear ht
      gi_wp2
      go_end0
      exact ⟨⟨_, rfl⟩, .inl ⟨fun k hk => hno.out k (by have := hk.1; unfold opIs at this; simp only [decide_eq_true_eq] at this; omega) (by have := hk.1; unfold opIs at this; simp only [decide_eq_true_eq] at this; omega) hk, hJr⟩⟩

end Go.Proofs.YtlohfcinffaagaaDoor
