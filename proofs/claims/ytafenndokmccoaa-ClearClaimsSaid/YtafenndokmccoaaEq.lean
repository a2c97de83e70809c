/- Two lists of words that are the same; two arenas that are; two objects that are. -/
import Derived.Test.YtafenndokmccoaaAr
import Derived.LoopTactic
import Derived.StillTailTactics
namespace Go.Proofs.Ytafenndokmccoaa
open Go.RowKit
set_option linter.unusedVariables false
set_option linter.unusedSimpArgs false

theorem u64_at {W : World} {a : Option Addr} {l : List Int} (h : WdsOf W a l) (k : Nat) (hk : k < l.length) : ∃ b o, a = some ⟨b, o, none⟩ ∧ b < W.heap.size ∧ W.cell? ⟨b, o + k, none⟩ = some (.int .u64 l[k]) := by
  rcases h with h | ⟨b, o, rfl, hb, hc⟩
  · have := congrArg List.length h
    rw [List.length_map, List.length_nil] at this
    omega
  · refine ⟨b, o, rfl, hb, ?_⟩
    have := hc k (by rw [List.length_map]; exact hk)
    rwa [List.getElem_map] at this
theorem take_succ_eq {l l' : List Int} {k : Nat} (h : l.take k = l'.take k) (hk : k < l.length) (hk' : k < l'.length) (he : l[k] = l'[k]) : l.take (k + 1) = l'.take (k + 1) := by
  rw [List.take_succ_eq_append_getElem hk, List.take_succ_eq_append_getElem hk', h, he]

set_option maxHeartbeats 800000 in
theorem equal_calls (a : Option Addr) (c : Nat) (l : List Int) (a' : Option Addr) (c' : Nat) (l' : List Int) (hn : l.length ≤ maxLen) (hn' : l'.length ≤ maxLen) (w : World) (h : WdsOf w a l) (h' : WdsOf w a' l') :
    Calls Try.prog 68 #[.slice a l.length c, .slice a' l'.length c'] w fun e w' => e = .returned (.bool (decide (l = l'))) ∧ Below w.heap.size w w' := by
  unfold maxLen at hn hn'
  have HS := Lib.hid h
  have HS' := Lib.hid h'
  clear h h'
  by_cases hl : l.length = l'.length
  · have g1 : ((l.length : Int) != (l'.length : Int)) = false := by rw [bne_eq_false_iff_eq]; omega
    go_enter Try.func68, Try.ntmps68
    go_wp2
    go_loopw [13] (fun i wr => ∃ k : Nat, k ≤ l.length ∧ i = .int .i64 k ∧ Below w.heap.size w wr ∧ Hid (l.take k = l'.take k)) (fun i _ => l.length - (intOf i).toNat)
    case atStart => exact ⟨0, Nat.zero_le _, rfl, by (repeat (first | exact Below.refl _ _ | (with_reducible assumption) | refine Below.drew ?_ | refine Below.drewN' ?_ _ | refine Below.alloc ?_ (by first | omega | (simp; done) | (simp; omega)) _ | refine Below.setCell ?_ (by first | omega | (simp; done) | (simp; omega)) _ | refine Below.then ?_ hb9 (by first | omega | (simp; done) | (simp; omega)) | refine Below.then ?_ hb8 (by first | omega | (simp; done) | (simp; omega)) | refine Below.then ?_ hb7 (by first | omega | (simp; done) | (simp; omega)) | refine Below.then ?_ hb6 (by first | omega | (simp; done) | (simp; omega)) | refine Below.then ?_ hb5 (by first | omega | (simp; done) | (simp; omega)) | refine Below.then ?_ hb4 (by first | omega | (simp; done) | (simp; omega)) | refine Below.then ?_ hb3 (by first | omega | (simp; done) | (simp; omega)) | refine Below.then ?_ hb2 (by first | omega | (simp; done) | (simp; omega)) | refine Below.then ?_ hb1 (by first | omega | (simp; done) | (simp; omega)))), Lib.hid (by simp)⟩
    case round =>
      obtain ⟨k, hk, rfl, hB, hall⟩ := hrel
      have hzB := hB.size
      by_cases hlt : k < l.length
      · obtain ⟨b, o, rfl, hb, hc⟩ := u64_at (show WdsOf wr a l from SlOf.below HS.out (hB.mono (by first | exact Nat.le_refl _ | omega))) k hlt
        obtain ⟨b', o', rfl, hb', hc'⟩ := u64_at (show WdsOf wr a' l' from SlOf.below HS'.out (hB.mono (by first | exact Nat.le_refl _ | omega))) k (by omega)
        have i1 : (k : Int) < (l.length : Int) := by omega
        have i2 : (k : Int) < (l'.length : Int) := by omega
        by_cases hx : l[k] = l'[k]
        · have g2 : (l[k] != l'[k]) = false := by rw [bne_eq_false_iff_eq]; exact hx
          have hall' := Lib.hid (take_succ_eq hall.out hlt (by omega) hx)
          clear hall hx
          go_wp2_with fail
          go_quiet (fail)
          go_wp2
          go_roundw
          case rel => exact ⟨k + 1, by omega, by go_num, by (repeat (first | exact Below.refl _ _ | (with_reducible assumption) | refine Below.drew ?_ | refine Below.drewN' ?_ _ | refine Below.alloc ?_ (by first | omega | (simp; done) | (simp; omega)) _ | refine Below.setCell ?_ (by first | omega | (simp; done) | (simp; omega)) _ | refine Below.then ?_ hb9 (by first | omega | (simp; done) | (simp; omega)) | refine Below.then ?_ hb8 (by first | omega | (simp; done) | (simp; omega)) | refine Below.then ?_ hb7 (by first | omega | (simp; done) | (simp; omega)) | refine Below.then ?_ hb6 (by first | omega | (simp; done) | (simp; omega)) | refine Below.then ?_ hb5 (by first | omega | (simp; done) | (simp; omega)) | refine Below.then ?_ hb4 (by first | omega | (simp; done) | (simp; omega)) | refine Below.then ?_ hb3 (by first | omega | (simp; done) | (simp; omega)) | refine Below.then ?_ hb2 (by first | omega | (simp; done) | (simp; omega)) | refine Below.then ?_ hb1 (by first | omega | (simp; done) | (simp; omega)))), hall'⟩
          case measure => simp [intOf]; omega
        · have g2 : (l[k] != l'[k]) = true := bne_iff_ne.2 hx
          have hf : decide (l = l') = false := by
            rw [decide_eq_false_iff_not]
            intro e
            apply hx
            subst e
            rfl
          have HF := Lib.hid hf
          clear hall hx hf
          go_wp2_with fail
          go_quiet (fail)
          go_wp2
          go_ret
          exact ⟨by rw [HF.out]; rfl, by (repeat (first | exact Below.refl _ _ | (with_reducible assumption) | refine Below.drew ?_ | refine Below.drewN' ?_ _ | refine Below.alloc ?_ (by first | omega | (simp; done) | (simp; omega)) _ | refine Below.setCell ?_ (by first | omega | (simp; done) | (simp; omega)) _ | refine Below.then ?_ hb9 (by first | omega | (simp; done) | (simp; omega)) | refine Below.then ?_ hb8 (by first | omega | (simp; done) | (simp; omega)) | refine Below.then ?_ hb7 (by first | omega | (simp; done) | (simp; omega)) | refine Below.then ?_ hb6 (by first | omega | (simp; done) | (simp; omega)) | refine Below.then ?_ hb5 (by first | omega | (simp; done) | (simp; omega)) | refine Below.then ?_ hb4 (by first | omega | (simp; done) | (simp; omega)) | refine Below.then ?_ hb3 (by first | omega | (simp; done) | (simp; omega)) | refine Below.then ?_ hb2 (by first | omega | (simp; done) | (simp; omega)) | refine Below.then ?_ hb1 (by first | omega | (simp; done) | (simp; omega))))⟩
      · obtain rfl : k = l.length := by omega
        have hf : decide (l = l') = true := by
          rw [decide_eq_true_eq]
          have := hall.out
          rwa [List.take_of_length_le (Nat.le_refl _), hl, List.take_of_length_le (Nat.le_refl _)] at this
        have HF := Lib.hid hf
        clear hf hall
        go_wp2
        go_ret
        exact ⟨by rw [HF.out]; rfl, by (repeat (first | exact Below.refl _ _ | (with_reducible assumption) | refine Below.drew ?_ | refine Below.drewN' ?_ _ | refine Below.alloc ?_ (by first | omega | (simp; done) | (simp; omega)) _ | refine Below.setCell ?_ (by first | omega | (simp; done) | (simp; omega)) _ | refine Below.then ?_ hb9 (by first | omega | (simp; done) | (simp; omega)) | refine Below.then ?_ hb8 (by first | omega | (simp; done) | (simp; omega)) | refine Below.then ?_ hb7 (by first | omega | (simp; done) | (simp; omega)) | refine Below.then ?_ hb6 (by first | omega | (simp; done) | (simp; omega)) | refine Below.then ?_ hb5 (by first | omega | (simp; done) | (simp; omega)) | refine Below.then ?_ hb4 (by first | omega | (simp; done) | (simp; omega)) | refine Below.then ?_ hb3 (by first | omega | (simp; done) | (simp; omega)) | refine Below.then ?_ hb2 (by first | omega | (simp; done) | (simp; omega)) | refine Below.then ?_ hb1 (by first | omega | (simp; done) | (simp; omega))))⟩
  · have g1 : ((l.length : Int) != (l'.length : Int)) = true := by rw [bne_iff_ne]; omega
    have hf : decide (l = l') = false := by rw [decide_eq_false_iff_not]; intro e; exact hl (by rw [e])
    rw [hf]
    clear hf
    go_enter Try.func68, Try.ntmps68
    go_wp2
    go_ret
    exact ⟨rfl, by (repeat (first | exact Below.refl _ _ | (with_reducible assumption) | refine Below.drew ?_ | refine Below.drewN' ?_ _ | refine Below.alloc ?_ (by first | omega | (simp; done) | (simp; omega)) _ | refine Below.setCell ?_ (by first | omega | (simp; done) | (simp; omega)) _ | refine Below.then ?_ hb9 (by first | omega | (simp; done) | (simp; omega)) | refine Below.then ?_ hb8 (by first | omega | (simp; done) | (simp; omega)) | refine Below.then ?_ hb7 (by first | omega | (simp; done) | (simp; omega)) | refine Below.then ?_ hb6 (by first | omega | (simp; done) | (simp; omega)) | refine Below.then ?_ hb5 (by first | omega | (simp; done) | (simp; omega)) | refine Below.then ?_ hb4 (by first | omega | (simp; done) | (simp; omega)) | refine Below.then ?_ hb3 (by first | omega | (simp; done) | (simp; omega)) | refine Below.then ?_ hb2 (by first | omega | (simp; done) | (simp; omega)) | refine Below.then ?_ hb1 (by first | omega | (simp; done) | (simp; omega))))⟩

theorem Ar.wds {W : World} {p b : Nat} {l : List Int} (h : Ar W p b l) : WdsOf W (some ⟨b, 0, none⟩) l := by
  refine .inr ⟨b, 0, rfl, h.bb, fun i hi => ?_⟩
  rw [List.length_map] at hi
  rw [List.getElem_map, Nat.zero_add]
  exact h.at i hi
set_option maxRecDepth 100000 in
theorem arSame_calls (p b : Nat) (l : List Int) (p' b' : Nat) (l' : List Int) (w : World) (h : Ar w p b l) (h' : Ar w p' b' l') :
    Calls Try.prog 34 #[.pointer (some ⟨p, 0, none⟩), .pointer (some ⟨p', 0, none⟩)] w fun e w' => e = .returned (.bool (decide (l = l'))) ∧ Below w.heap.size w w' := by
  have HA := Lib.hid h
  have HA' := Lib.hid h'
  have n1 : l.length ≤ maxLen := by have := h.len; unfold maxLen; omega
  have n2 : l'.length ≤ maxLen := by have := h'.len; unfold maxLen; omega
  have HN := Lib.hid (fun p b l W h => arNone_calls p b l W h)
  have HE := Lib.hid (fun W h h' => equal_calls (some ⟨b, 0, none⟩) l.length l (some ⟨b', 0, none⟩) l'.length l' n1 n2 W h h')
  clear h h' n1 n2
  go_enter Try.func34, Try.ntmps34
  go_wp2_with fail
  refine (HN.out _ _ _ _ HA.out).mono ?_; rintro e1 w1 ⟨rfl, hb1⟩; have hz1 := hb1.size; (try simp at hz1)
  go_wp2_with fail
  refine (HN.out _ _ _ _ (HA'.out.below hb1)).mono ?_; rintro e2 w2 ⟨rfl, hb2⟩; have hz2 := hb2.size; (try simp at hz2)
  have HA2 := Lib.hid ((HA.out.below hb1).below hb2)
  have HA2' := Lib.hid ((HA'.out.below hb1).below hb2)
  have q1 := HA2.out.cell
  have q2 := HA2'.out.cell
  go_wp2_with fail
  go_still_tail 10, (by kernel_rfl)
  change wpList _ _ _ _ _ w2.drew
  generalize hW3 : w2.drew = w3
  have hb3 : Below w2.heap.size w2 w3 := by rw [← hW3]; exact (Below.refl _ _).drew
  have HA3 := Lib.hid (HA2.out.below hb3)
  have HA3' := Lib.hid (HA2'.out.below hb3)
  have hz3 := hb3.size
  clear hW3 q1 q2
  go_wp2_with fail
  refine (HE.out _ HA3.out.wds HA3'.out.wds).mono ?_; rintro e4 w4 ⟨rfl, hb4⟩; have hz4 := hb4.size; (try simp at hz4)
  go_wp2
  go_ret
  exact ⟨rfl, by (repeat (first | exact Below.refl _ _ | (with_reducible assumption) | refine Below.drew ?_ | refine Below.drewN' ?_ _ | refine Below.alloc ?_ (by first | omega | (simp; done) | (simp; omega)) _ | refine Below.setCell ?_ (by first | omega | (simp; done) | (simp; omega)) _ | refine Below.then ?_ hb9 (by first | omega | (simp; done) | (simp; omega)) | refine Below.then ?_ hb8 (by first | omega | (simp; done) | (simp; omega)) | refine Below.then ?_ hb7 (by first | omega | (simp; done) | (simp; omega)) | refine Below.then ?_ hb6 (by first | omega | (simp; done) | (simp; omega)) | refine Below.then ?_ hb5 (by first | omega | (simp; done) | (simp; omega)) | refine Below.then ?_ hb4 (by first | omega | (simp; done) | (simp; omega)) | refine Below.then ?_ hb3 (by first | omega | (simp; done) | (simp; omega)) | refine Below.then ?_ hb2 (by first | omega | (simp; done) | (simp; omega)) | refine Below.then ?_ hb1 (by first | omega | (simp; done) | (simp; omega))))⟩

def objV (at_ s m link : Int) (fa : Option Addr) (fn fc : Nat) : Value := .agg #[.int .i64 at_, .int .i64 s, .int .i64 m, .int .u64 link, .slice fa fn fc]
end Go.Proofs.Ytafenndokmccoaa
