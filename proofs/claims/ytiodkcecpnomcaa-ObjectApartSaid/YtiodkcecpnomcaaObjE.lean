/- The layer 'object': Place, whatever it is asked. -/
import Derived.Test.YtiodkcecpnomcaaObjD
namespace Go.Proofs.Ytiodkcecpnomcaa
open Go.RowKit
set_option linter.unusedVariables false
set_option linter.unusedSimpArgs false

/-- the word at a place -/
def wordAt (l : List Int) (at_ : Int) : Int := l.getD at_.toNat 0
/-- why no object stands there; 0: one does -/
def standE (t sp : Int) (ss : List ByteArray) (l : List Int) (at_ : Int) : Int :=
  if at_ < 3 + 2 * t ∨ szP t sp ≤ at_ then 4 else if sizeO t sp ss (wordAt l at_) at_ = 0 then 170 else 0
/-- may there be an arena of that plan and of that many words -/
def rightP (t sp : Int) (ss : List ByteArray) (n : Int) : Bool := planB t sp ss && decide (3 + 2 * t + 2 * sp = n)
def objE (t sp : Int) (ss : List ByteArray) (l : List Int) (at_ : Int) : Int := if rightP t sp ss l.length = true then standE t sp ss l at_ else 2
def placE (t sp : Int) (ss : List ByteArray) (l : List Int) (at_ f : Int) : Int :=
  if objE t sp ss l at_ = 0 then (if f < 0 ∨ sizeO t sp ss (wordAt l at_) at_ - 2 ≤ f then 131 else 0) else objE t sp ss l at_
def placN (t sp : Int) (ss : List ByteArray) (l : List Int) (at_ f : Int) : Int := if placE t sp ss l at_ f = 0 then at_ + 2 + f else 0
theorem size_nonneg (t sp : Int) (ss : List ByteArray) (x i : Int) : 0 ≤ sizeO t sp ss x i := by
  unfold sizeO
  split
  · unfold hSizeN
    split
    · unfold sizeN
      split
      · omega
      · omega
    · omega
  · omega

theorem place_calls (p b : Nat) (l : List Int) (t sp : Int) (a : Option Addr) (c : Nat) (ss : List ByteArray) (at_ f : Int) (hn : ss.length ≤ maxLen) (w : World) (h : Ar w p b l) (hs : SlOf w a (strV ss)) :
    Calls Try.prog 13 #[.pointer (some ⟨p, 0, none⟩), .agg #[.int .i64 t, .int .i64 sp, .slice a ss.length c], .int .i64 at_, .int .i64 f] w fun e w' => e = .returned (.tuple #[.int .i64 (placN t sp ss l at_ f), .int .i64 (placE t sp ss l at_ f)]) ∧ Below w.heap.size w w' := by
  by_cases hr : rightP t sp ss l.length = true
  · have hr' := hr
    unfold rightP at hr'
    simp only [Bool.and_eq_true, decide_eq_true_eq] at hr'
    have hP : PIn w p b l t sp a ss := ⟨h, hs, hn, hr'.1, hr'.2⟩
    by_cases ho : at_ < 3 + 2 * t ∨ szP t sp ≤ at_
    · have e1 : objE t sp ss l at_ = 4 := by unfold objE standE; rw [if_pos hr, if_pos ho]
      have e2 : placE t sp ss l at_ f = 4 := by unfold placE; rw [e1]; rfl
      have e3 : placN t sp ss l at_ f = 0 := by unfold placN; rw [e2]; rfl
      rw [e2, e3]
      exact place_st p b l t sp a c ss at_ f 4 w hP fun B W hh => stands_range t sp a c ss B at_ hn hr'.1 ho W hh.sh
    · obtain ⟨b1, b2, b3, b4, _⟩ := plan_ok hr'.1
      obtain ⟨i, rfl⟩ : ∃ i : Nat, at_ = (i : Int) := ⟨at_.toNat, by omega⟩
      have h0 : 3 + 2 * t ≤ (i : Int) := by omega
      have h1 : (i : Int) < szP t sp := by omega
      have hi : i < l.length := by have := hr'.2; unfold szP at h1; omega
      have hw : wordAt l (i : Int) = l[i] := by unfold wordAt; rw [Int.toNat_natCast, List.getD_eq_getElem?_getD, List.getElem?_eq_getElem hi]; rfl
      by_cases hz : sizeO t sp ss l[i] i = 0
      · have e1 : objE t sp ss l i = 170 := by unfold objE standE; rw [if_pos hr, if_neg ho, hw, if_pos hz]
        have e2 : placE t sp ss l i f = 170 := by unfold placE; rw [e1]; rfl
        have e3 : placN t sp ss l i f = 0 := by unfold placN; rw [e2]; rfl
        rw [e2, e3]
        exact place_st p b l t sp a c ss i f 170 w hP fun B W hh => stands_head p b l t sp a c ss B i hn hr'.1 h0 h1 hi hz W hh
      · have hp := size_nonneg t sp ss l[i] i
        have e1 : objE t sp ss l i = 0 := by unfold objE standE; rw [if_pos hr, if_neg ho, hw, if_neg hz]
        by_cases hf : f < 0 ∨ sizeO t sp ss l[i] i - 2 ≤ f
        · have e2 : placE t sp ss l i f = 131 := by unfold placE; rw [if_pos e1, hw, if_pos hf]
          have e3 : placN t sp ss l i f = 0 := by unfold placN; rw [e2]; rfl
          rw [e2, e3]
          exact place_field p b l t sp a c ss i f hi h0 h1 (by omega) hf w hP
        · have e2 : placE t sp ss l i f = 0 := by unfold placE; rw [if_pos e1, hw, if_neg hf]
          have e3 : placN t sp ss l i f = i + 2 + f := by unfold placN; rw [if_pos e2]
          rw [e2, e3]
          exact place_ok p b l t sp a c ss i f hi h0 h1 (by omega) (by omega) w hP
  · have e1 : objE t sp ss l at_ = 2 := by unfold objE; rw [if_neg hr]
    have e2 : placE t sp ss l at_ f = 2 := by unfold placE; rw [e1]; rfl
    have e3 : placN t sp ss l at_ f = 0 := by unfold placN; rw [e2]; rfl
    rw [e2, e3]
    refine place_of (some ⟨p, 0, none⟩) t sp a c ss.length at_ f 2 w fun W hb => ?_
    refine of_bad p b l t sp a c ss hn W (h.below hb) (hs.below hb) fun hc => hr ?_
    unfold rightP
    rw [hc.1, decide_eq_true hc.2]
    rfl
end Go.Proofs.Ytiodkcecpnomcaa
