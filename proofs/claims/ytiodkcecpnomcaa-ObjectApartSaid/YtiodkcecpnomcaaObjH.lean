/- The layer 'object': Read, whatever it is asked. -/
import Derived.Test.YtiodkcecpnomcaaObjG
namespace Go.Proofs.Ytiodkcecpnomcaa
open Go.RowKit
set_option linter.unusedVariables false
set_option linter.unusedSimpArgs false

theorem size_two {t sp : Int} {ss : List ByteArray} {x i : Int} (h : sizeO t sp ss x i ≠ 0) : 2 ≤ sizeO t sp ss x i ∧ sizeO t sp ss x i ≤ 10 ∧ sizeO t sp ss x i ≤ sp - inV t sp i := by
  unfold sizeO at h ⊢
  split
  · rename_i hc
    rw [if_pos hc] at h
    refine ⟨?_, ?_, hc.2⟩
    · unfold hSizeN at h ⊢
      split
      · rename_i hk
        rw [if_pos hk] at h
        unfold sizeN at h ⊢
        split
        · omega
        · rename_i hk2; rw [if_neg hk2] at h; exact absurd rfl h
      · rename_i hk; rw [if_neg hk] at h; exact absurd rfl h
    · unfold hSizeN
      split
      · unfold sizeN
        split
        · rename_i hz
          have := shape_small hz
          omega
        · omega
      · omega
  · rename_i hc; rw [if_neg hc] at h; exact absurd rfl h
/-- an object that stands lies in the arena, in one space -/
theorem obj_in {t sp : Int} {ss : List ByteArray} {x i : Int} (b1 : 1 ≤ t) (b3 : 32 ≤ sp) (h0 : 3 + 2 * t ≤ i) (h1 : i < szP t sp) (h : sizeO t sp ss x i ≠ 0) : i + sizeO t sp ss x i ≤ szP t sp := by
  obtain ⟨_, _, hn⟩ := size_two h
  unfold szP at h1 ⊢
  have hm := Int.mul_ediv_add_emod (i - (3 + 2 * t)) sp
  have hq0 : 0 ≤ (i - (3 + 2 * t)) / sp := Int.ediv_nonneg (by omega) (by omega)
  have hq1 : (i - (3 + 2 * t)) / sp < 2 := Int.ediv_lt_of_lt_mul (by omega) (by omega)
  unfold inV at hn
  generalize (i - (3 + 2 * t)) / sp = q at hm hq0 hq1
  generalize (i - (3 + 2 * t)) % sp = r at hm hn
  have : q = 0 ∨ q = 1 := by omega
  rcases this with rfl | rfl
  · omega
  · omega

def rdF (t sp : Int) (ss : List ByteArray) (l : List Int) (at_ : Int) : List Int := if objE t sp ss l at_ = 0 then fldsO l at_.toNat ((sizeO t sp ss (wordAt l at_) at_).toNat - 2) else []
def rdA (t sp : Int) (ss : List ByteArray) (l : List Int) (at_ : Int) : Int := if objE t sp ss l at_ = 0 then at_ else 0
def rdS (t sp : Int) (ss : List ByteArray) (l : List Int) (at_ : Int) : Int := if objE t sp ss l at_ = 0 then hShape (wordAt l at_) else 0
def rdM (t sp : Int) (ss : List ByteArray) (l : List Int) (at_ : Int) : Int := if objE t sp ss l at_ = 0 then hMark (wordAt l at_) else 0
def rdL (t sp : Int) (ss : List ByteArray) (l : List Int) (at_ : Int) : Int := if objE t sp ss l at_ = 0 then wordAt l (at_ + 1) else 0
theorem rd_no {t sp : Int} {ss : List ByteArray} {l : List Int} {at_ m : Int} (h : objE t sp ss l at_ = m) (hm : m ≠ 0) :
    rdF t sp ss l at_ = [] ∧ rdA t sp ss l at_ = 0 ∧ rdS t sp ss l at_ = 0 ∧ rdM t sp ss l at_ = 0 ∧ rdL t sp ss l at_ = 0 := by
  have : ¬ objE t sp ss l at_ = 0 := by rw [h]; exact hm
  unfold rdF rdA rdS rdM rdL
  rw [if_neg this, if_neg this, if_neg this, if_neg this, if_neg this]
  exact ⟨rfl, rfl, rfl, rfl, rfl⟩
/-- what Read tells -/
def ReadPost (t sp : Int) (ss : List ByteArray) (l : List Int) (at_ : Int) (w : World) (e : Ending) (w' : World) : Prop :=
  ∃ fa fc, e = .returned (.tuple #[objV (rdA t sp ss l at_) (rdS t sp ss l at_) (rdM t sp ss l at_) (rdL t sp ss l at_) fa (rdF t sp ss l at_).length fc, .int .i64 (objE t sp ss l at_)]) ∧ WdsOf w' fa (rdF t sp ss l at_) ∧ FreshA w.heap.size fa ∧ Below w.heap.size w w'

theorem readPost_no {t sp : Int} {ss : List ByteArray} {l : List Int} {at_ m : Int} (h : objE t sp ss l at_ = m) (hm : m ≠ 0) {w w' : World} {e : Ending}
    (he : e = .returned (.tuple #[objV 0 0 0 0 none 0 0, .int .i64 m]) ∧ Below w.heap.size w w') : ReadPost t sp ss l at_ w e w' := by
  obtain ⟨f1, f2, f3, f4, f5⟩ := rd_no h hm
  unfold ReadPost
  rw [f1, f2, f3, f4, f5, h]
  exact ⟨none, 0, he.1, .inl rfl, (fun ad e => by cases e), he.2⟩

theorem read_calls (p b : Nat) (l : List Int) (t sp : Int) (a : Option Addr) (c : Nat) (ss : List ByteArray) (at_ : Int) (hn : ss.length ≤ maxLen) (w : World) (h : Ar w p b l) (hs : SlOf w a (strV ss)) :
    Calls Try.prog 18 #[.pointer (some ⟨p, 0, none⟩), .agg #[.int .i64 t, .int .i64 sp, .slice a ss.length c], .int .i64 at_] w (ReadPost t sp ss l at_ w) := by
  by_cases hr : rightP t sp ss l.length = true
  · have hr' := hr
    unfold rightP at hr'
    simp only [Bool.and_eq_true, decide_eq_true_eq] at hr'
    have hP : PIn w p b l t sp a ss := ⟨h, hs, hn, hr'.1, hr'.2⟩
    by_cases ho : at_ < 3 + 2 * t ∨ szP t sp ≤ at_
    · have e1 : objE t sp ss l at_ = 4 := by unfold objE standE; rw [if_pos hr, if_pos ho]
      exact (read_st p b l t sp a c ss at_ 4 w hP fun B W hh => stands_range t sp a c ss B at_ hn hr'.1 ho W hh.sh).mono fun _ _ he => readPost_no e1 (by decide) he
    · obtain ⟨b1, b2, b3, b4, _⟩ := plan_ok hr'.1
      obtain ⟨i, rfl⟩ : ∃ i : Nat, at_ = (i : Int) := ⟨at_.toNat, by omega⟩
      have h0 : 3 + 2 * t ≤ (i : Int) := by omega
      have h1 : (i : Int) < szP t sp := by omega
      have hi : i < l.length := by have := hr'.2; unfold szP at h1; omega
      have hw : wordAt l (i : Int) = l[i] := by unfold wordAt; rw [Int.toNat_natCast, List.getD_eq_getElem?_getD, List.getElem?_eq_getElem hi]; rfl
      by_cases hz : sizeO t sp ss l[i] i = 0
      · have e1 : objE t sp ss l i = 170 := by unfold objE standE; rw [if_pos hr, if_neg ho, hw, if_pos hz]
        exact (read_st p b l t sp a c ss i 170 w hP fun B W hh => stands_head p b l t sp a c ss B i hn hr'.1 h0 h1 hi hz W hh).mono fun _ _ he => readPost_no e1 (by decide) he
      · have e1 : objE t sp ss l i = 0 := by unfold objE standE; rw [if_pos hr, if_neg ho, hw, if_neg hz]
        obtain ⟨s2, s10, _⟩ := size_two hz
        have hin := obj_in b1 b3 h0 h1 hz
        obtain ⟨n, hnn⟩ : ∃ n : Nat, sizeO t sp ss l[i] i = (n : Int) := ⟨(sizeO t sp ss l[i] i).toNat, by omega⟩
        have hil : i + n ≤ l.length := by have := hr'.2; unfold szP at hin; omega
        refine (read_ok p b l t sp a c ss i n hi h0 h1 (by omega) hnn (by omega) hil w hP).mono ?_
        rintro e w' ⟨fa, fc, he, hf, hfr, hb⟩
        have hi1 : i + 1 < l.length := by omega
        have f1 : rdF t sp ss l i = fldsO l i (n - 2) := by unfold rdF; rw [if_pos e1, hw, hnn]; rfl
        have f2 : rdA t sp ss l i = i := by unfold rdA; rw [if_pos e1]
        have f3 : rdS t sp ss l i = hShape l[i] := by unfold rdS; rw [if_pos e1, hw]
        have f4 : rdM t sp ss l i = hMark l[i] := by unfold rdM; rw [if_pos e1, hw]
        have f5 : rdL t sp ss l i = l[i + 1] := by
          unfold rdL
          rw [if_pos e1]
          unfold wordAt
          rw [show ((i : Int) + 1).toNat = i + 1 by omega, List.getD_eq_getElem?_getD, List.getElem?_eq_getElem hi1]
          rfl
        unfold ReadPost
        rw [f1, f2, f3, f4, f5, e1, flds_len (by omega)]
        exact ⟨fa, fc, he, hf, hfr, hb⟩
  · have e1 : objE t sp ss l at_ = 2 := by unfold objE; rw [if_neg hr]
    refine (read_of (some ⟨p, 0, none⟩) t sp a c ss.length at_ 2 w fun W hb => ?_).mono fun _ _ he => readPost_no e1 (by decide) he
    refine of_bad p b l t sp a c ss hn W (h.below hb) (hs.below hb) fun hc => hr ?_
    unfold rightP
    rw [hc.1, decide_eq_true hc.2]
    rfl
end Go.Proofs.Ytiodkcecpnomcaa
