/- The layer 'object': Put, whatever it is asked. -/
import Derived.Test.YtiodkcecpnomcaaPut2
namespace Go.Proofs.Ytiodkcecpnomcaa
open Go.RowKit
set_option linter.unusedVariables false
set_option linter.unusedSimpArgs false

def putE (t sp : Int) (ss : List ByteArray) (n : Nat) (at_ s m : Int) (k : Nat) : Int :=
  if rightP t sp ss n = true ∧ rightB s m = true then
    (if ofE ss s = 0 ∧ (k : Int) = sizeN ss s - 2 then (if at_ < 3 + 2 * t ∨ szP t sp ≤ at_ ∨ sp - inV t sp at_ < sizeN ss s then 4 else 0) else 2)
  else 2
def putL (t sp : Int) (ss : List ByteArray) (l : List Int) (at_ s m link : Int) (fl : List Int) : List Int :=
  if putE t sp ss l.length at_ s m fl.length = 0 then putTo l at_.toNat (hWord s m :: link :: fl) (2 + fl.length) else l
theorem putL_len (t sp : Int) (ss : List ByteArray) (l : List Int) (at_ s m link : Int) (fl : List Int) : (putL t sp ss l at_ s m link fl).length = l.length := by
  unfold putL
  split
  · exact putTo_len _ _ _ _
  · rfl
def PutPost (p b : Nat) (l : List Int) (t sp : Int) (ss : List ByteArray) (at_ s m link : Int) (fl : List Int) (w : World) (e : Ending) (w' : World) : Prop :=
  e = .returned (.int .i64 (putE t sp ss l.length at_ s m fl.length)) ∧ Ar w' p b (putL t sp ss l at_ s m link fl) ∧ Below w.heap.size (w.setRow b (u64s (putL t sp ss l at_ s m link fl))) w'
theorem putPost_no {p b : Nat} {l : List Int} {t sp : Int} {ss : List ByteArray} {at_ s m link : Int} {fl : List Int} {w w' : World} {e : Ending} {k : Int} (h : Ar w p b l) (hk : putE t sp ss l.length at_ s m fl.length = k) (h0 : k ≠ 0)
    (he : e = .returned (.int .i64 k) ∧ Below w.heap.size w w') : PutPost p b l t sp ss at_ s m link fl w e w' := by
  have e1 : putL t sp ss l at_ s m link fl = l := by unfold putL; rw [if_neg (by rw [hk]; exact h0)]
  unfold PutPost
  rw [e1, hk, setRow_same h]
  exact ⟨he.1, h.below he.2, he.2⟩
theorem sizeN_rng {ss : List ByteArray} {s : Int} (h : ofE ss s = 0) : 2 ≤ sizeN ss s ∧ sizeN ss s ≤ 10 := by
  have := shape_small h
  unfold sizeN
  rw [if_pos h]
  omega
theorem put_calls (p b : Nat) (l : List Int) (t sp : Int) (a : Option Addr) (c : Nat) (ss : List ByteArray) (at_ s m link : Int) (fa : Option Addr) (fc : Nat) (fl : List Int) (hn : ss.length ≤ maxLen) (hfl : fl.length ≤ maxLen)
    (hlk : 0 ≤ link ∧ link < 18446744073709551616) (hfr : ∀ x ∈ fl, 0 ≤ x ∧ x < 18446744073709551616) (hfn : fa = none → fl.length = 0 ∧ fc = 0) (w : World) (h : Ar w p b l) (hs : SlOf w a (strV ss)) (hfw : WdsOf w fa fl) :
    Calls Try.prog 19 #[.pointer (some ⟨p, 0, none⟩), .agg #[.int .i64 t, .int .i64 sp, .slice a ss.length c], objV at_ s m link fa fl.length fc] w (PutPost p b l t sp ss at_ s m link fl w) := by
  by_cases hr : rightP t sp ss l.length = true
  · have hr' := hr
    unfold rightP at hr'
    simp only [Bool.and_eq_true, decide_eq_true_eq] at hr'
    obtain ⟨b1, b2, b3, b4, _⟩ := plan_ok hr'.1
    have hP : PIn w p b l t sp a ss := ⟨h, hs, hn, hr'.1, hr'.2⟩
    cases hb : rightB s m with
    | false =>
      have e1 : putE t sp ss l.length at_ s m fl.length = 2 := by unfold putE; rw [if_neg (fun hc => by rw [hb] at hc; cases hc.2)]
      exact (put_head p b l t sp a c ss at_ s m link fa fc fl hb w hP).mono fun _ _ he => putPost_no h e1 (by decide) he
    | true =>
      by_cases ho : ofE ss s = 0
      · have hsr := sizeN_rng ho
        by_cases hk : (fl.length : Int) = sizeN ss s - 2
        · have e1 : putE t sp ss l.length at_ s m fl.length = if at_ < 3 + 2 * t ∨ szP t sp ≤ at_ ∨ sp - inV t sp at_ < sizeN ss s then 4 else 0 := by unfold putE; rw [if_pos ⟨hr, hb⟩, if_pos ⟨ho, hk⟩]
          by_cases hi : at_ < 3 + 2 * t ∨ szP t sp ≤ at_
          · have e2 : putE t sp ss l.length at_ s m fl.length = 4 := by rw [e1, if_pos (by rcases hi with h | h; exact .inl h; exact .inr (.inl h))]
            exact (put_in p b l t sp a c ss at_ s m link fa fc fl hb ho _ rfl hsr hk hfl hi w hP).mono fun _ _ he => putPost_no h e2 (by decide) he
          · by_cases hf : sp - inV t sp at_ < sizeN ss s
            · have e2 : putE t sp ss l.length at_ s m fl.length = 4 := by rw [e1, if_pos (.inr (.inr hf))]
              exact (put_big p b l t sp a c ss at_ s m link fa fc fl hb ho _ rfl hsr hk hfl (by omega) (by omega) hf w hP).mono fun _ _ he => putPost_no h e2 (by decide) he
            · have e2 : putE t sp ss l.length at_ s m fl.length = 0 := by rw [e1, if_neg (by omega)]
              obtain ⟨i, rfl⟩ : ∃ i : Nat, at_ = (i : Int) := ⟨at_.toNat, by omega⟩
              have e3 : putL t sp ss l i s m link fl = putTo l i (hWord s m :: link :: fl) (2 + fl.length) := by unfold putL; rw [if_pos e2]; rfl
              unfold PutPost
              rw [e2, e3]
              have hin : (i : Int) + sizeN ss s ≤ l.length := by
                have h0 : 3 + 2 * t ≤ (i : Int) := by omega
                have h1 : (i : Int) < szP t sp := by omega
                have hm := Int.mul_ediv_add_emod ((i : Int) - (3 + 2 * t)) sp
                have hq0 : 0 ≤ ((i : Int) - (3 + 2 * t)) / sp := Int.ediv_nonneg (by omega) (by omega)
                have hq1 : ((i : Int) - (3 + 2 * t)) / sp < 2 := Int.ediv_lt_of_lt_mul (by omega) (by unfold szP at h1; omega)
                unfold inV at hf
                generalize ((i : Int) - (3 + 2 * t)) / sp = q at hm hq0 hq1
                generalize ((i : Int) - (3 + 2 * t)) % sp = r at hm hf
                have hlen := hr'.2
                have : q = 0 ∨ q = 1 := by omega
                rcases this with rfl | rfl
                · omega
                · omega
              exact put_ok p b l t sp a c ss i s m link fa fc fl hb ho _ rfl hsr hk hfl (by omega) (by omega) (by omega) hin hlk hfr hfn w hP hfw
        · have e1 : putE t sp ss l.length at_ s m fl.length = 2 := by unfold putE; rw [if_pos ⟨hr, hb⟩, if_neg (fun hc => hk hc.2)]
          exact (put_many p b l t sp a c ss at_ s m link fa fc fl hb ho _ rfl hsr hk hfl w hP).mono fun _ _ he => putPost_no h e1 (by decide) he
      · have e1 : putE t sp ss l.length at_ s m fl.length = 2 := by unfold putE; rw [if_pos ⟨hr, hb⟩, if_neg (fun hc => ho hc.1)]
        exact (put_shape p b l t sp a c ss at_ s m link fa fc fl hb ho w hP).mono fun _ _ he => putPost_no h e1 (by decide) he
  · have e1 : putE t sp ss l.length at_ s m fl.length = 2 := by unfold putE; rw [if_neg (fun hc => hr hc.1)]
    refine (put_of (some ⟨p, 0, none⟩) t sp a c ss.length at_ s m link fa fl.length fc 2 w fun W hb => ?_).mono fun _ _ he => putPost_no h e1 (by decide) he
    refine of_bad p b l t sp a c ss hn W (h.below hb) (hs.below hb) fun hc => hr ?_
    unfold rightP
    rw [hc.1, decide_eq_true hc.2]
    rfl
end Go.Proofs.Ytiodkcecpnomcaa
