/- The layer 'object': the objects of words of a space, one by one (an iterator). -/
import Derived.Test.YtiodkcecpnomcaaObjH
import Derived.Test.YtiodkcecpnomcaaPutI
import Derived.RangeFuncNested
import Derived.RangeFuncBound
import Derived.RangeFuncCalls
import Derived.RangeFuncLeaves
import Derived.RangeFuncBox
import Derived.RangeFuncFrom
import Derived.Shelf.Abstract
import Derived.Shelf.RegionOpen
import Derived.OwnWalkIn
import Derived.TacticsInMore
import Derived.LoopNIn
import Derived.LoopIn
namespace Go.Proofs.Ytiodkcecpnomcaa
open Go.RowKit Go.Shelf
set_option linter.unusedVariables false
set_option linter.unusedSimpArgs false
attribute [local go_sem] Oper.semAt_some

def KeepR (N R : Nat) (A B : World) : Prop := A.heap.size ≤ B.heap.size ∧ ∀ k, k < N → k ≠ R → B.heap[k]? = A.heap[k]?
theorem KeepR.trans {N R : Nat} {A B C : World} (h : KeepR N R A B) (k : KeepR N R B C) : KeepR N R A C := ⟨Nat.le_trans h.1 k.1, fun i hi hne => (k.2 i hi hne).trans (h.2 i hi hne)⟩
theorem KeepR.of_below {N R : Nat} {A B : World} (h : Below A.heap.size A B) (hN : N ≤ A.heap.size) : KeepR N R A B := ⟨h.size, fun k hk _ => h.block k (Nat.lt_of_lt_of_le hk hN)⟩
theorem KeepR.cell {N R : Nat} {A B : World} (h : KeepR N R A B) (k o : Nat) (hk : k < N) (hne : k ≠ R) : B.cell? ⟨k, o, none⟩ = A.cell? ⟨k, o, none⟩ := by simp only [World.cell?, h.2 k hk hne]
theorem HIn.keepR {w W : World} {R p b : Nat} {l : List Int} {B : Nat} {a : Option Addr} {ss : List ByteArray} (h : HIn w p b l B a ss) (hp : p ≠ R) (hb : b ≠ R) (hB : B ≠ R) (ha : ∀ ad, a = some ad → ad.block ≠ R) (hk : KeepR w.heap.size R w W) : HIn W p b l B a ss := by
  refine ⟨h.ar.same (hk.2 p h.ar.pb hp) (hk.2 b h.ar.bb hb), (hk.cell B 0 h.lt hB).trans h.ld, Nat.lt_of_lt_of_le h.lt hk.1, ?_⟩
  rcases h.sh with hs | ⟨b', o', rfl, hb', hc'⟩
  · exact .inl hs
  · exact .inr ⟨b', o', rfl, Nat.lt_of_lt_of_le hb' hk.1, fun j hj => (hk.cell b' (o' + j) hb' (ha _ rfl)).trans (hc' j hj)⟩

/-- the objects from a word on -/
def walkN (t sp : Int) (ss : List ByteArray) (l : List Int) (until_ : Int) : Nat → Int → List Int
  | 0, _ => []
  | k + 1, x => if x < until_ then (if sizeO t sp ss (wordAt l x) x = 0 then walkN t sp ss l until_ k (x + 1) else x :: walkN t sp ss l until_ k (x + sizeO t sp ss (wordAt l x) x)) else []
def walkL (t sp : Int) (ss : List ByteArray) (l : List Int) (until_ x : Int) : List Int := walkN t sp ss l until_ (until_ - x).toNat x
theorem walkN_end {t sp : Int} {ss : List ByteArray} {l : List Int} {until_ x : Int} (h : until_ ≤ x) : ∀ k, walkN t sp ss l until_ k x = []
  | 0 => rfl
  | k + 1 => by unfold walkN; rw [if_neg (by omega)]
theorem walkN_any {t sp : Int} {ss : List ByteArray} {l : List Int} {until_ : Int} : ∀ (k j : Nat) (x : Int), (until_ - x).toNat ≤ k → (until_ - x).toNat ≤ j → walkN t sp ss l until_ k x = walkN t sp ss l until_ j x := by
  intro k
  induction k with
  | zero =>
    intro j x h1 h2
    rw [walkN_end (by omega), walkN_end (by omega)]
  | succ k ih =>
    intro j x h1 h2
    by_cases hx : x < until_
    · obtain ⟨j, rfl⟩ : ∃ j', j = j' + 1 := ⟨j - 1, by omega⟩
      have hs := size_nonneg t sp ss (wordAt l x) x
      unfold walkN
      rw [if_pos hx, if_pos hx]
      by_cases hz : sizeO t sp ss (wordAt l x) x = 0
      · rw [if_pos hz, if_pos hz, ih j (x + 1) (by omega) (by omega)]
      · rw [if_neg hz, if_neg hz, ih j _ (by omega) (by omega)]
    · rw [walkN_end (by omega), walkN_end (by omega)]
theorem walkL_end {t sp : Int} {ss : List ByteArray} {l : List Int} {until_ x : Int} (h : until_ ≤ x) : walkL t sp ss l until_ x = [] := walkN_end h _
theorem walkL_zero {t sp : Int} {ss : List ByteArray} {l : List Int} {until_ x : Int} (h : x < until_) (hz : sizeO t sp ss (wordAt l x) x = 0) : walkL t sp ss l until_ x = walkL t sp ss l until_ (x + 1) := by
  unfold walkL
  obtain ⟨k, hk⟩ : ∃ k, (until_ - x).toNat = k + 1 := ⟨(until_ - x).toNat - 1, by omega⟩
  rw [hk]
  show (if x < until_ then _ else _) = _
  rw [if_pos h, if_pos hz]
  exact walkN_any _ _ _ (by omega) (by omega)
theorem walkL_obj {t sp : Int} {ss : List ByteArray} {l : List Int} {until_ x : Int} (h : x < until_) (hz : sizeO t sp ss (wordAt l x) x ≠ 0) : walkL t sp ss l until_ x = x :: walkL t sp ss l until_ (x + sizeO t sp ss (wordAt l x) x) := by
  have hs := size_nonneg t sp ss (wordAt l x) x
  unfold walkL
  obtain ⟨k, hk⟩ : ∃ k, (until_ - x).toNat = k + 1 := ⟨(until_ - x).toNat - 1, by omega⟩
  rw [hk]
  show (if x < until_ then _ else _) = _
  rw [if_pos h, if_neg hz]
  exact congrArg _ (walkN_any _ _ _ (by omega) (by omega))
theorem walkL_len {t sp : Int} {ss : List ByteArray} {l : List Int} {until_ : Int} : ∀ (k : Nat) (x : Int), (walkN t sp ss l until_ k x).length ≤ k := by
  intro k
  induction k with
  | zero => intro x; exact Nat.le_refl _
  | succ k ih =>
    intro x
    unfold walkN
    split
    · split
      · exact Nat.le_succ_of_le (ih _)
      · exact Nat.succ_le_succ (ih _)
    · exact Nat.zero_le _
def walkEnc (x : Int) : Array Value := #[.int .i64 x]

set_option maxRecDepth 100000 in
set_option maxHeartbeats 1600000 in
theorem heapAll_stops (n : Nat) (hn : 1 ≤ n) (R F U Hb p b : Nat) (l : List Int) (t sp : Int) (a : Option Addr) (c : Nat) (ss : List ByteArray) (B : Nat) (x0 un : Int) (hn' : ss.length ≤ maxLen) (hp : planB t sp ss = true) (hl : 3 + 2 * t + 2 * sp = l.length) (h0 : 3 + 2 * t ≤ x0) (hun : x0 ≤ un) (h1 : un ≤ szP t sp)
    (w : World) (hi : HIn w p b l B a ss) (np : p ≠ R) (nb : b ≠ R) (nB : B ≠ R) (na : ∀ ad, a = some ad → ad.block ≠ R) (nF : F ≠ R) (nU : U ≠ R) (nH : Hb ≠ R)
    (qF : w.cell? ⟨F, 0, none⟩ = some (.int .i64 x0)) (qU : w.cell? ⟨U, 0, none⟩ = some (.int .i64 un)) (q0 : w.cell? ⟨Hb, 0, none⟩ = some (.int .i64 t)) (q1 : w.cell? ⟨Hb, 1, none⟩ = some (.int .i64 sp)) (q2 : w.cell? ⟨Hb, 2, none⟩ = some (.slice a ss.length c)) (q3 : w.cell? ⟨Hb, 3, none⟩ = some (.func (.func 56) #[] #[.pointer (some ⟨B, 0, none⟩)])) :
    SeqStopsK Fence.wide n Try.prog 62 #[.pointer (some ⟨F, 0, none⟩), .pointer (some ⟨U, 0, none⟩), .pointer (some ⟨Hb, 0, none⟩)] walkEnc (KeepR w.heap.size R) (fun xs => xs = walkL t sp ss l un x0) (fun _ => True) (walkL t sp ss l un x0).length w := by
  intro lb J Jx W hW hJ hJx hY hJ0
  have kW : KeepR w.heap.size R w W := KeepR.of_below hW (Nat.le_refl _)
  have bF := World.block_lt_of_cell? w _ qF
  have bU := World.block_lt_of_cell? w _ qU
  have bH := World.block_lt_of_cell? w _ q0
  obtain ⟨b1, b2, b3, b4, _⟩ := plan_ok hp
  have hl4 := hi.ar.len
  have SZ : ∀ (i : Nat) (W : World), 3 + 2 * t ≤ (i : Int) → (hu : (i : Int) < un) → KeepR w.heap.size R w W → Calls Try.prog 58 #[heapV t sp a ss.length c B, .int .i64 (i : Int)] W fun e w' => e = .returned (.int .i64 (sizeO t sp ss (wordAt l i) i)) ∧ Below W.heap.size W w' := by
    intro i W hi0 hu hk
    have hsz : (i : Int) < szP t sp := by omega
    have hil : i < l.length := by unfold szP at hsz; omega
    have hw : wordAt l (i : Int) = l[i] := by unfold wordAt; rw [Int.toNat_natCast, List.getD_eq_getElem?_getD, List.getElem?_eq_getElem hil]; rfl
    rw [hw]
    exact objSize_calls p b l t sp a c ss B i hn' hp hi0 hsz hil W (hi.keepR np nb nB na hk)
  unfold heapV at SZ
  have SZ := Lib.hid SZ
  have HY := Lib.hid hY
  have HJ := Lib.hid hJ
  have HWn := Lib.hid hW.size
  have QF := Lib.hid qF
  have QU := Lib.hid qU
  have Q0 := Lib.hid q0
  have Q1 := Lib.hid q1
  have Q2 := Lib.hid q2
  have Q3 := Lib.hid q3
  have cF := (kW.cell F 0 bF nF).trans qF
  clear hY hJ hJx qF qU q0 q1 q2 q3 hi hW hp
  refine callsIn_of_wp Try.func62 rfl trivial ?_ rfl
  simp only [Try.ntmps62, List.size_toArray, List.length_cons, List.length_nil, Nat.reduceAdd, Nat.reduceSub, Array.replicate_succ, Array.replicate_zero, List.push_toArray, List.append_toArray, List.nil_append, List.cons_append]
  refine wpIn_wide.2 (wp_scope_straight ((wpIn_wide (n := n)).1 ?_))
  gi_wp2
  refine wpIn_label ?_
  gi_wp2
  gi_loopw [5, 6] (fun xv sv wr => ∃ (x : Int) (pre : List Int), xv = .int .i64 x ∧ x0 ≤ x ∧ x ≤ un + 16 ∧ pre ++ walkL t sp ss l un x = walkL t sp ss l un x0 ∧ J pre wr ∧ KeepR w.heap.size R w wr ∧ W.heap.size ≤ wr.heap.size) (fun xv _ _ => (un - intOf xv).toNat)
  case atStart => exact ⟨x0, [], rfl, by omega, by omega, rfl, hJ0, kW, Nat.le_refl _⟩
  case round =>
    obtain ⟨x, pre, rfl, hx0, hx1, hpre, hJr, hk, hWr⟩ := hrel
    have cU := (hk.cell U 0 bU nU).trans QU.out
    have c0 := (hk.cell Hb 0 bH nH).trans Q0.out
    have c1 := (hk.cell Hb 1 bH nH).trans Q1.out
    have c2 := (hk.cell Hb 2 bH nH).trans Q2.out
    have c3 := (hk.cell Hb 3 bH nH).trans Q3.out
    unfold szP at h1
    by_cases hlt : x < un
    · obtain ⟨i, rfl⟩ : ∃ i : Nat, x = (i : Int) := ⟨x.toNat, by omega⟩
      have SZi := SZ.out i wr (by omega) hlt hk
      have hsn := size_nonneg t sp ss (wordAt l i) i
      have hsm : sizeO t sp ss (wordAt l i) i ≤ sp := size_small b3
      by_cases hz : sizeO t sp ss (wordAt l i) i = 0
      · have hw1 := walkL_zero hlt hz
        rw [hw1] at hpre
        rw [hz] at SZi
        have SZi := Lib.hid SZi
        have HP := Lib.hid hpre
        clear hpre hw1 hz hsn hsm
        gi_wp2_with fail
        refine ⟨trivial, (callsIn_wide.2 (SZi.out)).mono ?_⟩; rintro e1 w1 ⟨rfl, hb1⟩; have hz1 := hb1.size; (try simp at hz1)
        have hJ1 := HJ.out _ _ _ none hJr (grown_of_below hb1) (fun r e => by cases e)
        have hk1 := hk.trans (KeepR.of_below hb1 hk.1)
        gi_wp2
        go_roundw
        case rel => exact ⟨(i : Int) + 1, pre, by go_num, by omega, by omega, HP.out, hJ1, hk1, by omega⟩
        case measure => simp [intOf]; omega
      · have hw1 := walkL_obj hlt hz
        have hlen : pre.length < (walkL t sp ss l un x0).length := by
          rw [← hpre, hw1, List.length_append, List.length_cons]
          omega
        have s2 := (size_two hz).1
        have s10 := (size_two hz).2.1
        rw [hw1] at hpre
        generalize sizeO t sp ss (wordAt l i) i = nn at SZi hz hsn hsm hpre s2 s10
        have hnz : (nn == 0) = false := beq_eq_false_iff_ne.2 hz
        have SZi := Lib.hid SZi
        have HP := Lib.hid hpre
        clear hpre hw1 hz
        gi_wp2_with fail
        refine ⟨trivial, (callsIn_wide.2 (SZi.out)).mono ?_⟩; rintro e1 w1 ⟨rfl, hb1⟩; have hz1 := hb1.size; (try simp at hz1)
        have hJ1 := HJ.out _ _ _ none hJr (grown_of_below hb1) (fun r e => by cases e)
        have hk1 := hk.trans (KeepR.of_below hb1 hk.1)
        obtain ⟨fn, tmps, assign, body, hy, hR⟩ := HY.out pre (i : Int) w1 hJ1 hlen
        simp only [walkEnc] at hy
        gi_wp2
        refine hR.mono ?_
        rintro e W3 (⟨rfl, hJ4, hk4⟩ | ⟨rfl, hJx4⟩)
        · gi_wp2
          go_roundw
          case rel => exact ⟨(i : Int) + nn, pre ++ [(i : Int)], by go_num, by omega, by omega, by rw [List.append_assoc]; exact HP.out, hJ4, hk1.trans hk4, by have := hk4.1; omega⟩
          case measure => simp [intOf]; omega
        · gi_wp2
          rw [Exit.noGoto_normal]
          go_end0
          exact ⟨⟨_, rfl⟩, .inr ⟨_, trivial, hJx4⟩⟩
    · have he : walkL t sp ss l un x = [] := walkL_end (by omega)
      rw [he, List.append_nil] at hpre
      gi_wp2
      (try rw [Exit.noGoto_normal])
      go_end0
      exact ⟨⟨_, rfl⟩, .inl (by rw [← hpre]; exact hJr)⟩
end Go.Proofs.Ytiodkcecpnomcaa
