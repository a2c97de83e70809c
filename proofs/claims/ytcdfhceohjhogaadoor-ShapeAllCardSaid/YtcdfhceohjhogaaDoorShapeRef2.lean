/- The reference of layer 'shape': the kinds of fields, the text of a table, whether two tables are the same. -/
import Derived.Test.YtcdfhceohjhogaaDoorShapeRef
import Derived.Test.YtcdfhceohjhogaaDoorKind
import Derived.Test.YtcdfhceohjhogaaDoorTextFn
namespace Go.Proofs.YtcdfhceohjhogaaDoor
open Go.RowKit
set_option linter.unusedVariables false
set_option linter.unusedSimpArgs false

set_option maxHeartbeats 800000 in
theorem refKind_calls (a : Option Addr) (c : Nat) (ss : List ByteArray) (i f : Int) (hn : Fit ss) (w : World) (h : SlOf w a (strV ss)) :
    Calls Tryd.prog 33 #[.slice a ss.length c, .int .i64 i, .int .i64 f] w fun e w' => e = .returned (.tuple #[.int .i64 (kindK ss i f), .int .i64 (kindE ss i f)]) ∧ Below w.heap.size w w' := by
  have HS := Lib.hid h
  have hr := fun w h => refSize_calls a c ss i hn w h
  clear h
  have hnn := hn.1
  unfold maxLen at hnn
  by_cases he : ofE ss i = 0
  · obtain ⟨ht, h0, h1⟩ := ofE_zero he
    obtain ⟨k, rfl⟩ := Int.eq_ofNat_of_zero_le h0
    have hk : k < ss.length := by omega
    have hsz := shape_size (table_at ht k hk)
    have e1 : ofS ss k = ss[k] := by unfold ofS; rw [if_pos he]; simp [hk]
    rw [he] at hr
    rcases kindE_cases ss k f with ⟨h', _⟩ | ⟨_, h0, hkk⟩ | ⟨_, h0, h1, hkk⟩ | ⟨_, h0, h1, hkk⟩
    · exact absurd he h'
    · have e2 : kindK ss k f = 0 := by unfold kindK; rw [if_neg (by rw [hkk]; decide)]
      rw [hkk, e2]
      have HR := Lib.hid hr
      clear hr e2 he hkk ht e1
      go_enter Tryd.func33, Tryd.ntmps33
      go_wp2_with fail
      refine (HR.out _ HS.out).mono ?_; rintro e1 w1 ⟨rfl, hb1⟩; obtain ⟨hc1, hf1⟩ := bcell hb1; have hz1 := hb1.size; (try simp at hz1)
      go_wp2
      go_ret2
      exact ⟨rfl, by (repeat (first | exact Below.refl _ _ | (with_reducible assumption) | refine Below.drew ?_ | refine Below.drewN' ?_ _ | refine Below.alloc ?_ (by first | omega | (simp; done) | (simp; omega)) _ | refine Below.setCell ?_ (by first | omega | (simp; done) | (simp; omega)) _ | refine Below.then ?_ hb9 (by first | omega | (simp; done) | (simp; omega)) | refine Below.then ?_ hb8 (by first | omega | (simp; done) | (simp; omega)) | refine Below.then ?_ hb7 (by first | omega | (simp; done) | (simp; omega)) | refine Below.then ?_ hb6 (by first | omega | (simp; done) | (simp; omega)) | refine Below.then ?_ hb5 (by first | omega | (simp; done) | (simp; omega)) | refine Below.then ?_ hb4 (by first | omega | (simp; done) | (simp; omega)) | refine Below.then ?_ hb3 (by first | omega | (simp; done) | (simp; omega)) | refine Below.then ?_ hb2 (by first | omega | (simp; done) | (simp; omega)) | refine Below.then ?_ hb1 (by first | omega | (simp; done) | (simp; omega))))⟩
    · have e2 : kindK ss k f = 0 := by unfold kindK; rw [if_neg (by rw [hkk]; decide)]
      rw [hkk, e2]
      rw [e1] at h1
      have HR := Lib.hid hr
      clear hr e2 he hkk ht e1
      go_enter Tryd.func33, Tryd.ntmps33
      go_wp2_with fail
      refine (HR.out _ HS.out).mono ?_; rintro e1 w1 ⟨rfl, hb1⟩; obtain ⟨hc1, hf1⟩ := bcell hb1; have hz1 := hb1.size; (try simp at hz1)
      rcases HS.out.below hb1 with h' | ⟨b, o, rfl, hbl, hcell⟩
      · have := congrArg List.length h'; rw [strV_len, List.length_nil] at this; omega
      have hc := hcell k (by rw [strV_len]; exact hk)
      rw [strV_get ss k hk] at hc
      clear hcell
      go_wp2
      go_ret2
      exact ⟨rfl, by (repeat (first | exact Below.refl _ _ | (with_reducible assumption) | refine Below.drew ?_ | refine Below.drewN' ?_ _ | refine Below.alloc ?_ (by first | omega | (simp; done) | (simp; omega)) _ | refine Below.setCell ?_ (by first | omega | (simp; done) | (simp; omega)) _ | refine Below.then ?_ hb9 (by first | omega | (simp; done) | (simp; omega)) | refine Below.then ?_ hb8 (by first | omega | (simp; done) | (simp; omega)) | refine Below.then ?_ hb7 (by first | omega | (simp; done) | (simp; omega)) | refine Below.then ?_ hb6 (by first | omega | (simp; done) | (simp; omega)) | refine Below.then ?_ hb5 (by first | omega | (simp; done) | (simp; omega)) | refine Below.then ?_ hb4 (by first | omega | (simp; done) | (simp; omega)) | refine Below.then ?_ hb3 (by first | omega | (simp; done) | (simp; omega)) | refine Below.then ?_ hb2 (by first | omega | (simp; done) | (simp; omega)) | refine Below.then ?_ hb1 (by first | omega | (simp; done) | (simp; omega))))⟩
    · obtain ⟨j, rfl⟩ := Int.eq_ofNat_of_zero_le h0
      rw [e1] at h1
      have hj : j < ss[k].size := by omega
      have e2 : kindK ss k j = letterK (ss[k][j].toNat : Int) := by
        unfold kindK
        rw [if_pos hkk, e1, ← byteAt_get ss[k] j hj]
        simp
      rw [hkk, e2]
      have HR := Lib.hid hr
      have hlk : ss[k][j] = 115 ∨ ss[k][j] = 112 := by
        have := shape_letter (table_at ht k hk) j hj
        have : ss[k][j] = 112 ∨ ss[k][j] = 115 := by simpa [letterOk] using this
        exact this.symm
      clear hr e2 he hkk ht e1
      rcases hlk with hlk | hlk
      · have hbb : ((ss[k][j].toNat : Nat) : Int) = 115 := by rw [hlk]; rfl
        rw [hbb, show letterK 115 = 1 from rfl]
        go_enter Tryd.func33, Tryd.ntmps33
        go_wp2_with fail
        refine (HR.out _ HS.out).mono ?_; rintro e1 w1 ⟨rfl, hb1⟩; obtain ⟨hc1, hf1⟩ := bcell hb1; have hz1 := hb1.size; (try simp at hz1)
        rcases HS.out.below hb1 with h' | ⟨b, o, rfl, hbl, hcell⟩
        · have := congrArg List.length h'; rw [strV_len, List.length_nil] at this; omega
        have hc := hcell k (by rw [strV_len]; exact hk)
        rw [strV_get ss k hk] at hc
        clear hcell
        go_wp2
        go_ret2
        exact ⟨rfl, by (repeat (first | exact Below.refl _ _ | (with_reducible assumption) | refine Below.drew ?_ | refine Below.drewN' ?_ _ | refine Below.alloc ?_ (by first | omega | (simp; done) | (simp; omega)) _ | refine Below.setCell ?_ (by first | omega | (simp; done) | (simp; omega)) _ | refine Below.then ?_ hb9 (by first | omega | (simp; done) | (simp; omega)) | refine Below.then ?_ hb8 (by first | omega | (simp; done) | (simp; omega)) | refine Below.then ?_ hb7 (by first | omega | (simp; done) | (simp; omega)) | refine Below.then ?_ hb6 (by first | omega | (simp; done) | (simp; omega)) | refine Below.then ?_ hb5 (by first | omega | (simp; done) | (simp; omega)) | refine Below.then ?_ hb4 (by first | omega | (simp; done) | (simp; omega)) | refine Below.then ?_ hb3 (by first | omega | (simp; done) | (simp; omega)) | refine Below.then ?_ hb2 (by first | omega | (simp; done) | (simp; omega)) | refine Below.then ?_ hb1 (by first | omega | (simp; done) | (simp; omega))))⟩
      · have hbb : ((ss[k][j].toNat : Nat) : Int) = 112 := by rw [hlk]; rfl
        rw [hbb, show letterK 112 = 0 from rfl]
        go_enter Tryd.func33, Tryd.ntmps33
        go_wp2_with fail
        refine (HR.out _ HS.out).mono ?_; rintro e1 w1 ⟨rfl, hb1⟩; obtain ⟨hc1, hf1⟩ := bcell hb1; have hz1 := hb1.size; (try simp at hz1)
        rcases HS.out.below hb1 with h' | ⟨b, o, rfl, hbl, hcell⟩
        · have := congrArg List.length h'; rw [strV_len, List.length_nil] at this; omega
        have hc := hcell k (by rw [strV_len]; exact hk)
        rw [strV_get ss k hk] at hc
        clear hcell
        go_wp2
        go_ret2
        exact ⟨rfl, by (repeat (first | exact Below.refl _ _ | (with_reducible assumption) | refine Below.drew ?_ | refine Below.drewN' ?_ _ | refine Below.alloc ?_ (by first | omega | (simp; done) | (simp; omega)) _ | refine Below.setCell ?_ (by first | omega | (simp; done) | (simp; omega)) _ | refine Below.then ?_ hb9 (by first | omega | (simp; done) | (simp; omega)) | refine Below.then ?_ hb8 (by first | omega | (simp; done) | (simp; omega)) | refine Below.then ?_ hb7 (by first | omega | (simp; done) | (simp; omega)) | refine Below.then ?_ hb6 (by first | omega | (simp; done) | (simp; omega)) | refine Below.then ?_ hb5 (by first | omega | (simp; done) | (simp; omega)) | refine Below.then ?_ hb4 (by first | omega | (simp; done) | (simp; omega)) | refine Below.then ?_ hb3 (by first | omega | (simp; done) | (simp; omega)) | refine Below.then ?_ hb2 (by first | omega | (simp; done) | (simp; omega)) | refine Below.then ?_ hb1 (by first | omega | (simp; done) | (simp; omega))))⟩
  · have e2 : kindE ss i f = ofE ss i := by unfold kindE; rw [if_neg he]
    have e1 : kindK ss i f = 0 := by unfold kindK; rw [if_neg (by rw [e2]; exact he)]
    have hb : (ofE ss i != 0) = true := by simpa using he
    have hb' : (ofE ss i == 0) = false := by simpa using he
    rw [e2, e1]
    have HR := Lib.hid hr
    clear hr e2 he e1
    go_enter Tryd.func33, Tryd.ntmps33
    go_wp2_with fail
    refine (HR.out _ HS.out).mono ?_; rintro e1 w1 ⟨rfl, hb1⟩; obtain ⟨hc1, hf1⟩ := bcell hb1; have hz1 := hb1.size; (try simp at hz1)
    go_wp2
    go_ret2
    exact ⟨rfl, by (repeat (first | exact Below.refl _ _ | (with_reducible assumption) | refine Below.drew ?_ | refine Below.drewN' ?_ _ | refine Below.alloc ?_ (by first | omega | (simp; done) | (simp; omega)) _ | refine Below.setCell ?_ (by first | omega | (simp; done) | (simp; omega)) _ | refine Below.then ?_ hb9 (by first | omega | (simp; done) | (simp; omega)) | refine Below.then ?_ hb8 (by first | omega | (simp; done) | (simp; omega)) | refine Below.then ?_ hb7 (by first | omega | (simp; done) | (simp; omega)) | refine Below.then ?_ hb6 (by first | omega | (simp; done) | (simp; omega)) | refine Below.then ?_ hb5 (by first | omega | (simp; done) | (simp; omega)) | refine Below.then ?_ hb4 (by first | omega | (simp; done) | (simp; omega)) | refine Below.then ?_ hb3 (by first | omega | (simp; done) | (simp; omega)) | refine Below.then ?_ hb2 (by first | omega | (simp; done) | (simp; omega)) | refine Below.then ?_ hb1 (by first | omega | (simp; done) | (simp; omega))))⟩

set_option maxHeartbeats 800000 in
theorem refIs_calls (a : Option Addr) (c : Nat) (ss : List ByteArray) (i f k : Int) (hn : Fit ss) (w : World) (h : SlOf w a (strV ss)) :
    Calls Tryd.prog 36 #[.slice a ss.length c, .int .i64 i, .int .i64 f, .int .i64 k] w fun e w' => e = .returned (.int .i64 (isE ss i f k)) ∧ Below w.heap.size w w' := by
  have HS := Lib.hid h
  have hkc := fun w h => refKind_calls a c ss i f hn w h
  clear h
  by_cases he : kindE ss i f = 0
  · by_cases hk : kindK ss i f = k
    · have e1 : isE ss i f k = 0 := by unfold isE; rw [if_pos he, if_pos hk]
      rw [he, hk] at hkc
      rw [e1]
      have HK := Lib.hid hkc
      clear hkc e1 he hk
      go_enter Tryd.func36, Tryd.ntmps36
      go_wp2_with fail
      refine (HK.out _ HS.out).mono ?_; rintro e1 w1 ⟨rfl, hb1⟩; obtain ⟨hc1, hf1⟩ := bcell hb1; have hz1 := hb1.size; (try simp at hz1)
      go_wp2
      go_ret
      exact ⟨rfl, by (repeat (first | exact Below.refl _ _ | (with_reducible assumption) | refine Below.drew ?_ | refine Below.drewN' ?_ _ | refine Below.alloc ?_ (by first | omega | (simp; done) | (simp; omega)) _ | refine Below.setCell ?_ (by first | omega | (simp; done) | (simp; omega)) _ | refine Below.then ?_ hb9 (by first | omega | (simp; done) | (simp; omega)) | refine Below.then ?_ hb8 (by first | omega | (simp; done) | (simp; omega)) | refine Below.then ?_ hb7 (by first | omega | (simp; done) | (simp; omega)) | refine Below.then ?_ hb6 (by first | omega | (simp; done) | (simp; omega)) | refine Below.then ?_ hb5 (by first | omega | (simp; done) | (simp; omega)) | refine Below.then ?_ hb4 (by first | omega | (simp; done) | (simp; omega)) | refine Below.then ?_ hb3 (by first | omega | (simp; done) | (simp; omega)) | refine Below.then ?_ hb2 (by first | omega | (simp; done) | (simp; omega)) | refine Below.then ?_ hb1 (by first | omega | (simp; done) | (simp; omega))))⟩
    · have e1 : isE ss i f k = 132 := by unfold isE; rw [if_pos he, if_neg hk]
      have hb : (kindK ss i f != k) = true := by simpa using hk
      have hb' : (kindK ss i f == k) = false := by simpa using hk
      rw [he] at hkc
      rw [e1]
      have HK := Lib.hid hkc
      clear hkc e1 he hk
      go_enter Tryd.func36, Tryd.ntmps36
      go_wp2_with fail
      refine (HK.out _ HS.out).mono ?_; rintro e1 w1 ⟨rfl, hb1⟩; obtain ⟨hc1, hf1⟩ := bcell hb1; have hz1 := hb1.size; (try simp at hz1)
      go_wp2
      go_ret
      exact ⟨rfl, by (repeat (first | exact Below.refl _ _ | (with_reducible assumption) | refine Below.drew ?_ | refine Below.drewN' ?_ _ | refine Below.alloc ?_ (by first | omega | (simp; done) | (simp; omega)) _ | refine Below.setCell ?_ (by first | omega | (simp; done) | (simp; omega)) _ | refine Below.then ?_ hb9 (by first | omega | (simp; done) | (simp; omega)) | refine Below.then ?_ hb8 (by first | omega | (simp; done) | (simp; omega)) | refine Below.then ?_ hb7 (by first | omega | (simp; done) | (simp; omega)) | refine Below.then ?_ hb6 (by first | omega | (simp; done) | (simp; omega)) | refine Below.then ?_ hb5 (by first | omega | (simp; done) | (simp; omega)) | refine Below.then ?_ hb4 (by first | omega | (simp; done) | (simp; omega)) | refine Below.then ?_ hb3 (by first | omega | (simp; done) | (simp; omega)) | refine Below.then ?_ hb2 (by first | omega | (simp; done) | (simp; omega)) | refine Below.then ?_ hb1 (by first | omega | (simp; done) | (simp; omega))))⟩
  · have e1 : isE ss i f k = kindE ss i f := by unfold isE; rw [if_neg he]
    have hb : (kindE ss i f == 0) = false := by simpa using he
    have hb' : (kindE ss i f != 0) = true := by simpa using he
    rw [e1]
    have HK := Lib.hid hkc
    clear hkc e1 he
    go_enter Tryd.func36, Tryd.ntmps36
    go_wp2_with fail
    refine (HK.out _ HS.out).mono ?_; rintro e1 w1 ⟨rfl, hb1⟩; obtain ⟨hc1, hf1⟩ := bcell hb1; have hz1 := hb1.size; (try simp at hz1)
    go_wp2
    go_ret
    exact ⟨rfl, by (repeat (first | exact Below.refl _ _ | (with_reducible assumption) | refine Below.drew ?_ | refine Below.drewN' ?_ _ | refine Below.alloc ?_ (by first | omega | (simp; done) | (simp; omega)) _ | refine Below.setCell ?_ (by first | omega | (simp; done) | (simp; omega)) _ | refine Below.then ?_ hb9 (by first | omega | (simp; done) | (simp; omega)) | refine Below.then ?_ hb8 (by first | omega | (simp; done) | (simp; omega)) | refine Below.then ?_ hb7 (by first | omega | (simp; done) | (simp; omega)) | refine Below.then ?_ hb6 (by first | omega | (simp; done) | (simp; omega)) | refine Below.then ?_ hb5 (by first | omega | (simp; done) | (simp; omega)) | refine Below.then ?_ hb4 (by first | omega | (simp; done) | (simp; omega)) | refine Below.then ?_ hb3 (by first | omega | (simp; done) | (simp; omega)) | refine Below.then ?_ hb2 (by first | omega | (simp; done) | (simp; omega)) | refine Below.then ?_ hb1 (by first | omega | (simp; done) | (simp; omega))))⟩

theorem joinTail_snoc (sep : List UInt8) (r : List (List UInt8)) (y : List UInt8) : Lib.joinTail sep (r ++ [y]) = Lib.joinTail sep r ++ (sep ++ y) := by
  simp [Lib.joinTail]
theorem join_snoc (xs : List (List UInt8)) (y sep : List UInt8) : Lib.join (xs ++ [y]) sep = (if xs = [] then y else Lib.join xs sep ++ (sep ++ y)) := by
  cases xs with
  | nil => simp [Lib.join_one]
  | cons x r => rw [List.cons_append, Lib.join_cons, joinTail_snoc, Lib.join_cons]; simp

def textTo (ss : List ByteArray) (k : Nat) : ByteArray := textOf (ss.take k)
theorem textOf_all (ss : List ByteArray) : textTo ss ss.length = textOf ss := by unfold textTo; rw [List.take_of_length_le (Nat.le_refl _)]
theorem mk_toArray (a b : List UInt8) : (⟨(a ++ b).toArray⟩ : ByteArray) = ⟨a.toArray⟩ ++ ⟨b.toArray⟩ := by
  have : ((⟨a.toArray⟩ ++ ⟨b.toArray⟩ : ByteArray)).data = (a ++ b).toArray := by simp
  exact (congrArg ByteArray.mk this).symm
theorem mk_data (s : ByteArray) : (⟨s.data.toList.toArray⟩ : ByteArray) = s := rfl
theorem textTo_succ (ss : List ByteArray) (k : Nat) (h : k < ss.length) : textTo ss (k + 1) = (if k = 0 then pieceOf ss[k] else textTo ss k ++ ⟨#[32]⟩ ++ pieceOf ss[k]) := by
  unfold textTo textOf
  rw [List.take_succ_eq_append_getElem h, List.map_append, List.map_append, List.map_cons, List.map_nil, List.map_cons, List.map_nil, join_snoc]
  by_cases h0 : k = 0
  · subst h0
    simp
  · rw [if_neg (by intro e; have := congrArg List.length e; simp only [List.length_map, List.length_take, List.length_nil] at this; omega), if_neg h0, mk_toArray, mk_toArray, mk_data]
    exact (ByteArray.append_assoc).symm

theorem textTo_small (ss : List ByteArray) (ht : tableB ss = true) (k : Nat) (hk : k ≤ ss.length) : (textTo ss k).size ≤ k * 9 := by
  have hsm : ∀ x ∈ ((ss.take k).map pieceOf).map (·.data.toList), x.length ≤ 8 := by
    intro x hx
    simp only [List.map_map, List.mem_map, Function.comp] at hx
    obtain ⟨s, hs, rfl⟩ := hx
    obtain ⟨j, hj, rfl⟩ := List.mem_iff_getElem.1 (List.mem_of_mem_take hs)
    exact pieceOf_small (shape_size (table_at ht j hj))
  have := join_small _ 8 hsm
  simp only [List.length_map, List.length_take] at this
  show (Lib.join _ [32]).length ≤ _
  have h2 : min k ss.length = k := by omega
  rw [h2] at this
  exact this

theorem app_nil (a : ByteArray) : a ++ (⟨#[]⟩ : ByteArray) = a := by
  have h : (a ++ (⟨#[]⟩ : ByteArray)).data = a.data := by simp
  exact congrArg ByteArray.mk h
theorem nil_app (a : ByteArray) : (⟨#[]⟩ : ByteArray) ++ a = a := by
  have h : ((⟨#[]⟩ : ByteArray) ++ a).data = a.data := by simp
  exact congrArg ByteArray.mk h
theorem textTo_zero (ss : List ByteArray) : textTo ss 0 = ⟨#[]⟩ := rfl

set_option maxHeartbeats 1600000 in
theorem refText_calls (a : Option Addr) (c : Nat) (ss : List ByteArray) (ht : tableB ss = true) (w : World) (h : SlOf w a (strV ss)) :
    Calls Tryd.prog 43 #[.slice a ss.length c] w fun e w' => e = .returned (.string (textOf ss)) ∧ Below w.heap.size w w' := by
  have HS := Lib.hid h
  have hlen := table_len ht
  clear h
  rw [← textOf_all ss]
  go_enter Tryd.func43, Tryd.ntmps43
  go_wp2
  go_loopw [3, 4] (fun n i wr => ∃ k : Nat, k ≤ ss.length ∧ i = .int .i64 k ∧ n = .string (textTo ss k) ∧ Below w.heap.size w wr) (fun _ i _ => ss.length - (intOf i).toNat)
  case atStart => exact ⟨0, Nat.zero_le _, rfl, rfl, by (repeat (first | exact Below.refl _ _ | (with_reducible assumption) | refine Below.drew ?_ | refine Below.drewN' ?_ _ | refine Below.alloc ?_ (by first | omega | (simp; done) | (simp; omega)) _ | refine Below.setCell ?_ (by first | omega | (simp; done) | (simp; omega)) _ | refine Below.then ?_ hb9 (by first | omega | (simp; done) | (simp; omega)) | refine Below.then ?_ hb8 (by first | omega | (simp; done) | (simp; omega)) | refine Below.then ?_ hb7 (by first | omega | (simp; done) | (simp; omega)) | refine Below.then ?_ hb6 (by first | omega | (simp; done) | (simp; omega)) | refine Below.then ?_ hb5 (by first | omega | (simp; done) | (simp; omega)) | refine Below.then ?_ hb4 (by first | omega | (simp; done) | (simp; omega)) | refine Below.then ?_ hb3 (by first | omega | (simp; done) | (simp; omega)) | refine Below.then ?_ hb2 (by first | omega | (simp; done) | (simp; omega)) | refine Below.then ?_ hb1 (by first | omega | (simp; done) | (simp; omega))))⟩
  case round =>
    obtain ⟨k, hk, rfl, rfl, hBe⟩ := hrel
    have hzB := hBe.size
    by_cases hlt : k < ss.length
    · rcases HS.out.below hBe with h0 | ⟨b, o, rfl, hbl, hcell⟩
      · have := congrArg List.length h0; rw [strV_len, List.length_nil] at this; omega
      have hcx := hcell k (by rw [strV_len]; exact hlt)
      rw [strV_get ss k hlt] at hcx
      clear hcell
      have hsz := shape_size (table_at ht k hlt)
      have hsm := textTo_small ss ht k hk
      have hs := textTo_succ ss k hlt
      by_cases h0 : k = 0 <;> by_cases hz : ss[k].size = 0
      · rw [if_pos h0, pieceOf, if_pos hz] at hs
        have HM := Lib.hid hs
        have he : ss[k] = ⟨#[]⟩ := (by simpa using hz : ss[k] = ByteArray.empty)
        rw [he] at hcx
        clear hs hz he hsz
        subst h0
        rw [Nat.add_zero] at hcx
        have hl1 : ¬ 9223372036854775807 < (textTo ss 0).size + 1 := by omega
        go_wp2
        go_roundw
        case rel => exact ⟨0 + 1, by omega, by go_num, by rw [HM.out, textTo_zero, nil_app, app_nil]; rfl, hBe⟩
        case measure => simp [intOf]; omega
      · rw [if_pos h0, pieceOf, if_neg hz] at hs
        have HM := Lib.hid hs
        have hb : (((ss[k].size : Nat) : Int) == 0) = false := by rw [beq_eq_false_iff_ne]; omega
        have hl3 : ¬ 9223372036854775807 < (textTo ss k).size + ss[k].size := by omega
        have hl4 : ¬ 9223372036854775807 < (textTo ss k).size + 1 + ss[k].size := by omega
        clear hs
        subst h0
        rw [Nat.add_zero] at hcx
        have hl1 : ¬ 9223372036854775807 < (textTo ss 0).size + 1 := by omega
        go_wp2
        go_roundw
        case rel => exact ⟨0 + 1, by omega, by go_num, by rw [HM.out, textTo_zero, nil_app], hBe⟩
        case measure => simp [intOf]; omega
      · rw [if_neg h0, pieceOf, if_pos hz] at hs
        have HM := Lib.hid hs
        have he : ss[k] = ⟨#[]⟩ := (by simpa using hz : ss[k] = ByteArray.empty)
        rw [he] at hcx
        clear hs hz he hsz
        have hk0 : 0 < k := by omega
        have hl1 : ¬ 9223372036854775807 < (textTo ss k).size + 1 := by omega
        have hl2 : ¬ 9223372036854775807 < (textTo ss k).size + 1 + 1 := by omega
        go_wp2
        go_roundw
        case rel => exact ⟨k + 1, by omega, by go_num, by rw [HM.out, app_nil]; rfl, hBe⟩
        case measure => simp [intOf]; omega
      · rw [if_neg h0, pieceOf, if_neg hz] at hs
        have HM := Lib.hid hs
        have hb : (((ss[k].size : Nat) : Int) == 0) = false := by rw [beq_eq_false_iff_ne]; omega
        have hl3 : ¬ 9223372036854775807 < (textTo ss k).size + ss[k].size := by omega
        have hl4 : ¬ 9223372036854775807 < (textTo ss k).size + 1 + ss[k].size := by omega
        clear hs
        have hk0 : 0 < k := by omega
        have hl1 : ¬ 9223372036854775807 < (textTo ss k).size + 1 := by omega
        have hl2 : ¬ 9223372036854775807 < (textTo ss k).size + 1 + 1 := by omega
        go_wp2
        go_roundw
        case rel => exact ⟨k + 1, by omega, by go_num, by rw [HM.out], hBe⟩
        case measure => simp [intOf]; omega
    · obtain rfl : k = ss.length := by omega
      go_wp2
      go_ret
      exact ⟨rfl, hBe⟩

theorem ba_beq (a b : ByteArray) : (a == b) = decide (a = b) := by
  obtain ⟨x⟩ := a
  obtain ⟨y⟩ := b
  show (x == y) = _
  by_cases h : x = y
  · subst h; simp
  · have : (x == y) = false := by simpa using h
    rw [this]; simp [h]

set_option maxHeartbeats 800000 in
theorem refSame_calls (a a' : Option Addr) (c c' : Nat) (ss ts : List ByteArray) (hn : ss.length ≤ maxLen) (hm : ts.length ≤ maxLen) (w : World) (h : SlOf w a (strV ss)) (h' : SlOf w a' (strV ts)) :
    Calls Tryd.prog 44 #[.slice a ss.length c, .slice a' ts.length c'] w fun e w' => e = .returned (.bool (decide (ss = ts))) ∧ Below w.heap.size w w' := by
  have HS := Lib.hid h
  have HT := Lib.hid h'
  clear h h'
  unfold maxLen at hn hm
  by_cases hl : ss.length = ts.length
  · rw [← hl]
    go_enter Tryd.func44, Tryd.ntmps44
    go_wp2
    go_loopw [5] (fun i wr => ∃ k : Nat, k ≤ ss.length ∧ i = .int .i64 k ∧ Below w.heap.size w wr ∧ Hid (ss.take k = ts.take k)) (fun i _ => ss.length - (intOf i).toNat)
    case atStart => exact ⟨0, Nat.zero_le _, rfl, by (repeat (first | exact Below.refl _ _ | (with_reducible assumption) | refine Below.drew ?_ | refine Below.drewN' ?_ _ | refine Below.alloc ?_ (by first | omega | (simp; done) | (simp; omega)) _ | refine Below.setCell ?_ (by first | omega | (simp; done) | (simp; omega)) _ | refine Below.then ?_ hb9 (by first | omega | (simp; done) | (simp; omega)) | refine Below.then ?_ hb8 (by first | omega | (simp; done) | (simp; omega)) | refine Below.then ?_ hb7 (by first | omega | (simp; done) | (simp; omega)) | refine Below.then ?_ hb6 (by first | omega | (simp; done) | (simp; omega)) | refine Below.then ?_ hb5 (by first | omega | (simp; done) | (simp; omega)) | refine Below.then ?_ hb4 (by first | omega | (simp; done) | (simp; omega)) | refine Below.then ?_ hb3 (by first | omega | (simp; done) | (simp; omega)) | refine Below.then ?_ hb2 (by first | omega | (simp; done) | (simp; omega)) | refine Below.then ?_ hb1 (by first | omega | (simp; done) | (simp; omega)))), Lib.hid (by simp)⟩
    case round =>
      obtain ⟨k, hk, rfl, hBe, hall⟩ := hrel
      have hzB := hBe.size
      by_cases hlt : k < ss.length
      · have hlt' : k < ts.length := by omega
        rcases HS.out.below hBe with h0 | ⟨b, o, rfl, hbl, hcell⟩
        · have := congrArg List.length h0; rw [strV_len, List.length_nil] at this; omega
        rcases HT.out.below hBe with h0 | ⟨b', o', rfl, hbl', hcell'⟩
        · have := congrArg List.length h0; rw [strV_len, List.length_nil] at this; omega
        have hcx := hcell k (by rw [strV_len]; exact hlt)
        have hcy := hcell' k (by rw [strV_len]; exact hlt')
        rw [strV_get ss k hlt] at hcx
        rw [strV_get ts k hlt'] at hcy
        clear hcell hcell'
        by_cases hs : ss[k] = ts[k]
        · have hall' := Lib.hid (show ss.take (k + 1) = ts.take (k + 1) by rw [List.take_succ_eq_append_getElem hlt, List.take_succ_eq_append_getElem hlt', hall.out, hs])
          rw [hs] at hcx
          have hbb' : (ts[k] == ts[k]) = true := by rw [ba_beq]; simp
          have hbb : (ts[k] != ts[k]) = false := by rw [bne, hbb']; rfl
          clear hall hs
          go_wp2
          go_region
          all_goals
            go_wp2
            go_roundw
            case rel => exact ⟨k + 1, by omega, by go_num, by (repeat (first | exact Below.refl _ _ | (with_reducible assumption) | refine Below.drew ?_ | refine Below.drewN' ?_ _ | refine Below.alloc ?_ (by first | omega | (simp; done) | (simp; omega)) _ | refine Below.setCell ?_ (by first | omega | (simp; done) | (simp; omega)) _ | refine Below.then ?_ hb9 (by first | omega | (simp; done) | (simp; omega)) | refine Below.then ?_ hb8 (by first | omega | (simp; done) | (simp; omega)) | refine Below.then ?_ hb7 (by first | omega | (simp; done) | (simp; omega)) | refine Below.then ?_ hb6 (by first | omega | (simp; done) | (simp; omega)) | refine Below.then ?_ hb5 (by first | omega | (simp; done) | (simp; omega)) | refine Below.then ?_ hb4 (by first | omega | (simp; done) | (simp; omega)) | refine Below.then ?_ hb3 (by first | omega | (simp; done) | (simp; omega)) | refine Below.then ?_ hb2 (by first | omega | (simp; done) | (simp; omega)) | refine Below.then ?_ hb1 (by first | omega | (simp; done) | (simp; omega)))), hall'⟩
            case measure => simp [intOf]; omega
        · have hf : decide (ss = ts) = false := by
            rw [decide_eq_false_iff_not]
            rintro rfl
            exact hs rfl
          have HF := Lib.hid hf
          have hbb : (ss[k].toList == ts[k].toList) = false := by
            rw [beq_eq_false_iff_ne]
            intro e
            rw [Lib.toList_data, Lib.toList_data] at e
            exact hs (congrArg (fun l : List UInt8 => (⟨l.toArray⟩ : ByteArray)) e)
          clear hall hf hs
          go_wp2
          go_region
          all_goals
            go_wp2
            go_ret
            exact ⟨by rw [HF.out]; rfl, by (repeat (first | exact Below.refl _ _ | (with_reducible assumption) | refine Below.drew ?_ | refine Below.drewN' ?_ _ | refine Below.alloc ?_ (by first | omega | (simp; done) | (simp; omega)) _ | refine Below.setCell ?_ (by first | omega | (simp; done) | (simp; omega)) _ | refine Below.then ?_ hb9 (by first | omega | (simp; done) | (simp; omega)) | refine Below.then ?_ hb8 (by first | omega | (simp; done) | (simp; omega)) | refine Below.then ?_ hb7 (by first | omega | (simp; done) | (simp; omega)) | refine Below.then ?_ hb6 (by first | omega | (simp; done) | (simp; omega)) | refine Below.then ?_ hb5 (by first | omega | (simp; done) | (simp; omega)) | refine Below.then ?_ hb4 (by first | omega | (simp; done) | (simp; omega)) | refine Below.then ?_ hb3 (by first | omega | (simp; done) | (simp; omega)) | refine Below.then ?_ hb2 (by first | omega | (simp; done) | (simp; omega)) | refine Below.then ?_ hb1 (by first | omega | (simp; done) | (simp; omega))))⟩
      · obtain rfl : k = ss.length := by omega
        have hf : decide (ss = ts) = true := by
          have := hall.out
          rw [List.take_of_length_le (Nat.le_refl _), hl, List.take_of_length_le (Nat.le_refl _)] at this
          simpa using this
        have HF := Lib.hid hf
        clear hall hf
        go_wp2
        go_ret
        exact ⟨by rw [HF.out]; rfl, hBe⟩
  · have hf : decide (ss = ts) = false := by
      rw [decide_eq_false_iff_not]
      rintro rfl
      exact hl rfl
    rw [hf]
    have hb : (((ss.length : Nat) : Int) != ((ts.length : Nat) : Int)) = true := by simp; omega
    have hb' : (((ss.length : Nat) : Int) == ((ts.length : Nat) : Int)) = false := by simp; omega
    clear hf
    go_enter Tryd.func44, Tryd.ntmps44
    go_wp2
    go_ret
    exact ⟨rfl, by (repeat (first | exact Below.refl _ _ | (with_reducible assumption) | refine Below.drew ?_ | refine Below.drewN' ?_ _ | refine Below.alloc ?_ (by first | omega | (simp; done) | (simp; omega)) _ | refine Below.setCell ?_ (by first | omega | (simp; done) | (simp; omega)) _ | refine Below.then ?_ hb9 (by first | omega | (simp; done) | (simp; omega)) | refine Below.then ?_ hb8 (by first | omega | (simp; done) | (simp; omega)) | refine Below.then ?_ hb7 (by first | omega | (simp; done) | (simp; omega)) | refine Below.then ?_ hb6 (by first | omega | (simp; done) | (simp; omega)) | refine Below.then ?_ hb5 (by first | omega | (simp; done) | (simp; omega)) | refine Below.then ?_ hb4 (by first | omega | (simp; done) | (simp; omega)) | refine Below.then ?_ hb3 (by first | omega | (simp; done) | (simp; omega)) | refine Below.then ?_ hb2 (by first | omega | (simp; done) | (simp; omega)) | refine Below.then ?_ hb1 (by first | omega | (simp; done) | (simp; omega))))⟩

end Go.Proofs.YtcdfhceohjhogaaDoor
