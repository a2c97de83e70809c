/- The layer 'op': what the walks ask of the world; a number's text read back; a kind's name, its field; an answer's text. -/
import Derived.Test.YtlohfcinffaagaaDoorOpB
import Derived.Test.YtlohfcinffaagaaDoorNum
import Derived.Test.YtlohfcinffaagaaDoorDec
import Derived.Test.YtlohfcinffaagaaDoorLib
import Derived.Lib.ItoaLen
namespace Go.Proofs.YtlohfcinffaagaaDoor
open Go.RowKit
set_option linter.unusedVariables false
set_option linter.unusedSimpArgs false

def PowTab (w : World) : Prop := Lib.TabIs Tryd.prog w "internal/strconv.uint64pow10" .u64 Lib.pow10Tab
theorem powTab_below {w w' : World} (h : PowTab w) (hb : Below w.heap.size w w') : PowTab w' := by
  unfold PowTab Lib.TabIs World.var? at h ⊢
  obtain ⟨g, hg⟩ : ∃ g, Tryd.prog.globalNamed "internal/strconv.uint64pow10" = some g := by
    cases hg : Tryd.prog.globalNamed "internal/strconv.uint64pow10" with
    | none => rw [hg] at h; cases h
    | some g => exact ⟨g, rfl⟩
  rw [hg] at h ⊢
  simp only [Option.bind_some] at h ⊢
  have hlt : g < w.heap.size := by
    rcases Nat.lt_or_ge g w.heap.size with h' | h'
    · exact h'
    · rw [Array.getElem?_eq_none h'] at h; cases h
  rw [hb.block g hlt]
  exact h
theorem below_grow (w : World) (k : Nat) (os : Array Obj) : Below w.heap.size w (Sort.grow (w.drewN k) os) := by
  have h1 : Below w.heap.size w (w.drewN k) := below_drewN (Below.refl _ _) k
  refine h1.trans ⟨rfl, rfl, rfl, by simp [Sort.grow], fun j hj => ?_⟩
  have : j < (w.drewN k).heap.size := Nat.lt_of_lt_of_le hj h1.size
  simp only [Sort.grow, Array.getElem?_append, if_pos this]
/-- a variable that holds some error -/
def ErrAt (g : Nat) (w : World) : Prop := ∃ ev, w.cell? ⟨g, 0, none⟩ = some ev ∧ (ev = .nilIface ∨ ∃ te pe, ev = .iface te pe)
theorem ErrAt.below {g : Nat} {w w' : World} (h : ErrAt g w) (hb : Below w.heap.size w w') : ErrAt g w' := by
  obtain ⟨ev, hc, he⟩ := h
  refine ⟨ev, (hb.cell (p := ⟨_, 0, none⟩) (World.block_lt_of_cell? w _ hc)).trans hc, he⟩
structure WOk (w : World) : Prop where
  pow : PowTab w
  syn : ErrAt 2 w
  rng : ErrAt 3 w
  mx : ∃ m, w.cell? ⟨1, 0, none⟩ = some (.int .i64 m)
theorem WOk.below {w w' : World} (h : WOk w) (hb : Below w.heap.size w w') : WOk w' :=
  ⟨powTab_below h.pow hb, h.syn.below hb, h.rng.below hb, h.mx.elim fun m hm => ⟨m, (hb.cell (p := ⟨_, 0, none⟩) (World.block_lt_of_cell? w _ hm)).trans hm⟩⟩

theorem numS_len (V : Int) (h0 : -9223372036854775808 ≤ V) (h1 : V ≤ 9223372036854775807) : (numS V).size ≤ 30 := by
  have := Lib.itoa_length_le V h0 h1
  show (Lib.itoa V).toArray.size ≤ 30
  rw [List.size_toArray]
  omega
theorem formatInt_calls (V : Int) (h0 : -9223372036854775808 ≤ V) (h1 : V ≤ 9223372036854775807) (w : World) (hT : PowTab w) :
    Calls Tryd.prog 36 #[.int .i64 V, .int .i64 10] w fun e w' => e = .returned (.string (numS V)) ∧ Below w.heap.size w w' := by
  refine (Tryd.strconv_FormatInt_10 V h0 h1 w hT).mono ?_
  rintro e w' ⟨rfl, k, os, rfl⟩
  exact ⟨rfl, below_grow w k os⟩
theorem itoa_calls (V : Int) (h0 : -9223372036854775808 ≤ V) (h1 : V ≤ 9223372036854775807) (w : World) (hT : PowTab w) :
    Calls Tryd.prog 35 #[.int .i64 V] w fun e w' => e = .returned (.string (numS V)) ∧ Below w.heap.size w w' := by
  refine (Tryd.strconv_Itoa V h0 h1 w hT).mono ?_
  rintro e w' ⟨rfl, k, os, rfl⟩
  exact ⟨rfl, below_grow w k os⟩

theorem bytes_inj' {a b : ByteArray} (h : a.data.toList = b.data.toList) : a = b := by
  obtain ⟨⟨a⟩⟩ := a
  obtain ⟨⟨b⟩⟩ := b
  simp only at h
  rw [h]
theorem below_bytes {w w' : World} (h : w' = w ∨ ∃ t, w' = Lib.bytesWorld w 5 t) : Below w.heap.size w w' := by
  rcases h with rfl | ⟨t, rfl⟩
  · exact Below.refl _ _
  · exact Lib.bytesWorld_below _ _ _
def WholePost (s : ByteArray) (w : World) (e : Ending) (w' : World) : Prop := Below w.heap.size w w' ∧ ∃ n b, e = .returned (.tuple #[.int .i64 n, .bool b]) ∧ wholeV s.data.toList = if b = true then some n else none
set_option maxRecDepth 100000 in
set_option maxHeartbeats 3200000 in
theorem whole_calls (s : ByteArray) (hs : s.size ≤ 140737488351232) (w : World) (hT : WOk w) : Calls Tryd.prog 42 #[.string s] w (WholePost s w) := by
  cases hp : Lib.parseIntB 64 s.data.toList with
  | ok v =>
    have hb := parse_bounds hp
    have hP := Lib.hid (fun W => Tryd.strconv_ParseInt_10_at64_ok s (by omega) v hp W)
    have hF := Lib.hid (fun W h => formatInt_calls v hb.1 hb.2 W h)
    have hW := Lib.hid (show wholeV s.data.toList = if Lib.itoa v = s.data.toList then some v else none by unfold wholeV; rw [hp])
    clear hp
    by_cases he : Lib.itoa v = s.data.toList
    · have e1 : numS v = s := by unfold numS; rw [he]
      rw [e1] at hF
      have hq := Lib.hid (show wholeV s.data.toList = some v by rw [hW.out, if_pos he])
      clear he e1 hW
      go_enter Tryd.func42, Tryd.ntmps42
      go_wp2_with fail
      refine (hP.out _).mono ?_
      rintro e1 w1 ⟨rfl, hbw⟩
      have hb1 := below_bytes hbw
      clear hbw
      have hT1 := (hT.below hb1).pow
      have hz1 := hb1.size
      go_wp2_with fail
      refine (hF.out _ hT1).mono ?_; rintro e2 w2 ⟨rfl, hb2⟩; have hz2 := hb2.size; (try simp at hz2)
      go_wp2
      go_ret2
      exact ⟨by (repeat (first | exact Below.refl _ _ | (with_reducible assumption) | refine Below.drew ?_ | refine Below.drewN' ?_ _ | refine Below.alloc ?_ (by first | omega | (simp; done) | (simp; omega)) _ | refine Below.setCell ?_ (by first | omega | (simp; done) | (simp; omega)) _ | refine Below.then ?_ hb9 (by first | omega | (simp; done) | (simp; omega)) | refine Below.then ?_ hb8 (by first | omega | (simp; done) | (simp; omega)) | refine Below.then ?_ hb7 (by first | omega | (simp; done) | (simp; omega)) | refine Below.then ?_ hb6 (by first | omega | (simp; done) | (simp; omega)) | refine Below.then ?_ hb5 (by first | omega | (simp; done) | (simp; omega)) | refine Below.then ?_ hb4 (by first | omega | (simp; done) | (simp; omega)) | refine Below.then ?_ hb3 (by first | omega | (simp; done) | (simp; omega)) | refine Below.then ?_ hb2 (by first | omega | (simp; done) | (simp; omega)) | refine Below.then ?_ hb1 (by first | omega | (simp; done) | (simp; omega)))), v, true, rfl, hq.out⟩
    · have e1 : ¬ numS v = s := fun e => he (by rw [← e]; unfold numS; simp)
      have e2 : ((numS v).toList == s.toList) = false := beq_eq_false_iff_ne.2 fun e => e1 (bytes_inj' (by rw [ByteArray.toList_eq, ByteArray.toList_eq] at e; exact e))
      have hq := Lib.hid (show wholeV s.data.toList = none by rw [hW.out, if_neg he])
      clear he hW e1
      go_enter Tryd.func42, Tryd.ntmps42
      go_wp2_with fail
      refine (hP.out _).mono ?_
      rintro e1 w1 ⟨rfl, hbw⟩
      have hb1 := below_bytes hbw
      clear hbw
      have hT1 := (hT.below hb1).pow
      have hz1 := hb1.size
      go_wp2_with fail
      refine (hF.out _ hT1).mono ?_; rintro e2 w2 ⟨rfl, hb2⟩; have hz2 := hb2.size; (try simp at hz2)
      go_wp2
      go_ret2
      exact ⟨by (repeat (first | exact Below.refl _ _ | (with_reducible assumption) | refine Below.drew ?_ | refine Below.drewN' ?_ _ | refine Below.alloc ?_ (by first | omega | (simp; done) | (simp; omega)) _ | refine Below.setCell ?_ (by first | omega | (simp; done) | (simp; omega)) _ | refine Below.then ?_ hb9 (by first | omega | (simp; done) | (simp; omega)) | refine Below.then ?_ hb8 (by first | omega | (simp; done) | (simp; omega)) | refine Below.then ?_ hb7 (by first | omega | (simp; done) | (simp; omega)) | refine Below.then ?_ hb6 (by first | omega | (simp; done) | (simp; omega)) | refine Below.then ?_ hb5 (by first | omega | (simp; done) | (simp; omega)) | refine Below.then ?_ hb4 (by first | omega | (simp; done) | (simp; omega)) | refine Below.then ?_ hb3 (by first | omega | (simp; done) | (simp; omega)) | refine Below.then ?_ hb2 (by first | omega | (simp; done) | (simp; omega)) | refine Below.then ?_ hb1 (by first | omega | (simp; done) | (simp; omega)))), v, false, rfl, hq.out⟩
  | range =>
    have hW := Lib.hid (show wholeV s.data.toList = none by unfold wholeV; rw [hp])
    obtain ⟨ev, hev, hev'⟩ := hT.rng
    have hP := Lib.hid (fun W hv => Tryd.strconv_ParseInt_10_at64_range s (by omega) hp ev W hv hev')
    clear hp
    go_enter Tryd.func42, Tryd.ntmps42
    go_wp2_with fail
    refine (hP.out _ hev).mono ?_
    rintro e1 w1 ⟨N, rfl, -, -, hb1⟩
    go_wp2
    go_ret2
    exact ⟨by (repeat (first | exact Below.refl _ _ | (with_reducible assumption) | refine Below.drew ?_ | refine Below.drewN' ?_ _ | refine Below.alloc ?_ (by first | omega | (simp; done) | (simp; omega)) _ | refine Below.setCell ?_ (by first | omega | (simp; done) | (simp; omega)) _ | refine Below.then ?_ hb9 (by first | omega | (simp; done) | (simp; omega)) | refine Below.then ?_ hb8 (by first | omega | (simp; done) | (simp; omega)) | refine Below.then ?_ hb7 (by first | omega | (simp; done) | (simp; omega)) | refine Below.then ?_ hb6 (by first | omega | (simp; done) | (simp; omega)) | refine Below.then ?_ hb5 (by first | omega | (simp; done) | (simp; omega)) | refine Below.then ?_ hb4 (by first | omega | (simp; done) | (simp; omega)) | refine Below.then ?_ hb3 (by first | omega | (simp; done) | (simp; omega)) | refine Below.then ?_ hb2 (by first | omega | (simp; done) | (simp; omega)) | refine Below.then ?_ hb1 (by first | omega | (simp; done) | (simp; omega)))), _, false, rfl, hW.out⟩
  | _ =>
    have hW := Lib.hid (show wholeV s.data.toList = none by unfold wholeV; rw [hp])
    obtain ⟨ev, hev, hev'⟩ := hT.syn
    have hP := Lib.hid (fun W hv => Tryd.strconv_ParseInt_10_at64_syntax s (by omega) hp ev W hv hev')
    clear hp
    go_enter Tryd.func42, Tryd.ntmps42
    go_wp2_with fail
    refine (hP.out _ hev).mono ?_
    rintro e1 w1 ⟨N, rfl, -, -, hb1⟩
    go_wp2
    go_ret2
    exact ⟨by (repeat (first | exact Below.refl _ _ | (with_reducible assumption) | refine Below.drew ?_ | refine Below.drewN' ?_ _ | refine Below.alloc ?_ (by first | omega | (simp; done) | (simp; omega)) _ | refine Below.setCell ?_ (by first | omega | (simp; done) | (simp; omega)) _ | refine Below.then ?_ hb9 (by first | omega | (simp; done) | (simp; omega)) | refine Below.then ?_ hb8 (by first | omega | (simp; done) | (simp; omega)) | refine Below.then ?_ hb7 (by first | omega | (simp; done) | (simp; omega)) | refine Below.then ?_ hb6 (by first | omega | (simp; done) | (simp; omega)) | refine Below.then ?_ hb5 (by first | omega | (simp; done) | (simp; omega)) | refine Below.then ?_ hb4 (by first | omega | (simp; done) | (simp; omega)) | refine Below.then ?_ hb3 (by first | omega | (simp; done) | (simp; omega)) | refine Below.then ?_ hb2 (by first | omega | (simp; done) | (simp; omega)) | refine Below.then ?_ hb1 (by first | omega | (simp; done) | (simp; omega)))), _, false, rfl, hW.out⟩

set_option maxRecDepth 100000 in
set_option maxHeartbeats 3200000 in
theorem name_calls (k : Int) (w : World) : Calls Tryd.prog 9 #[.int .i64 k] w fun e w' => e = .returned (.tuple #[.string (opName k), .bool (opIs k)]) ∧ Below w.heap.size w w' := by
  have HO := Lib.hid (fun W => of_calls k W)
  go_enter Tryd.func9, Tryd.ntmps9
  go_wp2_with fail
  refine (HO.out _).mono ?_
  rintro e1 w1 ⟨a, c, rfl, hs, hb1⟩
  have hz1 := hb1.size
  clear hs
  go_wp2
  go_ret2
  exact ⟨rfl, by (repeat (first | exact Below.refl _ _ | (with_reducible assumption) | refine Below.drew ?_ | refine Below.drewN' ?_ _ | refine Below.alloc ?_ (by first | omega | (simp; done) | (simp; omega)) _ | refine Below.setCell ?_ (by first | omega | (simp; done) | (simp; omega)) _ | refine Below.then ?_ hb9 (by first | omega | (simp; done) | (simp; omega)) | refine Below.then ?_ hb8 (by first | omega | (simp; done) | (simp; omega)) | refine Below.then ?_ hb7 (by first | omega | (simp; done) | (simp; omega)) | refine Below.then ?_ hb6 (by first | omega | (simp; done) | (simp; omega)) | refine Below.then ?_ hb5 (by first | omega | (simp; done) | (simp; omega)) | refine Below.then ?_ hb4 (by first | omega | (simp; done) | (simp; omega)) | refine Below.then ?_ hb3 (by first | omega | (simp; done) | (simp; omega)) | refine Below.then ?_ hb2 (by first | omega | (simp; done) | (simp; omega)) | refine Below.then ?_ hb1 (by first | omega | (simp; done) | (simp; omega))))⟩

/-- of which kind an operation's field is -/
def fieldK (k : Int) : Int := if k = 5 ∨ k = 6 ∨ k = 7 then 1 else 0
def fieldB (k : Int) : Bool := decide (2 ≤ k ∧ k ≤ 7)
set_option maxRecDepth 100000 in
set_option maxHeartbeats 3200000 in
theorem field_calls (o : OpN) (w : World) : Calls Tryd.prog 12 #[opVal o] w fun e w' => e = .returned (.tuple #[.int .i64 (fieldK o.k), .bool (fieldB o.k)]) ∧ Below w.heap.size w w' := by
  unfold opVal
  by_cases h : 2 ≤ o.k ∧ o.k ≤ 7
  · obtain ⟨k, a, b, c, f, s, x, y⟩ := o
    simp only at h ⊢
    obtain rfl | rfl | rfl | rfl | rfl | rfl : k = 2 ∨ k = 3 ∨ k = 4 ∨ k = 5 ∨ k = 6 ∨ k = 7 := by omega
    all_goals
      clear h
      go_enter Tryd.func12, Tryd.ntmps12
      go_wp2
      go_ret2
      exact ⟨rfl, by (repeat (first | exact Below.refl _ _ | (with_reducible assumption) | refine Below.drew ?_ | refine Below.drewN' ?_ _ | refine Below.alloc ?_ (by first | omega | (simp; done) | (simp; omega)) _ | refine Below.setCell ?_ (by first | omega | (simp; done) | (simp; omega)) _ | refine Below.then ?_ hb9 (by first | omega | (simp; done) | (simp; omega)) | refine Below.then ?_ hb8 (by first | omega | (simp; done) | (simp; omega)) | refine Below.then ?_ hb7 (by first | omega | (simp; done) | (simp; omega)) | refine Below.then ?_ hb6 (by first | omega | (simp; done) | (simp; omega)) | refine Below.then ?_ hb5 (by first | omega | (simp; done) | (simp; omega)) | refine Below.then ?_ hb4 (by first | omega | (simp; done) | (simp; omega)) | refine Below.then ?_ hb3 (by first | omega | (simp; done) | (simp; omega)) | refine Below.then ?_ hb2 (by first | omega | (simp; done) | (simp; omega)) | refine Below.then ?_ hb1 (by first | omega | (simp; done) | (simp; omega))))⟩
  · have e1 : fieldK o.k = 0 := by unfold fieldK; rw [if_neg (by omega)]
    have e2 : fieldB o.k = false := by unfold fieldB; simpa using h
    rw [e1, e2]
    have c2 : (o.k == 2) = false := by rw [beq_eq_false_iff_ne]; omega
    have c3 : (o.k == 3) = false := by rw [beq_eq_false_iff_ne]; omega
    have c4 : (o.k == 4) = false := by rw [beq_eq_false_iff_ne]; omega
    have c5 : (o.k == 5) = false := by rw [beq_eq_false_iff_ne]; omega
    have c6 : (o.k == 6) = false := by rw [beq_eq_false_iff_ne]; omega
    have c7 : (o.k == 7) = false := by rw [beq_eq_false_iff_ne]; omega
    clear e1 e2 h
    go_enter Tryd.func12, Tryd.ntmps12
    go_wp2
    go_ret2
    exact ⟨rfl, by (repeat (first | exact Below.refl _ _ | (with_reducible assumption) | refine Below.drew ?_ | refine Below.drewN' ?_ _ | refine Below.alloc ?_ (by first | omega | (simp; done) | (simp; omega)) _ | refine Below.setCell ?_ (by first | omega | (simp; done) | (simp; omega)) _ | refine Below.then ?_ hb9 (by first | omega | (simp; done) | (simp; omega)) | refine Below.then ?_ hb8 (by first | omega | (simp; done) | (simp; omega)) | refine Below.then ?_ hb7 (by first | omega | (simp; done) | (simp; omega)) | refine Below.then ?_ hb6 (by first | omega | (simp; done) | (simp; omega)) | refine Below.then ?_ hb5 (by first | omega | (simp; done) | (simp; omega)) | refine Below.then ?_ hb4 (by first | omega | (simp; done) | (simp; omega)) | refine Below.then ?_ hb3 (by first | omega | (simp; done) | (simp; omega)) | refine Below.then ?_ hb2 (by first | omega | (simp; done) | (simp; omega)) | refine Below.then ?_ hb1 (by first | omega | (simp; done) | (simp; omega))))⟩

/-- an answer's text -/
def pickS (b : Bool) (y n : ByteArray) : ByteArray := if b = true then y else n
def toldS (o : OpN) (e : Int) (b : Bool) (v : Int) : ByteArray :=
  if bareB o = false then ⟨#[]⟩ else if e ≠ 0 then (⟨#[101, 114, 114, 111, 114, 32]⟩ : ByteArray) ++ numS e
  else if o.k = 2 then pickS b ⟨#[111, 98, 106, 101, 99, 116]⟩ ⟨#[110, 111, 116, 104, 105, 110, 103]⟩
  else if o.k = 4 ∨ o.k = 7 ∨ o.k = 8 then pickS b ⟨#[121, 101, 115]⟩ ⟨#[110, 111]⟩
  else if o.k = 5 then numS v else ⟨#[111, 107]⟩
def toldE (o : OpN) : Int := if bareB o = true then 0 else 180
def outVal (e : Int) (b : Bool) (v : Int) : Value := .agg #[.int .i64 e, .bool b, .int .i64 v]

theorem told0 {o : OpN} (b : Bool) (v : Int) (hb : bareB o = true) : toldS o 0 b v = if o.k = 2 then pickS b ⟨#[111, 98, 106, 101, 99, 116]⟩ ⟨#[110, 111, 116, 104, 105, 110, 103]⟩
    else if o.k = 4 ∨ o.k = 7 ∨ o.k = 8 then pickS b ⟨#[121, 101, 115]⟩ ⟨#[110, 111]⟩ else if o.k = 5 then numS v else ⟨#[111, 107]⟩ := by
  unfold toldS
  rw [if_neg (by rw [hb]; decide), if_neg (by simp)]

set_option maxRecDepth 100000 in
set_option maxHeartbeats 6400000 in
theorem told_calls (o : OpN) (e : Int) (b : Bool) (v : Int) (he0 : -9223372036854775808 ≤ e) (he1 : e ≤ 9223372036854775807) (hv0 : -9223372036854775808 ≤ v) (hv1 : v ≤ 9223372036854775807) (w : World) (hT : WOk w) :
    Calls Tryd.prog 17 #[opVal o, outVal e b v] w fun e' w' => e' = .returned (.tuple #[.string (toldS o e b v), .int .i64 (toldE o)]) ∧ Below w.heap.size w w' := by
  have hB := fun W => bare_calls o W
  unfold opVal at hB
  unfold opVal outVal
  cases hb : bareB o with
  | false =>
    have e1 : toldS o e b v = ⟨#[]⟩ := by unfold toldS; rw [if_pos hb]
    have e2 : toldE o = 180 := by unfold toldE; rw [hb]; rfl
    rw [hb] at hB
    rw [e1, e2]
    have HB := Lib.hid hB
    clear hB e1 e2 hb
    go_enter Tryd.func17, Tryd.ntmps17
    go_wp2_with fail
    refine (HB.out _).mono ?_; rintro e1 w1 ⟨rfl, hb1⟩; have hz1 := hb1.size; (try simp at hz1)
    go_wp2
    go_ret2
    exact ⟨rfl, by (repeat (first | exact Below.refl _ _ | (with_reducible assumption) | refine Below.drew ?_ | refine Below.drewN' ?_ _ | refine Below.alloc ?_ (by first | omega | (simp; done) | (simp; omega)) _ | refine Below.setCell ?_ (by first | omega | (simp; done) | (simp; omega)) _ | refine Below.then ?_ hb9 (by first | omega | (simp; done) | (simp; omega)) | refine Below.then ?_ hb8 (by first | omega | (simp; done) | (simp; omega)) | refine Below.then ?_ hb7 (by first | omega | (simp; done) | (simp; omega)) | refine Below.then ?_ hb6 (by first | omega | (simp; done) | (simp; omega)) | refine Below.then ?_ hb5 (by first | omega | (simp; done) | (simp; omega)) | refine Below.then ?_ hb4 (by first | omega | (simp; done) | (simp; omega)) | refine Below.then ?_ hb3 (by first | omega | (simp; done) | (simp; omega)) | refine Below.then ?_ hb2 (by first | omega | (simp; done) | (simp; omega)) | refine Below.then ?_ hb1 (by first | omega | (simp; done) | (simp; omega))))⟩
  | true =>
    have e2 : toldE o = 0 := by unfold toldE; rw [hb]; rfl
    rw [hb] at hB
    rw [e2]
    have HB := Lib.hid hB
    by_cases h0 : e = 0
    · subst h0
      have ht := told0 b v hb
      have hk : opIs o.k = true := by unfold bareB at hb; rw [Bool.and_eq_true] at hb; exact hb.1
      rw [ht]
      clear hB ht hb e2
      obtain ⟨k, a, b2, c, f, s, x, y⟩ := o
      simp only at hk HB ⊢
      have HI := Lib.hid (fun W h => formatInt_calls v hv0 hv1 W h)
      rcases kinds_of hk with rfl | rfl | rfl | rfl | rfl | rfl | rfl | rfl | rfl | rfl | rfl
      all_goals clear hk
      case inr.inr.inr.inr.inl =>
        go_enter Tryd.func17, Tryd.ntmps17
        go_wp2_with fail
        refine (HB.out _).mono ?_; rintro e1 w1 ⟨rfl, hb1⟩; have hz1 := hb1.size; (try simp at hz1)
        obtain ⟨hc1, hf1⟩ := bcell hb1
        have q0 := hc1 w.heap.size 0 (by simp; omega)
        have p0 := hc1 (w.heap.size + 1) 0 (by simp)
        have p2 := hc1 (w.heap.size + 1) 2 (by simp)
        simp [go_sem] at q0 p0 p2
        clear hc1 hf1
        have hT1 := (hT.below (w' := w1) (by (repeat (first | exact Below.refl _ _ | (with_reducible assumption) | refine Below.drew ?_ | refine Below.drewN' ?_ _ | refine Below.alloc ?_ (by first | omega | (simp; done) | (simp; omega)) _ | refine Below.setCell ?_ (by first | omega | (simp; done) | (simp; omega)) _ | refine Below.then ?_ hb9 (by first | omega | (simp; done) | (simp; omega)) | refine Below.then ?_ hb8 (by first | omega | (simp; done) | (simp; omega)) | refine Below.then ?_ hb7 (by first | omega | (simp; done) | (simp; omega)) | refine Below.then ?_ hb6 (by first | omega | (simp; done) | (simp; omega)) | refine Below.then ?_ hb5 (by first | omega | (simp; done) | (simp; omega)) | refine Below.then ?_ hb4 (by first | omega | (simp; done) | (simp; omega)) | refine Below.then ?_ hb3 (by first | omega | (simp; done) | (simp; omega)) | refine Below.then ?_ hb2 (by first | omega | (simp; done) | (simp; omega)) | refine Below.then ?_ hb1 (by first | omega | (simp; done) | (simp; omega)))))).pow
        go_wp2_with fail
        refine (HI.out _ hT1).mono ?_; rintro e2 w2 ⟨rfl, hb2⟩; have hz2 := hb2.size; (try simp at hz2)
        go_wp2
        go_ret2
        exact ⟨rfl, by (repeat (first | exact Below.refl _ _ | (with_reducible assumption) | refine Below.drew ?_ | refine Below.drewN' ?_ _ | refine Below.alloc ?_ (by first | omega | (simp; done) | (simp; omega)) _ | refine Below.setCell ?_ (by first | omega | (simp; done) | (simp; omega)) _ | refine Below.then ?_ hb9 (by first | omega | (simp; done) | (simp; omega)) | refine Below.then ?_ hb8 (by first | omega | (simp; done) | (simp; omega)) | refine Below.then ?_ hb7 (by first | omega | (simp; done) | (simp; omega)) | refine Below.then ?_ hb6 (by first | omega | (simp; done) | (simp; omega)) | refine Below.then ?_ hb5 (by first | omega | (simp; done) | (simp; omega)) | refine Below.then ?_ hb4 (by first | omega | (simp; done) | (simp; omega)) | refine Below.then ?_ hb3 (by first | omega | (simp; done) | (simp; omega)) | refine Below.then ?_ hb2 (by first | omega | (simp; done) | (simp; omega)) | refine Below.then ?_ hb1 (by first | omega | (simp; done) | (simp; omega))))⟩
      all_goals
        clear HI
        cases b
      all_goals
        go_enter Tryd.func17, Tryd.ntmps17
        go_wp2_with fail
        refine (HB.out _).mono ?_; rintro e1 w1 ⟨rfl, hb1⟩; have hz1 := hb1.size; (try simp at hz1)
        obtain ⟨hc1, hf1⟩ := bcell hb1
        have q0 := hc1 w.heap.size 0 (by simp; omega)
        have p0 := hc1 (w.heap.size + 1) 0 (by simp)
        have p1 := hc1 (w.heap.size + 1) 1 (by simp)
        simp [go_sem] at q0 p0 p1
        clear hc1 hf1
        go_wp2
        go_ret2
        exact ⟨rfl, by (repeat (first | exact Below.refl _ _ | (with_reducible assumption) | refine Below.drew ?_ | refine Below.drewN' ?_ _ | refine Below.alloc ?_ (by first | omega | (simp; done) | (simp; omega)) _ | refine Below.setCell ?_ (by first | omega | (simp; done) | (simp; omega)) _ | refine Below.then ?_ hb9 (by first | omega | (simp; done) | (simp; omega)) | refine Below.then ?_ hb8 (by first | omega | (simp; done) | (simp; omega)) | refine Below.then ?_ hb7 (by first | omega | (simp; done) | (simp; omega)) | refine Below.then ?_ hb6 (by first | omega | (simp; done) | (simp; omega)) | refine Below.then ?_ hb5 (by first | omega | (simp; done) | (simp; omega)) | refine Below.then ?_ hb4 (by first | omega | (simp; done) | (simp; omega)) | refine Below.then ?_ hb3 (by first | omega | (simp; done) | (simp; omega)) | refine Below.then ?_ hb2 (by first | omega | (simp; done) | (simp; omega)) | refine Below.then ?_ hb1 (by first | omega | (simp; done) | (simp; omega))))⟩
    · have e1 : toldS o e b v = (⟨#[101, 114, 114, 111, 114, 32]⟩ : ByteArray) ++ numS e := by unfold toldS; rw [if_neg (by rw [hb]; decide), if_pos h0]
      have b0 : (e != 0) = true := by rw [bne_iff_ne]; exact h0
      have hl := numS_len e he0 he1
      have HI := Lib.hid (fun W h => itoa_calls e he0 he1 W h)
      rw [e1]
      clear hB e1 e2 hb h0
      go_enter Tryd.func17, Tryd.ntmps17
      go_wp2_with fail
      refine (HB.out _).mono ?_; rintro e1 w1 ⟨rfl, hb1⟩; have hz1 := hb1.size; (try simp at hz1)
      obtain ⟨hc1, hf1⟩ := bcell hb1
      have q0 := hc1 w.heap.size 0 (by simp; omega)
      have p0 := hc1 (w.heap.size + 1) 0 (by simp)
      simp [go_sem] at q0 p0
      clear hc1 hf1
      have hT1 := (hT.below (w' := w1) (by (repeat (first | exact Below.refl _ _ | (with_reducible assumption) | refine Below.drew ?_ | refine Below.drewN' ?_ _ | refine Below.alloc ?_ (by first | omega | (simp; done) | (simp; omega)) _ | refine Below.setCell ?_ (by first | omega | (simp; done) | (simp; omega)) _ | refine Below.then ?_ hb9 (by first | omega | (simp; done) | (simp; omega)) | refine Below.then ?_ hb8 (by first | omega | (simp; done) | (simp; omega)) | refine Below.then ?_ hb7 (by first | omega | (simp; done) | (simp; omega)) | refine Below.then ?_ hb6 (by first | omega | (simp; done) | (simp; omega)) | refine Below.then ?_ hb5 (by first | omega | (simp; done) | (simp; omega)) | refine Below.then ?_ hb4 (by first | omega | (simp; done) | (simp; omega)) | refine Below.then ?_ hb3 (by first | omega | (simp; done) | (simp; omega)) | refine Below.then ?_ hb2 (by first | omega | (simp; done) | (simp; omega)) | refine Below.then ?_ hb1 (by first | omega | (simp; done) | (simp; omega)))))).pow
      go_wp2_with fail
      refine (HI.out _ hT1).mono ?_; rintro e2 w2 ⟨rfl, hb2⟩; have hz2 := hb2.size; (try simp at hz2)
      go_wp2
      go_ret2
      exact ⟨rfl, by (repeat (first | exact Below.refl _ _ | (with_reducible assumption) | refine Below.drew ?_ | refine Below.drewN' ?_ _ | refine Below.alloc ?_ (by first | omega | (simp; done) | (simp; omega)) _ | refine Below.setCell ?_ (by first | omega | (simp; done) | (simp; omega)) _ | refine Below.then ?_ hb9 (by first | omega | (simp; done) | (simp; omega)) | refine Below.then ?_ hb8 (by first | omega | (simp; done) | (simp; omega)) | refine Below.then ?_ hb7 (by first | omega | (simp; done) | (simp; omega)) | refine Below.then ?_ hb6 (by first | omega | (simp; done) | (simp; omega)) | refine Below.then ?_ hb5 (by first | omega | (simp; done) | (simp; omega)) | refine Below.then ?_ hb4 (by first | omega | (simp; done) | (simp; omega)) | refine Below.then ?_ hb3 (by first | omega | (simp; done) | (simp; omega)) | refine Below.then ?_ hb2 (by first | omega | (simp; done) | (simp; omega)) | refine Below.then ?_ hb1 (by first | omega | (simp; done) | (simp; omega))))⟩

end Go.Proofs.YtlohfcinffaagaaDoor
