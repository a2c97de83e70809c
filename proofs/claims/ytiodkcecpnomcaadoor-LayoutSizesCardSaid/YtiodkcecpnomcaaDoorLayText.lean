/- The layer 'layout' and its reference: a word's part as a text. -/
import Derived.Test.YtiodkcecpnomcaaDoorLayRef
import Derived.Test.YtiodkcecpnomcaaDoorNum
import Derived.Test.YtiodkcecpnomcaaDoorLib
import Derived.Lib.Join
import Derived.OwnWalk
import Derived.Deep.RegionWith
import Derived.Laws.OwnMore
import Derived.RangeFuncBox
namespace Go.Proofs.YtiodkcecpnomcaaDoor
open Go.RowKit
set_option linter.unusedVariables false
set_option linter.unusedSimpArgs false
attribute [local go_sem] Oper.semAt_some

def partNames : List ByteArray := [⟨#[]⟩, ⟨#[114, 101, 113, 117, 101, 115, 116]⟩, ⟨#[102, 114, 111, 110, 116, 105, 101, 114]⟩, ⟨#[116, 114, 105, 103, 103, 101, 114]⟩, ⟨#[97, 99, 107]⟩, ⟨#[108, 105, 115, 116]⟩, ⟨#[115, 112, 97, 99, 101]⟩]
def nameP (k : Int) : ByteArray := partNames.getD k.toNat ⟨#[]⟩
def textK (k n a : Int) : ByteArray := if k < 4 then nameP k else if k < 6 then nameP k ++ ⟨#[32]⟩ ++ numS n else nameP k ++ ⟨#[32]⟩ ++ numS n ++ ⟨#[32]⟩ ++ numS a
def textP (t sp : Int) (ss : List ByteArray) (x : Int) : ByteArray := if partE t sp ss x = 0 then textK (partK t sp ss x) (partN t sp ss x) (partA t sp ss x) else ⟨#[]⟩

set_option maxHeartbeats 400000 in
theorem layNames_calls (w : World) :
    Calls Tryd.prog 34 #[] w fun e w' => e = .returned (.agg #[.string ⟨#[]⟩, .string ⟨#[114, 101, 113, 117, 101, 115, 116]⟩, .string ⟨#[102, 114, 111, 110, 116, 105, 101, 114]⟩, .string ⟨#[116, 114, 105, 103, 103, 101, 114]⟩, .string ⟨#[97, 99, 107]⟩, .string ⟨#[108, 105, 115, 116]⟩, .string ⟨#[115, 112, 97, 99, 101]⟩]) ∧ Below w.heap.size w w' := by
  go_enter Tryd.func34, Tryd.ntmps34
  go_wp2
  exact bodyPost_ret (v := .agg #[.string ⟨#[]⟩, .string ⟨#[114, 101, 113, 117, 101, 115, 116]⟩, .string ⟨#[102, 114, 111, 110, 116, 105, 101, 114]⟩, .string ⟨#[116, 114, 105, 103, 103, 101, 114]⟩, .string ⟨#[97, 99, 107]⟩, .string ⟨#[108, 105, 115, 116]⟩, .string ⟨#[115, 112, 97, 99, 101]⟩]) (by simp [results, Tryd.results34, go_sem]) rfl ⟨rfl, (Below.refl _ _).alloc (Nat.le_refl _) _⟩

theorem index_part (k : Int) (hk : 1 ≤ k ∧ k ≤ 6) (W : World) :
    (Instr.index 63 (.agg #[.string ⟨#[]⟩, .string ⟨#[114, 101, 113, 117, 101, 115, 116]⟩, .string ⟨#[102, 114, 111, 110, 116, 105, 101, 114]⟩, .string ⟨#[116, 114, 105, 103, 103, 101, 114]⟩, .string ⟨#[97, 99, 107]⟩, .string ⟨#[108, 105, 115, 116]⟩, .string ⟨#[115, 112, 97, 99, 101]⟩]) (.int .i64 k)).run Tryd.prog W = .ok (.string (nameP k)) W := by
  rcases (show k = 1 ∨ k = 2 ∨ k = 3 ∨ k = 4 ∨ k = 5 ∨ k = 6 by omega) with rfl | rfl | rfl | rfl | rfl | rfl
  all_goals kernel_rfl

theorem join1 (a : ByteArray) : (⟨(Lib.join ([a].map (·.data.toList)) [32]).toArray⟩ : ByteArray) = a := by
  have h : (Lib.join ([a].map (·.data.toList)) [32]).toArray = a.data := by apply Array.ext'; simp [Lib.join_one]
  exact congrArg ByteArray.mk h
theorem join2 (a b : ByteArray) : (⟨(Lib.join ([a, b].map (·.data.toList)) [32]).toArray⟩ : ByteArray) = a ++ ⟨#[32]⟩ ++ b := by
  have h : (Lib.join ([a, b].map (·.data.toList)) [32]).toArray = (a ++ ⟨#[32]⟩ ++ b).data := by apply Array.ext'; simp [Lib.join_cons, Lib.joinTail]
  exact congrArg ByteArray.mk h
theorem join3 (a b c : ByteArray) : (⟨(Lib.join ([a, b, c].map (·.data.toList)) [32]).toArray⟩ : ByteArray) = a ++ ⟨#[32]⟩ ++ b ++ ⟨#[32]⟩ ++ c := by
  have h : (Lib.join ([a, b, c].map (·.data.toList)) [32]).toArray = (a ++ ⟨#[32]⟩ ++ b ++ ⟨#[32]⟩ ++ c).data := by apply Array.ext'; simp [Lib.join_cons, Lib.joinTail]
  exact congrArg ByteArray.mk h

def PowTab (w : World) : Prop := Lib.TabIs Tryd.prog w "internal/strconv.uint64pow10" .u64 Lib.pow10Tab
theorem powTab_below {w w' : World} (h : PowTab w) (hb : Below w.heap.size w w') : PowTab w' := by
  unfold PowTab Lib.TabIs World.var? at h ⊢
  obtain ⟨g, hg⟩ : ∃ g, Tryd.prog.globalNamed "internal/strconv.uint64pow10" = some g := by
    cases hg : Tryd.prog.globalNamed "internal/strconv.uint64pow10" with
    | none => rw [hg] at h; cases h
    | some g => exact ⟨g, rfl⟩
  rw [hg] at h ⊢
  simp only [Option.bind_some] at h ⊢
  have hlt : g < w.heap.size := by
    rcases Nat.lt_or_ge g w.heap.size with h' | h'
    · exact h'
    · rw [Array.getElem?_eq_none h'] at h; cases h
  rw [hb.block g hlt]
  exact h
theorem below_grow (w : World) (k : Nat) (os : Array Obj) : Below w.heap.size w (Sort.grow (w.drewN k) os) := by
  have h1 : Below w.heap.size w (w.drewN k) := below_drewN (Below.refl _ _) k
  refine h1.trans ⟨rfl, rfl, rfl, by simp [Sort.grow], fun j hj => ?_⟩
  have : j < (w.drewN k).heap.size := Nat.lt_of_lt_of_le hj h1.size
  simp only [Sort.grow, Array.getElem?_append, if_pos this]
theorem itoa_calls (n : Nat) (hn : n < 4096) (w : World) (hT : n < 100 ∨ PowTab w) :
    Calls Tryd.prog 35 #[.int .i64 n] w fun e w' => e = .returned (.string (numS n)) ∧ Below w.heap.size w w' := by
  rcases hT with h | h
  · refine (Tryd.strconv_Itoa_small n h w).mono ?_
    rintro e w' ⟨rfl, rfl⟩
    exact ⟨by rw [numS_pos]; rfl, Below.refl _ _⟩
  · refine (Tryd.strconv_Itoa n (by omega) (by omega) w h).mono ?_
    rintro e w' ⟨rfl, k, os, rfl⟩
    exact ⟨rfl, below_grow w k os⟩
theorem numS_size (n : Nat) (hn : n < 4096) : (numS n).size ≤ 20 := by rw [numS_pos]; exact decS_size n (by omega)
theorem nameP_size (k : Int) : (nameP k).size ≤ 8 := by
  unfold nameP
  by_cases h : k.toNat < 7
  · rcases (show k.toNat = 0 ∨ k.toNat = 1 ∨ k.toNat = 2 ∨ k.toNat = 3 ∨ k.toNat = 4 ∨ k.toNat = 5 ∨ k.toNat = 6 by omega) with h | h | h | h | h | h | h <;> (rw [h]; decide)
  · rw [List.getD_eq_getElem?_getD, List.getElem?_eq_none (by simp [partNames]; omega)]; decide

/-- what comes behind the part is known -/
theorem part_bounds {t sp : Int} {ss : List ByteArray} {x : Int} (hp : planB t sp ss = true) (he : partE t sp ss x = 0) :
    1 ≤ partK t sp ss x ∧ partK t sp ss x ≤ 6 ∧ (∃ n : Nat, partN t sp ss x = n ∧ n < 10) ∧ (∃ a : Nat, partA t sp ss x = a ∧ a < 4096) := by
  obtain ⟨b1, b2, b3, b4, _⟩ := plan_ok hp
  have h01 : 0 ≤ x ∧ x < szP t sp := by
    rcases part_E (t := t) (sp := sp) (ss := ss) (x := x) with ⟨_, h⟩ | ⟨_, _, h⟩ | ⟨_, _, _, h⟩ | ⟨_, h0, h1, _⟩
    · rw [he] at h; cases h
    · rw [he] at h; cases h
    · rw [he] at h; cases h
    · exact ⟨h0, h1⟩
  unfold szP at h01
  rcases part_cases hp he with ⟨c1, k1, k2, k3⟩ | ⟨c0, c1, k1, k2, k3⟩ | ⟨c0, c1, k1, k2, k3⟩ | ⟨c0, k1, k2, k3⟩
  · rw [k1, k2, k3]; exact ⟨by omega, by omega, ⟨0, rfl, by omega⟩, ⟨0, rfl, by omega⟩⟩
  · rw [k1, k2, k3]; exact ⟨by omega, by omega, ⟨(x - 3).toNat, by omega, by omega⟩, ⟨0, rfl, by omega⟩⟩
  · rw [k1, k2, k3]; exact ⟨by omega, by omega, ⟨(x - (3 + t)).toNat, by omega, by omega⟩, ⟨0, rfl, by omega⟩⟩
  · have d0 : 0 ≤ x - (3 + 2 * t) := by omega
    have d1 : (x - (3 + 2 * t)) / sp ≤ 1 := by
      have := Int.ediv_lt_of_lt_mul (a := x - (3 + 2 * t)) (b := 2) (c := sp) (by omega) (by omega)
      omega
    have d2 : 0 ≤ (x - (3 + 2 * t)) / sp := Int.ediv_nonneg d0 (by omega)
    have d3 := Int.emod_nonneg (x - (3 + 2 * t)) (show sp ≠ 0 by omega)
    have d4 := Int.emod_lt_of_pos (x - (3 + 2 * t)) (show 0 < sp by omega)
    rw [k1, k2, k3]
    exact ⟨by omega, by omega, ⟨((x - (3 + 2 * t)) / sp).toNat, by omega, by omega⟩, ⟨((x - (3 + 2 * t)) % sp).toNat, by omega, by omega⟩⟩

set_option maxRecDepth 100000 in
set_option maxHeartbeats 3200000 in
theorem lyText_calls (t sp : Int) (a : Option Addr) (c : Nat) (ss : List ByteArray) (x : Int) (hp : planB t sp ss = true) (he : partE t sp ss x = 0) (w : World) :
    Calls Tryd.prog 22 #[.agg #[.int .i64 t, .int .i64 sp, .slice a ss.length c], .int .i64 x] w fun e w' => e = .returned (.string (textP t sp ss x)) ∧ Below w.heap.size w w' := by
  have hpt := fun w => lyPart_calls t sp a c ss x hp w
  obtain ⟨kb0, kb1, ⟨n, hn, hn1⟩, ⟨q, hq, hq1⟩⟩ := part_bounds hp he
  have e1 : textP t sp ss x = textK (partK t sp ss x) n q := by unfold textP; rw [if_pos he, hn, hq]
  rw [e1]
  rw [hn, hq] at hpt
  generalize partK t sp ss x = k at hpt kb0 kb1
  have HP := Lib.hid hpt
  have H1 := Lib.hid (fun w => number_calls n (by omega) (by omega) w)
  have H2 := Lib.hid (fun w => number_calls q (by omega) (by omega) w)
  have z1 := numS_size n (by omega)
  have z2 := numS_size q hq1
  clear hpt e1 hn hq he hp
  have go : k ≤ 3 ∨ k = 4 ∨ k = 5 ∨ k = 6 := by omega
  rcases go with h | rfl | rfl | rfl
  · have e2 : textK k n q = nameP k := by unfold textK; rw [if_pos (by omega)]
    rw [e2]
    clear e2 H1 H2
    rcases (show k = 1 ∨ k = 2 ∨ k = 3 by omega) with rfl | rfl | rfl
    all_goals
      go_enter Tryd.func22, Tryd.ntmps22
      go_wp2_with fail
      refine (HP.out _).mono ?_; rintro e1 w1 ⟨rfl, hb1⟩; obtain ⟨hc1, hf1⟩ := bcell hb1; have hz1 := hb1.size; (try simp at hz1)
      go_wp2
      go_ret
      exact ⟨rfl, by (repeat (first | exact Below.refl _ _ | (with_reducible assumption) | refine Below.drew ?_ | refine Below.drewN' ?_ _ | refine Below.alloc ?_ (by first | omega | (simp; done) | (simp; omega)) _ | refine Below.setCell ?_ (by first | omega | (simp; done) | (simp; omega)) _ | refine Below.then ?_ hb9 (by first | omega | (simp; done) | (simp; omega)) | refine Below.then ?_ hb8 (by first | omega | (simp; done) | (simp; omega)) | refine Below.then ?_ hb7 (by first | omega | (simp; done) | (simp; omega)) | refine Below.then ?_ hb6 (by first | omega | (simp; done) | (simp; omega)) | refine Below.then ?_ hb5 (by first | omega | (simp; done) | (simp; omega)) | refine Below.then ?_ hb4 (by first | omega | (simp; done) | (simp; omega)) | refine Below.then ?_ hb3 (by first | omega | (simp; done) | (simp; omega)) | refine Below.then ?_ hb2 (by first | omega | (simp; done) | (simp; omega)) | refine Below.then ?_ hb1 (by first | omega | (simp; done) | (simp; omega))))⟩
  · rw [show textK 4 n q = ⟨#[97, 99, 107]⟩ ++ ⟨#[32]⟩ ++ numS n from rfl]
    obtain ⟨y, hy⟩ : ∃ y, numS n = y := ⟨_, rfl⟩
    rw [hy] at H1 z1 ⊢
    clear H2
    go_enter Tryd.func22, Tryd.ntmps22
    go_wp2_with fail
    refine (HP.out _).mono ?_; rintro e1 w1 ⟨rfl, hb1⟩; obtain ⟨hc1, hf1⟩ := bcell hb1; have hz1 := hb1.size; (try simp at hz1)
    go_wp2_with (go_at_call 38; refine (H1.out _).mono ?_; rintro e2 w2 ⟨rfl, hb2⟩; obtain ⟨hc2, hf2⟩ := bcell hb2; have hz2 := hb2.size; (try simp at hz2))
    go_ret
    exact ⟨rfl, by (repeat (first | exact Below.refl _ _ | (with_reducible assumption) | refine Below.drew ?_ | refine Below.drewN' ?_ _ | refine Below.alloc ?_ (by first | omega | (simp; done) | (simp; omega)) _ | refine Below.setCell ?_ (by first | omega | (simp; done) | (simp; omega)) _ | refine Below.then ?_ hb9 (by first | omega | (simp; done) | (simp; omega)) | refine Below.then ?_ hb8 (by first | omega | (simp; done) | (simp; omega)) | refine Below.then ?_ hb7 (by first | omega | (simp; done) | (simp; omega)) | refine Below.then ?_ hb6 (by first | omega | (simp; done) | (simp; omega)) | refine Below.then ?_ hb5 (by first | omega | (simp; done) | (simp; omega)) | refine Below.then ?_ hb4 (by first | omega | (simp; done) | (simp; omega)) | refine Below.then ?_ hb3 (by first | omega | (simp; done) | (simp; omega)) | refine Below.then ?_ hb2 (by first | omega | (simp; done) | (simp; omega)) | refine Below.then ?_ hb1 (by first | omega | (simp; done) | (simp; omega))))⟩
  · rw [show textK 5 n q = ⟨#[108, 105, 115, 116]⟩ ++ ⟨#[32]⟩ ++ numS n from rfl]
    obtain ⟨y, hy⟩ : ∃ y, numS n = y := ⟨_, rfl⟩
    rw [hy] at H1 z1 ⊢
    clear H2
    go_enter Tryd.func22, Tryd.ntmps22
    go_wp2_with fail
    refine (HP.out _).mono ?_; rintro e1 w1 ⟨rfl, hb1⟩; obtain ⟨hc1, hf1⟩ := bcell hb1; have hz1 := hb1.size; (try simp at hz1)
    go_wp2_with (go_at_call 38; refine (H1.out _).mono ?_; rintro e2 w2 ⟨rfl, hb2⟩; obtain ⟨hc2, hf2⟩ := bcell hb2; have hz2 := hb2.size; (try simp at hz2))
    go_ret
    exact ⟨rfl, by (repeat (first | exact Below.refl _ _ | (with_reducible assumption) | refine Below.drew ?_ | refine Below.drewN' ?_ _ | refine Below.alloc ?_ (by first | omega | (simp; done) | (simp; omega)) _ | refine Below.setCell ?_ (by first | omega | (simp; done) | (simp; omega)) _ | refine Below.then ?_ hb9 (by first | omega | (simp; done) | (simp; omega)) | refine Below.then ?_ hb8 (by first | omega | (simp; done) | (simp; omega)) | refine Below.then ?_ hb7 (by first | omega | (simp; done) | (simp; omega)) | refine Below.then ?_ hb6 (by first | omega | (simp; done) | (simp; omega)) | refine Below.then ?_ hb5 (by first | omega | (simp; done) | (simp; omega)) | refine Below.then ?_ hb4 (by first | omega | (simp; done) | (simp; omega)) | refine Below.then ?_ hb3 (by first | omega | (simp; done) | (simp; omega)) | refine Below.then ?_ hb2 (by first | omega | (simp; done) | (simp; omega)) | refine Below.then ?_ hb1 (by first | omega | (simp; done) | (simp; omega))))⟩
  · rw [show textK 6 n q = ⟨#[115, 112, 97, 99, 101]⟩ ++ ⟨#[32]⟩ ++ numS n ++ ⟨#[32]⟩ ++ numS q from rfl]
    obtain ⟨y, hy⟩ : ∃ y, numS n = y := ⟨_, rfl⟩
    obtain ⟨v, hv⟩ : ∃ v, numS q = v := ⟨_, rfl⟩
    rw [hy] at H1 z1 ⊢
    rw [hv] at H2 z2 ⊢
    clear hy hv
    go_enter Tryd.func22, Tryd.ntmps22
    go_wp2_with fail
    refine (HP.out _).mono ?_; rintro e1 w1 ⟨rfl, hb1⟩; obtain ⟨hc1, hf1⟩ := bcell hb1; have hz1 := hb1.size; (try simp at hz1)
    go_wp2_with fail
    refine (H1.out _).mono ?_; rintro e2 w2 ⟨rfl, hb2⟩; obtain ⟨hc2, hf2⟩ := bcell hb2; have hz2 := hb2.size; (try simp at hz2)
    have p0 := hc2 w1.heap.size 0 (by first | omega | (simp; done) | (simp; omega)); simp [go_sem] at p0
    have p2 := hc2 w1.heap.size 2 (by first | omega | (simp; done) | (simp; omega)); simp [go_sem] at p2
    go_wp2_with (go_at_call 38; refine (H2.out _).mono ?_; rintro e3 w3 ⟨rfl, hb3⟩; obtain ⟨hc3, hf3⟩ := bcell hb3; have hz3 := hb3.size; (try simp at hz3))
    go_ret
    exact ⟨rfl, by (repeat (first | exact Below.refl _ _ | (with_reducible assumption) | refine Below.drew ?_ | refine Below.drewN' ?_ _ | refine Below.alloc ?_ (by first | omega | (simp; done) | (simp; omega)) _ | refine Below.setCell ?_ (by first | omega | (simp; done) | (simp; omega)) _ | refine Below.then ?_ hb9 (by first | omega | (simp; done) | (simp; omega)) | refine Below.then ?_ hb8 (by first | omega | (simp; done) | (simp; omega)) | refine Below.then ?_ hb7 (by first | omega | (simp; done) | (simp; omega)) | refine Below.then ?_ hb6 (by first | omega | (simp; done) | (simp; omega)) | refine Below.then ?_ hb5 (by first | omega | (simp; done) | (simp; omega)) | refine Below.then ?_ hb4 (by first | omega | (simp; done) | (simp; omega)) | refine Below.then ?_ hb3 (by first | omega | (simp; done) | (simp; omega)) | refine Below.then ?_ hb2 (by first | omega | (simp; done) | (simp; omega)) | refine Below.then ?_ hb1 (by first | omega | (simp; done) | (simp; omega))))⟩


theorem grownOf {w w' : World} (h : Below w.heap.size w w') : w.grownBy w' none := ⟨h.os, h.tape, h.output, h.size, fun k hk _ => h.block k hk⟩
theorem cell_blk' {A B : World} {b o : Nat} (h : B.heap[b]? = A.heap[b]?) : B.cell? ⟨b, o, none⟩ = A.cell? ⟨b, o, none⟩ := by simp [World.cell?, h]
theorem joinLen2 (a b : ByteArray) : (Lib.join ([a, b].map (·.data.toList)) [32]).length = a.size + 1 + b.size := by simp [Lib.join_cons, Lib.joinTail]; omega
theorem joinLen3 (a b c : ByteArray) : (Lib.join ([a, b, c].map (·.data.toList)) [32]).length = a.size + 1 + b.size + 1 + c.size := by simp [Lib.join_cons, Lib.joinTail]; omega
theorem joinOwn (xs : List ByteArray) (hx3 : xs.length ≤ 3) (hl : (Lib.join (xs.map (·.data.toList)) [32]).length ≤ 140737488355328) : ∀ (base g cap : Nat) (W : World), W.ownsRow base 9 1 (.slice (some ⟨g, 0, none⟩) xs.length cap) xs.length (xs.map Value.string) →
    Calls Tryd.prog 36 #[.slice (some ⟨g, 0, none⟩) xs.length cap, .string ⟨#[32]⟩] W fun e w' => e = .returned (.string ⟨(Lib.join (xs.map (·.data.toList)) [32]).toArray⟩) ∧ Below W.heap.size W w' := by
  intro base g cap W hown
  have hcells := fun g' (hg : _ = some g') => hown.cells (g := g') hg
  rcases hown.2 with ⟨h0, _⟩ | ⟨g', cap', cur, hv, hgb, hgc, hrest⟩
  · cases h0
  · obtain ⟨rfl, rfl⟩ : g = g' ∧ cap = cap' := by simpa using hv
    refine Tryd.strings_Join g 0 cap xs ⟨#[32]⟩ W (fun j x hx => ?_) (Array.getElem?_eq_some_iff.1 hgc).1 (by omega) hrest.1 hl
    have := hcells g rfl j (.string x) (by rw [List.getElem?_map, hx]; rfl)
    have ea : (⟨g, 0, none⟩ : Addr).add j = ⟨g, 0 + j, none⟩ := by unfold Addr.add; split <;> simp_all
    rw [ea] at this
    exact this
theorem infoStrT : (Tryd.prog.info? 9).map (fun i => (i.zero, i.size, i.bytes)) = some (some (.string ByteArray.empty), 1, 16) := by kernel_rfl

set_option maxRecDepth 100000 in
set_option maxHeartbeats 3200000 in
theorem layText_calls (t sp : Int) (a : Option Addr) (c : Nat) (ss : List ByteArray) (x : Int) (hn : ss.length ≤ maxLen) (w : World) (h : SlOf w a (strV ss)) (hT : partA t sp ss x < 100 ∨ PowTab w) :
    Calls Tryd.prog 19 #[.agg #[.int .i64 t, .int .i64 sp, .slice a ss.length c], .int .i64 x] w fun e w' => e = .returned (.tuple #[.string (textP t sp ss x), .int .i64 (partE t sp ss x)]) ∧ Below w.heap.size w w' := by
  have HS := Lib.hid h
  have hpt := fun w h => layPart_calls t sp a c ss x hn w h
  clear h
  by_cases he : partE t sp ss x = 0
  · have hp : planB t sp ss = true := by
      rcases part_E (t := t) (sp := sp) (ss := ss) (x := x) with ⟨_, h⟩ | ⟨h, _⟩ | ⟨h, _⟩ | ⟨h, _⟩
      · rw [he] at h; cases h
      · exact h
      · exact h
      · exact h
    obtain ⟨kb0, kb1, ⟨n, hn, hn1⟩, ⟨q, hq, hq1⟩⟩ := part_bounds hp he
    have e1 : textP t sp ss x = textK (partK t sp ss x) n q := by unfold textP; rw [if_pos he, hn, hq]
    rw [e1, he]
    rw [hn, hq, he] at hpt
    rw [hq] at hT
    generalize partK t sp ss x = k at hpt kb0 kb1
    have HP := Lib.hid hpt
    have hix := index_part k ⟨kb0, kb1⟩
    clear hpt e1 hn hq he hp
    have hns := nameP_size k
    obtain ⟨i0, hi, hi0, hi1, hi2⟩ := info_parts infoStrT
    by_cases k4 : k < 4
    · have e2 : textK k n q = nameP k := by unfold textK; rw [if_pos k4]
      rw [e2]
      generalize nameP k = nm at hix hns ⊢
      have hj := joinOwn [nm] (by simp) (by rw [show Lib.join ([nm].map (·.data.toList)) [32] = nm.data.toList from by simp [Lib.join_one]]; simp; omega)
      rw [join1 nm] at hj
      have HJ := Lib.hid hj
      clear hj
      clear e2 hT
      go_enter Tryd.func19, Tryd.ntmps19
      go_wp2_with fail
      refine (HP.out _ (HS.out.alloc _)).mono ?_; rintro e1 w1 ⟨rfl, hb1⟩; obtain ⟨hc1, hf1⟩ := bcell hb1; have hz1 := hb1.size; (try simp at hz1)
      go_wp2_with fail
      go_region_with (first | (go_at_call 34; refine (layNames_calls _).mono ?_; rintro e3 w3 ⟨rfl, hb3⟩; obtain ⟨hc3, hf3⟩ := bcell hb3; have hz3 := hb3.size; (try simp at hz3)))
      all_goals
        have p0 := hc3 w1.heap.size 0 (by first | omega | (simp; done) | (simp; omega)); simp [go_sem] at p0
        have p1 := hc3 w1.heap.size 1 (by first | omega | (simp; done) | (simp; omega)); simp [go_sem] at p1
        have p2 := hc3 w1.heap.size 2 (by first | omega | (simp; done) | (simp; omega)); simp [go_sem] at p2
        have pl : w1.heap.size < w3.heap.size := by first | omega | (simp; done) | (simp; omega)
        have hB3 : Below w.heap.size w w3 := by (repeat (first | exact Below.refl _ _ | (with_reducible assumption) | refine Below.drew ?_ | refine Below.drewN' ?_ _ | refine Below.alloc ?_ (by first | omega | (simp; done) | (simp; omega)) _ | refine Below.setCell ?_ (by first | omega | (simp; done) | (simp; omega)) _ | refine Below.then ?_ hb9 (by first | omega | (simp; done) | (simp; omega)) | refine Below.then ?_ hb8 (by first | omega | (simp; done) | (simp; omega)) | refine Below.then ?_ hb7 (by first | omega | (simp; done) | (simp; omega)) | refine Below.then ?_ hb6 (by first | omega | (simp; done) | (simp; omega)) | refine Below.then ?_ hb5 (by first | omega | (simp; done) | (simp; omega)) | refine Below.then ?_ hb4 (by first | omega | (simp; done) | (simp; omega)) | refine Below.then ?_ hb3 (by first | omega | (simp; done) | (simp; omega)) | refine Below.then ?_ hb2 (by first | omega | (simp; done) | (simp; omega)) | refine Below.then ?_ hb1 (by first | omega | (simp; done) | (simp; omega))))
        have hz3' := hB3.size
        have hown := World.ownsRow_lit (base := w.heap.size) (e := 9) (size := 1) w3 #[.string nm] 1 (by omega) (by unfold maxLen; omega) rfl
        go_wp2_with fail
        refine (HJ.out _ _ _ _ hown).mono ?_; rintro e4 w4 ⟨rfl, hb4⟩; have hz4 := hb4.size; (try simp at hz4)
        go_wp2
        go_ret2
        exact ⟨rfl, by (repeat (first | exact Below.refl _ _ | (with_reducible assumption) | refine Below.drew ?_ | refine Below.drewN' ?_ _ | refine Below.alloc ?_ (by first | omega | (simp; done) | (simp; omega)) _ | refine Below.setCell ?_ (by first | omega | (simp; done) | (simp; omega)) _ | refine Below.then ?_ hb9 (by first | omega | (simp; done) | (simp; omega)) | refine Below.then ?_ hb8 (by first | omega | (simp; done) | (simp; omega)) | refine Below.then ?_ hb7 (by first | omega | (simp; done) | (simp; omega)) | refine Below.then ?_ hb6 (by first | omega | (simp; done) | (simp; omega)) | refine Below.then ?_ hb5 (by first | omega | (simp; done) | (simp; omega)) | refine Below.then ?_ hb4 (by first | omega | (simp; done) | (simp; omega)) | refine Below.then ?_ hb3 (by first | omega | (simp; done) | (simp; omega)) | refine Below.then ?_ hb2 (by first | omega | (simp; done) | (simp; omega)) | refine Below.then ?_ hb1 (by first | omega | (simp; done) | (simp; omega))))⟩
    · have z1 := numS_size n (by omega)
      have z2 := numS_size q hq1
      have HI := Lib.hid (fun w => itoa_calls n (by omega) w (.inl (by omega)))
      by_cases k6 : k < 6
      · have e2 : textK k n q = nameP k ++ ⟨#[32]⟩ ++ numS n := by unfold textK; rw [if_neg k4, if_pos k6]
        have b4 : (4 : Int) ≤ k := by omega
        have b6 : (k == 6) = false := by rw [beq_eq_false_iff_ne]; omega
        rw [e2]
        generalize nameP k = nm at hix hns ⊢
        generalize numS n = y at HI z1 ⊢
        have hj := joinOwn [nm, y] (by simp) (by rw [joinLen2]; omega)
        rw [join2 nm y] at hj
        have HJ := Lib.hid hj
        clear hj
        clear e2 hT z2
        go_enter Tryd.func19, Tryd.ntmps19
        go_wp2_with fail
        refine (HP.out _ (HS.out.alloc _)).mono ?_; rintro e1 w1 ⟨rfl, hb1⟩; obtain ⟨hc1, hf1⟩ := bcell hb1; have hz1 := hb1.size; (try simp at hz1)
        go_wp2_with fail
        go_region_with (first | (go_at_call 34; refine (layNames_calls _).mono ?_; rintro e3 w3 ⟨rfl, hb3⟩; obtain ⟨hc3, hf3⟩ := bcell hb3; have hz3 := hb3.size; (try simp at hz3)))
        all_goals
          have p0 := hc3 w1.heap.size 0 (by first | omega | (simp; done) | (simp; omega)); simp [go_sem] at p0
          have p1 := hc3 w1.heap.size 1 (by first | omega | (simp; done) | (simp; omega)); simp [go_sem] at p1
          have p2 := hc3 w1.heap.size 2 (by first | omega | (simp; done) | (simp; omega)); simp [go_sem] at p2
          have pl : w1.heap.size < w3.heap.size := by first | omega | (simp; done) | (simp; omega)
          have hB3 : Below w.heap.size w w3 := by (repeat (first | exact Below.refl _ _ | (with_reducible assumption) | refine Below.drew ?_ | refine Below.drewN' ?_ _ | refine Below.alloc ?_ (by first | omega | (simp; done) | (simp; omega)) _ | refine Below.setCell ?_ (by first | omega | (simp; done) | (simp; omega)) _ | refine Below.then ?_ hb9 (by first | omega | (simp; done) | (simp; omega)) | refine Below.then ?_ hb8 (by first | omega | (simp; done) | (simp; omega)) | refine Below.then ?_ hb7 (by first | omega | (simp; done) | (simp; omega)) | refine Below.then ?_ hb6 (by first | omega | (simp; done) | (simp; omega)) | refine Below.then ?_ hb5 (by first | omega | (simp; done) | (simp; omega)) | refine Below.then ?_ hb4 (by first | omega | (simp; done) | (simp; omega)) | refine Below.then ?_ hb3 (by first | omega | (simp; done) | (simp; omega)) | refine Below.then ?_ hb2 (by first | omega | (simp; done) | (simp; omega)) | refine Below.then ?_ hb1 (by first | omega | (simp; done) | (simp; omega))))
          have hz3' := hB3.size
          have hown := World.ownsRow_lit (base := w.heap.size) (e := 9) (size := 1) w3 #[.string nm] 1 (by omega) (by unfold maxLen; omega) rfl
          go_wp2_with fail
          refine (HI.out _).mono ?_; rintro e5 w5 ⟨rfl, hb5⟩; have hz5 := hb5.size; (try simp at hz5)
          have hown5 := hown.kept (grownOf hb5) (Classical.em _)
          have q0 := (hb5.cell (p := ⟨w1.heap.size, 0, none⟩) (by simp; omega)).trans (show (w3.alloc (.cells #[.string nm] 9)).cell? ⟨w1.heap.size, 0, none⟩ = some (.int .i64 k) from by simp [go_sem, pl, Nat.ne_of_lt pl, p0])
          go_wp2_with (at_builtin; go_loud (refine wpList_append_own _ rfl _ _ 65 rfl w.heap.size 9 i0 (.string ByteArray.empty) 1 16 Tryd.underlying65 hi hi0 hi1 hi2 rfl (by decide) _ _ _ rfl (hown5.alloc _) ⟨w5.heap.size, 0, none⟩ 1 1 [.string y] rfl rfl (cell_one_new _ _ _) (fun x hx => by simp at hx; subst hx; rfl) (by unfold maxLen; omega) (by omega) (by simp; omega) ?_; intro v' w6 hownw6 hgrow hnil; obtain ⟨gw6, capw6, rfl⟩ := ownsRow_succ hownw6; replace hgrow : (w5.alloc (.cells #[.string y] 9)).grownBy w6 (some w3.heap.size) := hgrow; have q6 := (cell_blk' (hgrow.block w1.heap.size (by simp; omega) (by simp; omega))).trans (hold_cell q0 ((Below.refl _ _).alloc (Nat.le_refl _) _) (by simp; omega))))
          have hB6 := ((Below.then (hB3.alloc (by omega) _) hb5 (by simp; omega)).alloc (by omega) _).grown hgrow (by simp; omega) (fun j ej => (hown5.lt j ej).1)
          go_wp2_with fail
          refine (HJ.out _ _ _ _ hownw6).mono ?_; rintro e7 w7 ⟨rfl, hb7⟩; have hz7 := hb7.size; (try simp at hz7)
          go_wp2
          go_ret2
          exact ⟨rfl, Below.then hB6 hb7 hB6.size⟩
      · obtain rfl : k = 6 := by omega
        have HI2 := Lib.hid (fun w h => itoa_calls q hq1 w h)
        have e2 : textK 6 n q = nameP 6 ++ ⟨#[32]⟩ ++ numS n ++ ⟨#[32]⟩ ++ numS q := by unfold textK; rw [if_neg (by decide), if_neg (by decide)]
        rw [e2]
        generalize nameP 6 = nm at hix hns ⊢
        generalize numS n = y at HI z1 ⊢
        generalize numS q = v at HI2 z2 ⊢
        have hj := joinOwn [nm, y, v] (by simp) (by rw [joinLen3]; omega)
        rw [join3 nm y v] at hj
        have HJ := Lib.hid hj
        have HT := Lib.hid hT
        clear hj e2 hT
        go_enter Tryd.func19, Tryd.ntmps19
        go_wp2_with fail
        refine (HP.out _ (HS.out.alloc _)).mono ?_; rintro e1 w1 ⟨rfl, hb1⟩; obtain ⟨hc1, hf1⟩ := bcell hb1; have hz1 := hb1.size; (try simp at hz1)
        go_wp2_with fail
        go_region_with (first | (go_at_call 34; refine (layNames_calls _).mono ?_; rintro e3 w3 ⟨rfl, hb3⟩; obtain ⟨hc3, hf3⟩ := bcell hb3; have hz3 := hb3.size; (try simp at hz3)))
        all_goals
          have p0 := hc3 w1.heap.size 0 (by first | omega | (simp; done) | (simp; omega)); simp [go_sem] at p0
          have p1 := hc3 w1.heap.size 1 (by first | omega | (simp; done) | (simp; omega)); simp [go_sem] at p1
          have p2 := hc3 w1.heap.size 2 (by first | omega | (simp; done) | (simp; omega)); simp [go_sem] at p2
          have pl : w1.heap.size < w3.heap.size := by first | omega | (simp; done) | (simp; omega)
          have hB3 : Below w.heap.size w w3 := by (repeat (first | exact Below.refl _ _ | (with_reducible assumption) | refine Below.drew ?_ | refine Below.drewN' ?_ _ | refine Below.alloc ?_ (by first | omega | (simp; done) | (simp; omega)) _ | refine Below.setCell ?_ (by first | omega | (simp; done) | (simp; omega)) _ | refine Below.then ?_ hb9 (by first | omega | (simp; done) | (simp; omega)) | refine Below.then ?_ hb8 (by first | omega | (simp; done) | (simp; omega)) | refine Below.then ?_ hb7 (by first | omega | (simp; done) | (simp; omega)) | refine Below.then ?_ hb6 (by first | omega | (simp; done) | (simp; omega)) | refine Below.then ?_ hb5 (by first | omega | (simp; done) | (simp; omega)) | refine Below.then ?_ hb4 (by first | omega | (simp; done) | (simp; omega)) | refine Below.then ?_ hb3 (by first | omega | (simp; done) | (simp; omega)) | refine Below.then ?_ hb2 (by first | omega | (simp; done) | (simp; omega)) | refine Below.then ?_ hb1 (by first | omega | (simp; done) | (simp; omega))))
          have hz3' := hB3.size
          have hown := World.ownsRow_lit (base := w.heap.size) (e := 9) (size := 1) w3 #[.string nm] 1 (by omega) (by unfold maxLen; omega) rfl
          go_wp2_with fail
          refine (HI.out _).mono ?_; rintro e5 w5 ⟨rfl, hb5⟩; have hz5 := hb5.size; (try simp at hz5)
          have hown5 := hown.kept (grownOf hb5) (Classical.em _)
          have q0 := (hb5.cell (p := ⟨w1.heap.size, 0, none⟩) (by simp; omega)).trans (show (w3.alloc (.cells #[.string nm] 9)).cell? ⟨w1.heap.size, 0, none⟩ = some (.int .i64 6) from by simp [go_sem, pl, Nat.ne_of_lt pl, p0])
          have q2 := (hb5.cell (p := ⟨w1.heap.size, 2, none⟩) (by simp; omega)).trans (show (w3.alloc (.cells #[.string nm] 9)).cell? ⟨w1.heap.size, 2, none⟩ = some (.int .i64 q) from by simp [go_sem, pl, Nat.ne_of_lt pl, p2])
          go_wp2_with (at_builtin; go_loud (refine wpList_append_own _ rfl _ _ 65 rfl w.heap.size 9 i0 (.string ByteArray.empty) 1 16 Tryd.underlying65 hi hi0 hi1 hi2 rfl (by decide) _ _ _ rfl (hown5.alloc _) ⟨w5.heap.size, 0, none⟩ 1 1 [.string y] rfl rfl (cell_one_new _ _ _) (fun x hx => by simp at hx; subst hx; rfl) (by unfold maxLen; omega) (by omega) (by simp; omega) ?_; intro v' w6 hownw6 hgrow hnil; obtain ⟨gw6, capw6, rfl⟩ := ownsRow_succ hownw6; replace hgrow : (w5.alloc (.cells #[.string y] 9)).grownBy w6 (some w3.heap.size) := hgrow; have q6 := (cell_blk' (hgrow.block w1.heap.size (by simp; omega) (by simp; omega))).trans (hold_cell q0 ((Below.refl _ _).alloc (Nat.le_refl _) _) (by simp; omega)); have r6 := (cell_blk' (hgrow.block w1.heap.size (by simp; omega) (by simp; omega))).trans (hold_cell q2 ((Below.refl _ _).alloc (Nat.le_refl _) _) (by simp; omega)); have hB6 := ((Below.then (hB3.alloc (by omega) _) hb5 (by simp; omega)).alloc (by omega) _).grown hgrow (by simp; omega) (fun j ej => (hown5.lt j ej).1); have hT6 := Lib.hid (show q < 100 ∨ PowTab w6 from HT.out.imp (fun h => by omega) (fun h => powTab_below h hB6))))
          refine (HI2.out _ hT6.out).mono ?_; rintro e7 w7 ⟨rfl, hb7⟩; have hz7 := hb7.size; (try simp at hz7)
          have hown7 := hownw6.kept (grownOf hb7) (Classical.em _)
          have hB7 := Below.then hB6 hb7 hB6.size
          have hz6 := hB6.size
          go_wp2_with (at_builtin; go_loud (refine wpList_append_own _ rfl _ _ 65 rfl w.heap.size 9 i0 (.string ByteArray.empty) 1 16 Tryd.underlying65 hi hi0 hi1 hi2 rfl (by decide) _ _ _ rfl (hown7.alloc _) ⟨w7.heap.size, 0, none⟩ 1 1 [.string v] rfl rfl (cell_one_new _ _ _) (fun x hx => by simp at hx; subst hx; rfl) (by unfold maxLen; omega) (by omega) (by simp; omega) ?_; intro v' w8 hownw8 hgrow hnil; obtain ⟨gw8, capw8, rfl⟩ := ownsRow_succ hownw8; replace hgrow : (w7.alloc (.cells #[.string v] 9)).grownBy w8 (some gw6) := hgrow))
          have hB8 := (hB7.alloc (by omega) _).grown hgrow (by simp; omega) (fun j ej => (hown7.lt j ej).1)
          go_wp2_with fail
          refine (HJ.out _ _ _ _ hownw8).mono ?_; rintro e9 w9 ⟨rfl, hb9⟩; have hz9 := hb9.size; (try simp at hz9)
          go_wp2
          go_ret2
          exact ⟨rfl, Below.then hB8 hb9 hB8.size⟩
  · have e1 : textP t sp ss x = ⟨#[]⟩ := by unfold textP; rw [if_neg he]
    obtain ⟨k1, k2, k3⟩ := part_bad he
    have hb : (partE t sp ss x != 0) = true := by simpa using he
    rw [e1]
    rw [k1, k2, k3] at hpt
    obtain ⟨y, hy⟩ : ∃ y, partE t sp ss x = y := ⟨_, rfl⟩
    rw [hy] at hb hpt ⊢
    have HP := Lib.hid hpt
    clear hpt e1 k1 k2 k3 hT he hy
    go_enter Tryd.func19, Tryd.ntmps19
    go_wp2_with fail
    refine (HP.out _ (HS.out.alloc _)).mono ?_; rintro e1 w1 ⟨rfl, hb1⟩; obtain ⟨hc1, hf1⟩ := bcell hb1; have hz1 := hb1.size; (try simp at hz1)
    go_wp2
    go_ret2
    exact ⟨rfl, by (repeat (first | exact Below.refl _ _ | (with_reducible assumption) | refine Below.drew ?_ | refine Below.drewN' ?_ _ | refine Below.alloc ?_ (by first | omega | (simp; done) | (simp; omega)) _ | refine Below.setCell ?_ (by first | omega | (simp; done) | (simp; omega)) _ | refine Below.then ?_ hb9 (by first | omega | (simp; done) | (simp; omega)) | refine Below.then ?_ hb8 (by first | omega | (simp; done) | (simp; omega)) | refine Below.then ?_ hb7 (by first | omega | (simp; done) | (simp; omega)) | refine Below.then ?_ hb6 (by first | omega | (simp; done) | (simp; omega)) | refine Below.then ?_ hb5 (by first | omega | (simp; done) | (simp; omega)) | refine Below.then ?_ hb4 (by first | omega | (simp; done) | (simp; omega)) | refine Below.then ?_ hb3 (by first | omega | (simp; done) | (simp; omega)) | refine Below.then ?_ hb2 (by first | omega | (simp; done) | (simp; omega)) | refine Below.then ?_ hb1 (by first | omega | (simp; done) | (simp; omega))))⟩

end Go.Proofs.YtiodkcecpnomcaaDoor
