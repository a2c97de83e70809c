/- The layer 'door': its machine behind a load. -/
import Derived.Test.YtafenndokmccoaaDoorD
namespace Go.Proofs.Ytafenndokmccoaa
open Go.RowKit
set_option linter.unusedVariables false
set_option linter.unusedSimpArgs false

/-- what comes of a header: an error -/
def openE (x : ThN) (t sp : Int) (ss : List ByteArray) (o : OpN) (ans : Int) : Int :=
  if hSizeE ans ss ≠ 0 ∨ sp - partA t sp ss (adrV (rootN x o.a)) < hSizeN ans ss then 240 else isE ss (hShape ans) o.f (fieldK o.k)
def openO (x : ThN) (t sp : Int) (ss : List ByteArray) (o : OpN) (ans : Int) : Int := if openE x t sp ss o ans = 0 then adrV (rootN x o.a) else 0
def openA (x : ThN) (t sp : Int) (ss : List ByteArray) (o : OpN) (ans : Int) : Int := if openE x t sp ss o ans = 0 then adrV (rootN x o.a) + 2 + o.f else 0

theorem adrV_range {x : Int} (h0 : 0 ≤ x) (h1 : x < 18446744073709551616) : 0 ≤ adrV x ∧ adrV x ≤ 16777215 := by
  unfold adrV
  split
  · rename_i h
    unfold wdV
    rw [if_pos h]
    unfold wdK at h
    have : wEven x = x - x % 2 := rfl
    split at h
    · omega
    · split at h
      · omega
      · split at h
        · omega
        · split at h <;> omega
  · omega
theorem isE_field {ss : List ByteArray} {i f k : Int} (h : isE ss i f k = 0) : 0 ≤ f ∧ f ≤ 8 := by
  have hk : kindE ss i f = 0 := by
    unfold isE at h
    split at h
    · assumption
    · exact h
  rcases kindE_cases ss i f with ⟨h1, h2⟩ | ⟨h1, h2, h3⟩ | ⟨h1, h2, h3, h4⟩ | ⟨h1, h2, h3, _⟩
  · exact absurd (h2.symm.trans hk) h1
  · rw [hk] at h3; cases h3
  · rw [hk] at h4; cases h4
  · refine ⟨h2, ?_⟩
    have ht : tableB ss = true := by
      cases ht : tableB ss with
      | true => rfl
      | false => simp [ofE, ht] at h1
    have hi : 0 ≤ i ∧ i < ss.length := by
      unfold ofE at h1
      rw [if_pos ht] at h1
      split at h1
      · assumption
      · cases h1
    have hsz : (ofS ss i).size ≤ 8 := by
      unfold ofS
      rw [if_pos h1]
      have hm : ss.getD i.toNat ByteArray.empty ∈ ss := by
        rw [List.getD_eq_getElem?_getD, List.getElem?_eq_getElem (by omega)]
        exact List.getElem_mem _
      unfold tableB at ht
      simp only [Bool.and_eq_true, List.all_eq_true] at ht
      have := ht.2 _ hm
      unfold shapeB at this
      simp only [Bool.and_eq_true, decide_eq_true_eq] at this
      omega
    omega

set_option maxRecDepth 100000 in
set_option maxHeartbeats 6400000 in
theorem dLoad_calls (p : Nat) (x : ThN) (hx : ThOk x) (t sp : Int) (a : Option Addr) (c : Nat) (ss : List ByteArray) (hn : ss.length ≤ maxLen) (hp : planB t sp ss = true) (o : OpN) (ans : Int) (h0 : 0 ≤ ans) (h1 : ans < 18446744073709551616) (hck : checkO ss o = 0) (hro : adrB (rootN x o.a) = true) (w : World) (h : DoB w p x t sp a ss.length c o nxL false 0 0 0) (hs : SlOf w a (strV ss)) :
    Calls Try.prog 120 #[.pointer (some ⟨p, 0, none⟩), .int .u64 ans] w fun r w' =>
      r = .returned (.tuple #[.agg #[.int .i64 0, .int .i64 0, .int .u64 0, .int .u64 0], .bool false]) ∧ Only (· = p) w w' ∧ DoB w' p x t sp a ss.length c o .nilFunc true (openE x t sp ss o ans) (openO x t sp ss o ans) (openA x t sp ss o ans) := by
  have HE := Lib.hid (fun e ob at_ W h => dEnd_to p x t sp a ss.length c o nxL false 0 0 0 e ob at_ W h)
  obtain ⟨_, _, ha0, ha6⟩ := check_slots hck
  have hr := rootN_range hx o.a
  have hA := fun W => wAddress_calls (rootN x o.a) hr.1 hr.2 W
  have hAr := adrV_range hr.1 hr.2
  obtain ⟨b1, b2, b3, b4, _⟩ := plan_ok hp
  rw [hro] at hA
  obtain ⟨i, hi⟩ := Int.eq_ofNat_of_zero_le ha0
  have hi6 : i < 6 := by omega
  have hrc := root_cell x t sp a ss.length c o nxL false 0 0 0 i hi6
  have q7 : w.cell? ⟨p, 7 + i, none⟩ = some (.int .u64 (rootN x (i : Int))) := blk_cell h (7 + i) _ hrc
  have q17 : w.cell? ⟨p, 17, none⟩ = some (.int .i64 (i : Int)) := by rw [← hi]; exact blk_cell h 17 _ rfl
  have lp := blk_lt h
  have HD := Lib.hid h
  have hA3 := partA_range (t := t) (sp := sp) (ss := ss) (x := adrV (rootN x o.a))
  have hP := fun W h => layPart_calls t sp a c ss (adrV (rootN x o.a)) hn W h
  have hF := fun W => field_calls o W
  have hZ := fun W h => hSize_calls ans h0 h1 a c ss hn W h
  have hO := fun W => of_calls ans h0 h1 W
  have hI := fun k W h => is_calls a c ss (hShape ans) o.f k hn W h
  unfold openO openA openE
  generalize partE t sp ss (adrV (rootN x o.a)) = pe at hP
  generalize partK t sp ss (adrV (rootN x o.a)) = pk at hP
  generalize partN t sp ss (adrV (rootN x o.a)) = pn at hP
  generalize partA t sp ss (adrV (rootN x o.a)) = pa at hP hA3 ⊢
  generalize adrV (rootN x o.a) = AV at hA hAr hP ⊢
  rw [hi] at hA ha0 ha6
  have hIf : ∀ k, isE ss (hShape ans) o.f k = 0 → 0 ≤ o.f ∧ o.f ≤ 8 := fun k h => isE_field h
  generalize hR : rootN x (i : Int) = R at hA q7
  generalize fieldB o.k = fb at hF
  generalize fieldK o.k = fk at hF ⊢
  replace hI := hI fk
  replace hIf := hIf fk
  generalize isE ss (hShape ans) o.f fk = ie at hI hIf ⊢
  generalize hSizeN ans ss = zn at hZ ⊢
  generalize hSizeE ans ss = ze at hZ ⊢
  generalize hShape ans = hsh at hO hI
  generalize hMark ans = hmk at hO
  generalize hOk ans = hok at hO
  obtain ⟨E, hE⟩ : ∃ E, (if ze ≠ 0 ∨ sp - pa < zn then 240 else ie) = E := ⟨_, rfl⟩
  rw [hE]
  obtain ⟨OO, hOO⟩ : ∃ O, (if E = 0 then AV else 0) = O := ⟨_, rfl⟩
  obtain ⟨AA, hAA⟩ : ∃ A, (if E = 0 then AV + 2 + o.f else 0) = A := ⟨_, rfl⟩
  rw [hOO, hAA]
  have hE := Lib.hid hE
  have hOO := Lib.hid hOO
  have hAA := Lib.hid hAA
  have hwsp : IntKind.i64.wrap (sp - pa) = sp - pa := IntWalk.i64_in _ (by omega)
  unfold opVal at hF
  have HA := Lib.hid hA
  have HP := Lib.hid hP
  have HF := Lib.hid hF
  have HZ := Lib.hid hZ
  have HO := Lib.hid hO
  have HI := Lib.hid hI
  have HIF := Lib.hid hIf
  have HS := Lib.hid hs
  have hne : ¬ p = w.heap.size := by omega
  have hne' : ¬ w.heap.size = p := by omega
  clear h hs hck hA hP hF hZ hO hI hIf hrc hr hR hro hi h0 h1 hx b1 b2
  go_enter Try.func120, Try.ntmps120
  go_wp2_with fail
  have D0 : DoB (w.alloc (.cells #[.int .i64 0, .int .i64 0, .int .u64 0, .int .u64 0] 44)) p x t sp a ss.length c o nxL false 0 0 0 := blk_alloc HD.out _
  have X0 : (w.alloc (.cells #[.int .i64 0, .int .i64 0, .int .u64 0, .int .u64 0] 44)).heap[w.heap.size]? = some (.cells #[.int .i64 0, .int .i64 0, .int .u64 0, .int .u64 0] 44 (0, 0)) := (MapKept.heap_alloc w _).1
  have hb00 : Below w.heap.size w (w.alloc (.cells #[.int .i64 0, .int .i64 0, .int .u64 0, .int .u64 0] 44)) := by (repeat (first | exact Below.refl _ _ | (with_reducible assumption) | refine Below.drew ?_ | refine Below.drewN' ?_ _ | refine Below.alloc ?_ (by first | omega | (simp; done) | (simp; omega)) _ | refine Below.setCell ?_ (by first | omega | (simp; done) | (simp; omega)) _ | refine Below.then ?_ hb9 (by first | omega | (simp; done) | (simp; omega)) | refine Below.then ?_ hb8 (by first | omega | (simp; done) | (simp; omega)) | refine Below.then ?_ hb7 (by first | omega | (simp; done) | (simp; omega)) | refine Below.then ?_ hb6 (by first | omega | (simp; done) | (simp; omega)) | refine Below.then ?_ hb5 (by first | omega | (simp; done) | (simp; omega)) | refine Below.then ?_ hb4 (by first | omega | (simp; done) | (simp; omega)) | refine Below.then ?_ hb3 (by first | omega | (simp; done) | (simp; omega)) | refine Below.then ?_ hb2 (by first | omega | (simp; done) | (simp; omega)) | refine Below.then ?_ hb1 (by first | omega | (simp; done) | (simp; omega))))
  have q7' := hold_cell q7 hb00 lp
  have q17' := hold_cell q17 hb00 lp
  generalize w.alloc (.cells #[.int .i64 0, .int .i64 0, .int .u64 0, .int .u64 0] 44) = W0 at D0 X0 hb00 q7' q17' ⊢
  have lp0 := blk_lt D0
  have lx0 := blk_lt X0
  go_region_held3 (fun A => A.cell? ⟨p, 17, none⟩ = some (.int .i64 (i : Int)) ∧ A.cell? ⟨p, 7 + i, none⟩ = some (.int .u64 R) ∧ p < A.heap.size) (first | (with_reducible exact ⟨q17', q7', lp0⟩) | exact ⟨hold_cell q17' ((Below.refl _ _).drew.trans hb1) lp0, hold_cell q7' ((Below.refl _ _).drew.trans hb1) lp0, Nat.lt_of_lt_of_le lp0 hb1.size⟩ | exact ⟨q17', q7', lp0⟩) (first | (go_at_call 119; refine (HA.out _).mono ?_; rintro e1 w1 ⟨rfl, hb1⟩; have hz1 := hb1.size; (try simp at hz1)))
  have X1 := blk_below (blk_drew X0) hb1
  have D1 : DoB w1 p x t sp a ss.length c o nxL false 0 0 0 := blk_below (blk_drew D0) hb1
  have hb01 : Below w.heap.size w w1 := Below.then hb00.drew hb1 (Nat.le_of_lt lx0)
  clear D0 X0 hb1 hz1 lp0 lx0 q7 q7' q17 q17' hb00
  have q13 : w1.cell? ⟨p, 13, none⟩ = some (.int .i64 t) := blk_cell D1 13 _ rfl
  have q14 : w1.cell? ⟨p, 14, none⟩ = some (.int .i64 sp) := blk_cell D1 14 _ rfl
  have q15 : w1.cell? ⟨p, 15, none⟩ = some (.slice a ss.length c) := blk_cell D1 15 _ rfl
  have q16 : w1.cell? ⟨p, 16, none⟩ = some (.int .i64 o.k) := blk_cell D1 16 _ rfl
  have q17 : w1.cell? ⟨p, 17, none⟩ = some (.int .i64 o.a) := blk_cell D1 17 _ rfl
  have q18 : w1.cell? ⟨p, 18, none⟩ = some (.int .i64 o.b) := blk_cell D1 18 _ rfl
  have q19 : w1.cell? ⟨p, 19, none⟩ = some (.int .i64 o.c) := blk_cell D1 19 _ rfl
  have q20 : w1.cell? ⟨p, 20, none⟩ = some (.int .i64 o.f) := blk_cell D1 20 _ rfl
  have q21 : w1.cell? ⟨p, 21, none⟩ = some (.int .i64 o.s) := blk_cell D1 21 _ rfl
  have q22 : w1.cell? ⟨p, 22, none⟩ = some (.int .i64 o.x) := blk_cell D1 22 _ rfl
  have q23 : w1.cell? ⟨p, 23, none⟩ = some (.int .i64 o.y) := blk_cell D1 23 _ rfl
  have q24 := blk_cell D1 24 _ rfl
  have f24 := blk_fz D1 24
  have lp := blk_lt D1
  have lx := blk_lt X1
  go_wp2_with fail
  refine (HP.out _ (HS.out.below hb01)).mono ?_; rintro e2 w2 ⟨rfl, hb2⟩
  have X2 := blk_below X1 hb2
  have D2 : DoB w2 p x t sp a ss.length c o nxL false 0 0 0 := blk_below D1 hb2
  have hb02 : Below w.heap.size w w2 := Below.then hb01 hb2 (Nat.le_of_lt lx)
  clear q13 q14 q15 q16 q17 q18 q19 q20 q21 q22 q23 q24 f24 lp
  clear D1 X1 hb2 hb01 lx
  have q13 : w2.cell? ⟨p, 13, none⟩ = some (.int .i64 t) := blk_cell D2 13 _ rfl
  have q14 : w2.cell? ⟨p, 14, none⟩ = some (.int .i64 sp) := blk_cell D2 14 _ rfl
  have q15 : w2.cell? ⟨p, 15, none⟩ = some (.slice a ss.length c) := blk_cell D2 15 _ rfl
  have q16 : w2.cell? ⟨p, 16, none⟩ = some (.int .i64 o.k) := blk_cell D2 16 _ rfl
  have q17 : w2.cell? ⟨p, 17, none⟩ = some (.int .i64 o.a) := blk_cell D2 17 _ rfl
  have q18 : w2.cell? ⟨p, 18, none⟩ = some (.int .i64 o.b) := blk_cell D2 18 _ rfl
  have q19 : w2.cell? ⟨p, 19, none⟩ = some (.int .i64 o.c) := blk_cell D2 19 _ rfl
  have q20 : w2.cell? ⟨p, 20, none⟩ = some (.int .i64 o.f) := blk_cell D2 20 _ rfl
  have q21 : w2.cell? ⟨p, 21, none⟩ = some (.int .i64 o.s) := blk_cell D2 21 _ rfl
  have q22 : w2.cell? ⟨p, 22, none⟩ = some (.int .i64 o.x) := blk_cell D2 22 _ rfl
  have q23 : w2.cell? ⟨p, 23, none⟩ = some (.int .i64 o.y) := blk_cell D2 23 _ rfl
  have q24 := blk_cell D2 24 _ rfl
  have f24 := blk_fz D2 24
  have lp := blk_lt D2
  have lx := blk_lt X2
  go_wp2_with fail
  have D2' : DoB (w2.alloc (.cells #[.int .i64 pk, .int .i64 pn, .int .i64 pa] 208)) p x t sp a ss.length c o nxL false 0 0 0 := blk_alloc D2 _
  have X2' := blk_alloc X2 (.cells #[.int .i64 pk, .int .i64 pn, .int .i64 pa] 208)
  have P2 : (w2.alloc (.cells #[.int .i64 pk, .int .i64 pn, .int .i64 pa] 208)).heap[w2.heap.size]? = some (.cells #[.int .i64 pk, .int .i64 pn, .int .i64 pa] 208 (0, 0)) := (MapKept.heap_alloc w2 _).1
  have hb02' : Below w.heap.size w (w2.alloc (.cells #[.int .i64 pk, .int .i64 pn, .int .i64 pa] 208)) := hb02.alloc (Nat.le_of_lt lx) _
  have hPp : ¬ w2.heap.size = p := by have := blk_lt D2; omega
  generalize (w2.alloc (.cells #[.int .i64 pk, .int .i64 pn, .int .i64 pa] 208)) = W2 at D2' X2' P2 hb02' ⊢
  generalize w2.heap.size = PB at P2 hPp ⊢
  clear q13 q14 q15 q16 q17 q18 q19 q20 q21 q22 q23 q24 f24 lp
  clear D2 X2 hb02 lx
  refine (HF.out _).mono ?_; rintro e3 w3 ⟨rfl, hb3⟩
  have X3 := blk_below X2' hb3
  have D3 : DoB w3 p x t sp a ss.length c o nxL false 0 0 0 := blk_below D2' hb3
  have P3 := blk_below P2 hb3
  have hb03 : Below w.heap.size w w3 := Below.then hb02' hb3 (Nat.le_of_lt (blk_lt X2'))
  clear D2' X2' P2 hb3 hb02'
  have q13 : w3.cell? ⟨p, 13, none⟩ = some (.int .i64 t) := blk_cell D3 13 _ rfl
  have q14 : w3.cell? ⟨p, 14, none⟩ = some (.int .i64 sp) := blk_cell D3 14 _ rfl
  have q15 : w3.cell? ⟨p, 15, none⟩ = some (.slice a ss.length c) := blk_cell D3 15 _ rfl
  have q16 : w3.cell? ⟨p, 16, none⟩ = some (.int .i64 o.k) := blk_cell D3 16 _ rfl
  have q17 : w3.cell? ⟨p, 17, none⟩ = some (.int .i64 o.a) := blk_cell D3 17 _ rfl
  have q18 : w3.cell? ⟨p, 18, none⟩ = some (.int .i64 o.b) := blk_cell D3 18 _ rfl
  have q19 : w3.cell? ⟨p, 19, none⟩ = some (.int .i64 o.c) := blk_cell D3 19 _ rfl
  have q20 : w3.cell? ⟨p, 20, none⟩ = some (.int .i64 o.f) := blk_cell D3 20 _ rfl
  have q21 : w3.cell? ⟨p, 21, none⟩ = some (.int .i64 o.s) := blk_cell D3 21 _ rfl
  have q22 : w3.cell? ⟨p, 22, none⟩ = some (.int .i64 o.x) := blk_cell D3 22 _ rfl
  have q23 : w3.cell? ⟨p, 23, none⟩ = some (.int .i64 o.y) := blk_cell D3 23 _ rfl
  have q24 := blk_cell D3 24 _ rfl
  have f24 := blk_fz D3 24
  have lp := blk_lt D3
  go_wp2_with fail
  refine (HZ.out _ (HS.out.below hb03)).mono ?_; rintro e4 w4 ⟨rfl, hb4⟩
  have X4 := blk_below X3 hb4
  have D4 : DoB w4 p x t sp a ss.length c o nxL false 0 0 0 := blk_below D3 hb4
  have P4 := blk_below P3 hb4
  have hb04 : Below w.heap.size w w4 := Below.then hb03 hb4 (Nat.le_of_lt (blk_lt X3))
  clear q13 q14 q15 q16 q17 q18 q19 q20 q21 q22 q23 q24 f24 lp
  clear D3 X3 P3 hb4 hb03
  go_wp2_with fail
  refine (HO.out _).mono ?_; rintro e5 w5 ⟨rfl, hb5⟩
  have X5 := blk_below X4 hb5
  have D5 : DoB w5 p x t sp a ss.length c o nxL false 0 0 0 := blk_below D4 hb5
  have P5 := blk_below P4 hb5
  have hb05 : Below w.heap.size w w5 := Below.then hb04 hb5 (Nat.le_of_lt (blk_lt X4))
  clear D4 X4 P4 hb5 hb04
  have q13 : w5.cell? ⟨p, 13, none⟩ = some (.int .i64 t) := blk_cell D5 13 _ rfl
  have q14 : w5.cell? ⟨p, 14, none⟩ = some (.int .i64 sp) := blk_cell D5 14 _ rfl
  have q15 : w5.cell? ⟨p, 15, none⟩ = some (.slice a ss.length c) := blk_cell D5 15 _ rfl
  have q16 : w5.cell? ⟨p, 16, none⟩ = some (.int .i64 o.k) := blk_cell D5 16 _ rfl
  have q17 : w5.cell? ⟨p, 17, none⟩ = some (.int .i64 o.a) := blk_cell D5 17 _ rfl
  have q18 : w5.cell? ⟨p, 18, none⟩ = some (.int .i64 o.b) := blk_cell D5 18 _ rfl
  have q19 : w5.cell? ⟨p, 19, none⟩ = some (.int .i64 o.c) := blk_cell D5 19 _ rfl
  have q20 : w5.cell? ⟨p, 20, none⟩ = some (.int .i64 o.f) := blk_cell D5 20 _ rfl
  have q21 : w5.cell? ⟨p, 21, none⟩ = some (.int .i64 o.s) := blk_cell D5 21 _ rfl
  have q22 : w5.cell? ⟨p, 22, none⟩ = some (.int .i64 o.x) := blk_cell D5 22 _ rfl
  have q23 : w5.cell? ⟨p, 23, none⟩ = some (.int .i64 o.y) := blk_cell D5 23 _ rfl
  have q24 := blk_cell D5 24 _ rfl
  have f24 := blk_fz D5 24
  have lp := blk_lt D5
  have p2 : w5.cell? ⟨PB, 2, none⟩ = some (.int .i64 pa) := blk_cell P5 2 _ rfl
  have lP := blk_lt P5
  go_wp2_with fail
  have D6 : DoB (w5.alloc (.cells #[.int .i64 hsh, .int .i64 hmk] 130)) p x t sp a ss.length c o nxL false 0 0 0 := blk_alloc D5 _
  have X6 := blk_alloc X5 (.cells #[.int .i64 hsh, .int .i64 hmk] 130)
  have P6 := blk_alloc P5 (.cells #[.int .i64 hsh, .int .i64 hmk] 130)
  have H6 : (w5.alloc (.cells #[.int .i64 hsh, .int .i64 hmk] 130)).heap[w5.heap.size]? = some (.cells #[.int .i64 hsh, .int .i64 hmk] 130 (0, 0)) := (MapKept.heap_alloc w5 _).1
  have hb06 : Below w.heap.size w (w5.alloc (.cells #[.int .i64 hsh, .int .i64 hmk] 130)) := hb05.alloc (Nat.le_of_lt (blk_lt X5)) _
  generalize (w5.alloc (.cells #[.int .i64 hsh, .int .i64 hmk] 130)) = W6 at D6 X6 P6 H6 hb06 ⊢
  generalize w5.heap.size = HB at H6 ⊢
  clear q13 q14 q15 q16 q17 q18 q19 q20 q21 q22 q23 q24 f24 lp
  clear D5 X5 P5 hb05 p2 lP
  have q13 : W6.cell? ⟨p, 13, none⟩ = some (.int .i64 t) := blk_cell D6 13 _ rfl
  have q14 : W6.cell? ⟨p, 14, none⟩ = some (.int .i64 sp) := blk_cell D6 14 _ rfl
  have q15 : W6.cell? ⟨p, 15, none⟩ = some (.slice a ss.length c) := blk_cell D6 15 _ rfl
  have q16 : W6.cell? ⟨p, 16, none⟩ = some (.int .i64 o.k) := blk_cell D6 16 _ rfl
  have q17 : W6.cell? ⟨p, 17, none⟩ = some (.int .i64 o.a) := blk_cell D6 17 _ rfl
  have q18 : W6.cell? ⟨p, 18, none⟩ = some (.int .i64 o.b) := blk_cell D6 18 _ rfl
  have q19 : W6.cell? ⟨p, 19, none⟩ = some (.int .i64 o.c) := blk_cell D6 19 _ rfl
  have q20 : W6.cell? ⟨p, 20, none⟩ = some (.int .i64 o.f) := blk_cell D6 20 _ rfl
  have q21 : W6.cell? ⟨p, 21, none⟩ = some (.int .i64 o.s) := blk_cell D6 21 _ rfl
  have q22 : W6.cell? ⟨p, 22, none⟩ = some (.int .i64 o.x) := blk_cell D6 22 _ rfl
  have q23 : W6.cell? ⟨p, 23, none⟩ = some (.int .i64 o.y) := blk_cell D6 23 _ rfl
  have q24 := blk_cell D6 24 _ rfl
  have f24 := blk_fz D6 24
  have lp := blk_lt D6
  have p2 : W6.cell? ⟨PB, 2, none⟩ = some (.int .i64 pa) := blk_cell P6 2 _ rfl
  have lP := blk_lt P6
  have lH := blk_lt H6
  have lx := blk_lt X6
  have hh : W6.cell? ⟨HB, 0, none⟩ = some (.int .i64 hsh) := blk_cell H6 0 _ rfl
  by_cases hz0 : ze ≠ 0
  · have g1 : (ze != 0) = true := bne_iff_ne.2 hz0
    have HG := Lib.hid (show E = 240 from by rw [← hE.out, if_pos (show ze ≠ 0 ∨ sp - pa < zn from .inl hz0)])
    clear hz0
    go_region
    go_wp2_with fail
    refine (HE.out 240 0 0 _ (blk_drew D6)).mono ?_
    rintro r w9 ⟨rfl, ho9, hd9⟩
    have X9 := ho9.blk (show ¬ w.heap.size = p by omega) (blk_drew X6)
    have x0 : w9.cell? ⟨w.heap.size, 0, none⟩ = some (.int .i64 0) := blk_cell X9 0 _ rfl
    have x1 : w9.cell? ⟨w.heap.size, 1, none⟩ = some (.int .i64 0) := blk_cell X9 1 _ rfl
    have x2 : w9.cell? ⟨w.heap.size, 2, none⟩ = some (.int .u64 0) := blk_cell X9 2 _ rfl
    have x3 : w9.cell? ⟨w.heap.size, 3, none⟩ = some (.int .u64 0) := blk_cell X9 3 _ rfl
    have y0 := blk_fz X9 0
    have y1 := blk_fz X9 1
    have y2 := blk_fz X9 2
    have y3 := blk_fz X9 3
    have lX := blk_lt X9
    have hO9 : Only (· = p) w w9 := (Only.of hb06.drew).trans ho9
    clear ho9
    go_wp2
    refine bodyPost_ret (v := .tuple #[.agg #[.int .i64 0, .int .i64 0, .int .u64 0, .int .u64 0], .bool false]) (by simp [results, Try.results120, go_sem, World.cell?_setCell_same', cell_off, *]) rfl ⟨rfl, by (repeat (first | (with_reducible exact Only.refl _ _) | (with_reducible assumption) | (with_reducible refine Only.drew ?_) | (with_reducible refine Only.drewN ?_ _) | (with_reducible refine Only.alloc ?_ _) | (with_reducible refine Only.setCell ?_ (by first | exact .inl rfl | (right; first | omega | (simp; done) | (simp; omega)) | (left; simp; done)) _) | (with_reducible refine Only.then ?_ hb9) | (with_reducible refine Only.then ?_ hb8) | (with_reducible refine Only.then ?_ hb7) | (with_reducible refine Only.then ?_ hb6) | (with_reducible refine Only.then ?_ hb5) | (with_reducible refine Only.then ?_ hb4) | (with_reducible refine Only.then ?_ hb3) | (with_reducible refine Only.then ?_ hb2) | (with_reducible refine Only.then ?_ hb1))), ?_⟩
    rw [← hOO.out, ← hAA.out, HG.out, if_neg (by decide), if_neg (by decide)]
    (repeat (first | (with_reducible exact hd9) | (with_reducible refine blk_drew ?_) | (with_reducible refine blk_alloc ?_ _) | (with_reducible refine blk_off ?_ _ _ (by first | omega | (simp; omega)))))
  · have hz1 : ze = 0 := Classical.byContradiction hz0
    subst hz1
    clear hz0
    by_cases hz2 : sp - pa < zn
    · have g2 : decide (zn > sp - pa) = true := decide_eq_true hz2
      have HG := Lib.hid (show E = 240 from by rw [← hE.out, if_pos (show (0 : Int) ≠ 0 ∨ sp - pa < zn from .inr hz2)])
      clear hE
      go_region
      go_wp2_with fail
      refine (HE.out 240 0 0 _ (blk_drew D6)).mono ?_
      rintro r w9 ⟨rfl, ho9, hd9⟩
      have X9 := ho9.blk (show ¬ w.heap.size = p by omega) (blk_drew X6)
      have x0 : w9.cell? ⟨w.heap.size, 0, none⟩ = some (.int .i64 0) := blk_cell X9 0 _ rfl
      have x1 : w9.cell? ⟨w.heap.size, 1, none⟩ = some (.int .i64 0) := blk_cell X9 1 _ rfl
      have x2 : w9.cell? ⟨w.heap.size, 2, none⟩ = some (.int .u64 0) := blk_cell X9 2 _ rfl
      have x3 : w9.cell? ⟨w.heap.size, 3, none⟩ = some (.int .u64 0) := blk_cell X9 3 _ rfl
      have y0 := blk_fz X9 0
      have y1 := blk_fz X9 1
      have y2 := blk_fz X9 2
      have y3 := blk_fz X9 3
      have lX := blk_lt X9
      have hO9 : Only (· = p) w w9 := (Only.of hb06.drew).trans ho9
      clear ho9
      go_wp2
      refine bodyPost_ret (v := .tuple #[.agg #[.int .i64 0, .int .i64 0, .int .u64 0, .int .u64 0], .bool false]) (by simp [results, Try.results120, go_sem, World.cell?_setCell_same', cell_off, *]) rfl ⟨rfl, by (repeat (first | (with_reducible exact Only.refl _ _) | (with_reducible assumption) | (with_reducible refine Only.drew ?_) | (with_reducible refine Only.drewN ?_ _) | (with_reducible refine Only.alloc ?_ _) | (with_reducible refine Only.setCell ?_ (by first | exact .inl rfl | (right; first | omega | (simp; done) | (simp; omega)) | (left; simp; done)) _) | (with_reducible refine Only.then ?_ hb9) | (with_reducible refine Only.then ?_ hb8) | (with_reducible refine Only.then ?_ hb7) | (with_reducible refine Only.then ?_ hb6) | (with_reducible refine Only.then ?_ hb5) | (with_reducible refine Only.then ?_ hb4) | (with_reducible refine Only.then ?_ hb3) | (with_reducible refine Only.then ?_ hb2) | (with_reducible refine Only.then ?_ hb1))), ?_⟩
      rw [← hOO.out, ← hAA.out, HG.out, if_neg (by decide), if_neg (by decide)]
      (repeat (first | (with_reducible exact hd9) | (with_reducible refine blk_drew ?_) | (with_reducible refine blk_alloc ?_ _) | (with_reducible refine blk_off ?_ _ _ (by first | omega | (simp; omega)))))
    · have HG := Lib.hid (show E = ie from by rw [← hE.out, if_neg (by omega)])
      have g2 : decide (zn > sp - pa) = false := decide_eq_false (by omega)
      have hz3 : ¬ zn > sp - pa := by omega
      clear hE hz2
      go_region
      go_wp2_with fail
      have D7 := blk_drew D6
      have X7 := blk_drew X6
      have H7 := blk_drew H6
      have hb07 := hb06.drew
      have hS7 := HS.out.below hb07
      clear q13 q14 q15 q16 q17 q18 q19 q20 q21 q22 q23 q24 f24 lp
      clear D6 X6 P6 H6 hb06 p2 lP lH lx hh
      generalize W6.drew = W7 at D7 X7 H7 hb07 hS7 ⊢
      have q15 : W7.cell? ⟨p, 15, none⟩ = some (.slice a ss.length c) := blk_cell D7 15 _ rfl
      have q20 : W7.cell? ⟨p, 20, none⟩ = some (.int .i64 o.f) := blk_cell D7 20 _ rfl
      have hh : W7.cell? ⟨HB, 0, none⟩ = some (.int .i64 hsh) := blk_cell H7 0 _ rfl
      have lp := blk_lt D7
      have lH := blk_lt H7
      go_region_held3 (fun A => A.cell? ⟨p, 15, none⟩ = some (.slice a ss.length c) ∧ A.cell? ⟨p, 20, none⟩ = some (.int .i64 o.f) ∧ A.cell? ⟨HB, 0, none⟩ = some (.int .i64 hsh)) (first | (with_reducible exact ⟨q15, q20, hh⟩) | exact ⟨hold_cell q15 ((Below.refl _ _).drew.trans hb8) lp, hold_cell q20 ((Below.refl _ _).drew.trans hb8) lp, hold_cell hh ((Below.refl _ _).drew.trans hb8) lH⟩ | exact ⟨q15, q20, hh⟩) (first | (go_at_call 139; refine (HI.out _ hS7.drew).mono ?_; rintro e8 w8 ⟨rfl, hb8⟩))
      have X8 := blk_below (blk_drew X7) hb8
      have D8 : DoB w8 p x t sp a ss.length c o nxL false 0 0 0 := blk_below (blk_drew D7) hb8
      have hb08 : Below w.heap.size w w8 := Below.then hb07.drew hb8 (Nat.le_of_lt (blk_lt X7))
      clear D7 X7 H7 hb8 hb07 hS7 q15 q20 hh lH lp
      have q20 : w8.cell? ⟨p, 20, none⟩ = some (.int .i64 o.f) := blk_cell D8 20 _ rfl
      have lp := blk_lt D8
      by_cases hi0 : ie = 0
      · obtain ⟨f0, f8⟩ := HIF.out hi0
        have eE := HG.out.trans hi0
        subst hi0
        have hw1 : IntKind.i64.wrap (AV + 2) = AV + 2 := IntWalk.i64_in _ (by omega)
        have hw2 : IntKind.i64.wrap (AV + 2 + o.f) = AV + 2 + o.f := IntWalk.i64_in _ (by omega)
        have HG' := Lib.hid eE
        clear HG eE HIF
        go_wp2_with fail
        refine (HE.out 0 AV (AV + 2 + o.f) _ D8).mono ?_
        rintro r w9 ⟨rfl, ho9, hd9⟩
        have X9 := ho9.blk (show ¬ w.heap.size = p by omega) X8
        have x0 : w9.cell? ⟨w.heap.size, 0, none⟩ = some (.int .i64 0) := blk_cell X9 0 _ rfl
        have x1 : w9.cell? ⟨w.heap.size, 1, none⟩ = some (.int .i64 0) := blk_cell X9 1 _ rfl
        have x2 : w9.cell? ⟨w.heap.size, 2, none⟩ = some (.int .u64 0) := blk_cell X9 2 _ rfl
        have x3 : w9.cell? ⟨w.heap.size, 3, none⟩ = some (.int .u64 0) := blk_cell X9 3 _ rfl
        have y0 := blk_fz X9 0
        have y1 := blk_fz X9 1
        have y2 := blk_fz X9 2
        have y3 := blk_fz X9 3
        have lX := blk_lt X9
        have hO9 : Only (· = p) w w9 := (Only.of hb08).trans ho9
        clear ho9
        go_wp2
        refine bodyPost_ret (v := .tuple #[.agg #[.int .i64 0, .int .i64 0, .int .u64 0, .int .u64 0], .bool false]) (by simp [results, Try.results120, go_sem, World.cell?_setCell_same', cell_off, *]) rfl ⟨rfl, by (repeat (first | (with_reducible exact Only.refl _ _) | (with_reducible assumption) | (with_reducible refine Only.drew ?_) | (with_reducible refine Only.drewN ?_ _) | (with_reducible refine Only.alloc ?_ _) | (with_reducible refine Only.setCell ?_ (by first | exact .inl rfl | (right; first | omega | (simp; done) | (simp; omega)) | (left; simp; done)) _) | (with_reducible refine Only.then ?_ hb9) | (with_reducible refine Only.then ?_ hb8) | (with_reducible refine Only.then ?_ hb7) | (with_reducible refine Only.then ?_ hb6) | (with_reducible refine Only.then ?_ hb5) | (with_reducible refine Only.then ?_ hb4) | (with_reducible refine Only.then ?_ hb3) | (with_reducible refine Only.then ?_ hb2) | (with_reducible refine Only.then ?_ hb1))), ?_⟩
        rw [← hOO.out, ← hAA.out, if_pos HG'.out, if_pos HG'.out, HG'.out]
        (repeat (first | (with_reducible exact hd9) | (with_reducible refine blk_drew ?_) | (with_reducible refine blk_alloc ?_ _) | (with_reducible refine blk_off ?_ _ _ (by first | omega | (simp; omega)))))
      · have g8 : (ie != 0) = true := bne_iff_ne.2 hi0
        have eE := Lib.hid (show ¬ E = 0 from by rw [HG.out]; exact hi0)
        clear hi0 HIF
        go_wp2_with fail
        refine (HE.out ie 0 0 _ D8).mono ?_
        rintro r w9 ⟨rfl, ho9, hd9⟩
        have X9 := ho9.blk (show ¬ w.heap.size = p by omega) X8
        have x0 : w9.cell? ⟨w.heap.size, 0, none⟩ = some (.int .i64 0) := blk_cell X9 0 _ rfl
        have x1 : w9.cell? ⟨w.heap.size, 1, none⟩ = some (.int .i64 0) := blk_cell X9 1 _ rfl
        have x2 : w9.cell? ⟨w.heap.size, 2, none⟩ = some (.int .u64 0) := blk_cell X9 2 _ rfl
        have x3 : w9.cell? ⟨w.heap.size, 3, none⟩ = some (.int .u64 0) := blk_cell X9 3 _ rfl
        have y0 := blk_fz X9 0
        have y1 := blk_fz X9 1
        have y2 := blk_fz X9 2
        have y3 := blk_fz X9 3
        have lX := blk_lt X9
        have hO9 : Only (· = p) w w9 := (Only.of hb08).trans ho9
        clear ho9
        go_wp2
        refine bodyPost_ret (v := .tuple #[.agg #[.int .i64 0, .int .i64 0, .int .u64 0, .int .u64 0], .bool false]) (by simp [results, Try.results120, go_sem, World.cell?_setCell_same', cell_off, *]) rfl ⟨rfl, by (repeat (first | (with_reducible exact Only.refl _ _) | (with_reducible assumption) | (with_reducible refine Only.drew ?_) | (with_reducible refine Only.drewN ?_ _) | (with_reducible refine Only.alloc ?_ _) | (with_reducible refine Only.setCell ?_ (by first | exact .inl rfl | (right; first | omega | (simp; done) | (simp; omega)) | (left; simp; done)) _) | (with_reducible refine Only.then ?_ hb9) | (with_reducible refine Only.then ?_ hb8) | (with_reducible refine Only.then ?_ hb7) | (with_reducible refine Only.then ?_ hb6) | (with_reducible refine Only.then ?_ hb5) | (with_reducible refine Only.then ?_ hb4) | (with_reducible refine Only.then ?_ hb3) | (with_reducible refine Only.then ?_ hb2) | (with_reducible refine Only.then ?_ hb1))), ?_⟩
        rw [← hOO.out, ← hAA.out, if_neg eE.out, if_neg eE.out, HG.out]
        (repeat (first | (with_reducible exact hd9) | (with_reducible refine blk_drew ?_) | (with_reducible refine blk_alloc ?_ _) | (with_reducible refine blk_off ?_ _ _ (by first | omega | (simp; omega)))))
end Go.Proofs.Ytafenndokmccoaa
