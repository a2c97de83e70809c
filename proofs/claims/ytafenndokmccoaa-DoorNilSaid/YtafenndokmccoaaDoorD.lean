/- The layer 'door': its machine's steps. -/
import Derived.Test.YtafenndokmccoaaDoorC
import Derived.Test.YtafenndokmccoaaOpKd
import Derived.Deep.RegionWith
namespace Go.Proofs.Ytafenndokmccoaa
open Go.RowKit
set_option linter.unusedVariables false
set_option linter.unusedSimpArgs false

/-- a machine's cells: at which place it stands, what came of it -/
def doA (x : ThN) (t sp : Int) (a : Option Addr) (n c : Nat) (o : OpN) (nx : Value) (ov : Bool) (e ob at_ : Int) : Array Value :=
  #[.int .i64 x.n, .int .i64 x.ph, .int .i64 x.ep, .int .i64 x.s, .int .i64 x.ls, .int .i64 x.la, .int .i64 x.ll, .int .u64 x.r0, .int .u64 x.r1, .int .u64 x.r2, .int .u64 x.r3, .int .u64 x.r4, .int .u64 x.r5, .int .i64 t, .int .i64 sp, .slice a n c,
    .int .i64 o.k, .int .i64 o.a, .int .i64 o.b, .int .i64 o.c, .int .i64 o.f, .int .i64 o.s, .int .i64 o.x, .int .i64 o.y, nx, .bool ov, .int .i64 e, .int .i64 ob, .int .i64 at_]
abbrev DoB (W : World) (p : Nat) (x : ThN) (t sp : Int) (a : Option Addr) (n c : Nat) (o : OpN) (nx : Value) (ov : Bool) (e ob at_ : Int) : Prop := W.heap[p]? = some (.cells (doA x t sp a n c o nx ov e ob at_) 105 (0, 0))
abbrev nxB : Value := .func (.func 99) #[] #[]
abbrev nxL : Value := .func (.func 120) #[] #[]
def rootN (x : ThN) (i : Int) : Int := if i = 0 then x.r0 else if i = 1 then x.r1 else if i = 2 then x.r2 else if i = 3 then x.r3 else if i = 4 then x.r4 else x.r5

theorem dEnd_to (p : Nat) (x : ThN) (t sp : Int) (a : Option Addr) (n c : Nat) (o : OpN) (nx : Value) (ov : Bool) (e0 ob0 at0 e ob at_ : Int) (w : World) (h : DoB w p x t sp a n c o nx ov e0 ob0 at0) :
    Calls Try.prog 121 #[.pointer (some ⟨p, 0, none⟩), .agg #[.int .i64 e, .int .i64 ob, .int .i64 at_]] w fun r w' =>
      r = .returned (.tuple #[.agg #[.int .i64 0, .int .i64 0, .int .u64 0, .int .u64 0], .bool false]) ∧ Only (· = p) w w' ∧ DoB w' p x t sp a n c o .nilFunc true e ob at_ :=
  (dEnd_calls p (doA x t sp a n c o nx ov e0 ob0 at0) (Nat.le_refl 29) e ob at_ w h).mono fun r w' ⟨h1, h2, h3⟩ => ⟨h1, h2, h3⟩

set_option maxRecDepth 100000 in
set_option maxHeartbeats 3200000 in
theorem dBegin_bad (p : Nat) (x : ThN) (t sp : Int) (a : Option Addr) (c : Nat) (ss : List ByteArray) (hn : ss.length ≤ maxLen) (o : OpN) (ans : Int) (hck : checkO ss o ≠ 0) (w : World) (h : DoB w p x t sp a ss.length c o nxB false 0 0 0) (hs : SlOf w a (strV ss)) :
    Calls Try.prog 99 #[.pointer (some ⟨p, 0, none⟩), .int .u64 ans] w fun r w' =>
      r = .returned (.tuple #[.agg #[.int .i64 0, .int .i64 0, .int .u64 0, .int .u64 0], .bool false]) ∧ Only (· = p) w w' ∧ DoB w' p x t sp a ss.length c o .nilFunc true (checkO ss o) 0 0 := by
  have hC := fun W h => opCheck_calls a c ss hn o W h
  have HE := Lib.hid (fun e W h => dEnd_to p x t sp a ss.length c o nxB false 0 0 0 e 0 0 W h)
  have g1 : (checkO ss o != 0) = true := bne_iff_ne.2 hck
  generalize checkO ss o = e at hC g1
  unfold opVal at hC
  have HC := Lib.hid hC
  have HS := Lib.hid hs
  have HD := Lib.hid h
  have q13 : w.cell? ⟨p, 13, none⟩ = some (.int .i64 t) := blk_cell h 13 _ rfl
  have q14 : w.cell? ⟨p, 14, none⟩ = some (.int .i64 sp) := blk_cell h 14 _ rfl
  have q15 : w.cell? ⟨p, 15, none⟩ = some (.slice a ss.length c) := blk_cell h 15 _ rfl
  have q16 : w.cell? ⟨p, 16, none⟩ = some (.int .i64 o.k) := blk_cell h 16 _ rfl
  have q17 : w.cell? ⟨p, 17, none⟩ = some (.int .i64 o.a) := blk_cell h 17 _ rfl
  have q18 : w.cell? ⟨p, 18, none⟩ = some (.int .i64 o.b) := blk_cell h 18 _ rfl
  have q19 : w.cell? ⟨p, 19, none⟩ = some (.int .i64 o.c) := blk_cell h 19 _ rfl
  have q20 : w.cell? ⟨p, 20, none⟩ = some (.int .i64 o.f) := blk_cell h 20 _ rfl
  have q21 : w.cell? ⟨p, 21, none⟩ = some (.int .i64 o.s) := blk_cell h 21 _ rfl
  have q22 : w.cell? ⟨p, 22, none⟩ = some (.int .i64 o.x) := blk_cell h 22 _ rfl
  have q23 : w.cell? ⟨p, 23, none⟩ = some (.int .i64 o.y) := blk_cell h 23 _ rfl
  have q24 := blk_cell h 24 _ rfl
  have f24 := blk_fz h 24
  have lp := blk_lt h
  clear h hs hC hck
  go_enter Try.func99, Try.ntmps99
  go_wp2_with fail
  refine wp_scope_once 0 rfl ?_
  go_wp2_with fail
  go_region_with (go_at_call 118; refine (HC.out _ (HS.out.alloc _).drew).mono ?_; rintro e1 w1 ⟨rfl, hb1⟩; obtain ⟨hc1, hf1⟩ := bcell hb1; have hz1 := hb1.size; (try simp at hz1))
  all_goals
    go_wp2_with fail
    have D1 : DoB w1 p x t sp a ss.length c o nxB false 0 0 0 := blk_below (blk_drew (blk_alloc HD.out _)) hb1
    have X1 : w1.heap[w.heap.size]? = some (.cells #[.int .i64 0, .int .i64 0, .int .u64 0, .int .u64 0] 44 (0, 0)) := (hb1.block _ (by simp)).trans (MapKept.heap_alloc w _).1
    go_step3
    refine ⟨rfl, ?_⟩
    go_wp2_with fail
    have hb01 : Below w.heap.size w w1 := by (repeat (first | exact Below.refl _ _ | (with_reducible assumption) | refine Below.drew ?_ | refine Below.drewN' ?_ _ | refine Below.alloc ?_ (by first | omega | (simp; done) | (simp; omega)) _ | refine Below.setCell ?_ (by first | omega | (simp; done) | (simp; omega)) _ | refine Below.then ?_ hb9 (by first | omega | (simp; done) | (simp; omega)) | refine Below.then ?_ hb8 (by first | omega | (simp; done) | (simp; omega)) | refine Below.then ?_ hb7 (by first | omega | (simp; done) | (simp; omega)) | refine Below.then ?_ hb6 (by first | omega | (simp; done) | (simp; omega)) | refine Below.then ?_ hb5 (by first | omega | (simp; done) | (simp; omega)) | refine Below.then ?_ hb4 (by first | omega | (simp; done) | (simp; omega)) | refine Below.then ?_ hb3 (by first | omega | (simp; done) | (simp; omega)) | refine Below.then ?_ hb2 (by first | omega | (simp; done) | (simp; omega)) | refine Below.then ?_ hb1 (by first | omega | (simp; done) | (simp; omega))))
    refine (HE.out e _ D1).mono ?_
    rintro r w9 ⟨rfl, ho9, hd9⟩
    have X9 := ho9.blk (show ¬ w.heap.size = p by omega) X1
    have x0 : w9.cell? ⟨w.heap.size, 0, none⟩ = some (.int .i64 0) := blk_cell X9 0 _ rfl
    have x1 : w9.cell? ⟨w.heap.size, 1, none⟩ = some (.int .i64 0) := blk_cell X9 1 _ rfl
    have x2 : w9.cell? ⟨w.heap.size, 2, none⟩ = some (.int .u64 0) := blk_cell X9 2 _ rfl
    have x3 : w9.cell? ⟨w.heap.size, 3, none⟩ = some (.int .u64 0) := blk_cell X9 3 _ rfl
    have y0 := blk_fz X9 0
    have y1 := blk_fz X9 1
    have y2 := blk_fz X9 2
    have y3 := blk_fz X9 3
    have lX := blk_lt X9
    have hO9 : Only (· = p) w w9 := (Only.of hb01).trans ho9
    clear ho9
    clear X1 D1 hb1
    go_wp2
    rw [Exit.noGoto_ret]
    refine bodyPost_ret (v := .tuple #[.agg #[.int .i64 0, .int .i64 0, .int .u64 0, .int .u64 0], .bool false]) (by simp [results, Try.results99, go_sem, World.cell?_setCell_same', cell_off, *]) rfl ⟨rfl, by (repeat (first | (with_reducible exact Only.refl _ _) | (with_reducible assumption) | (with_reducible refine Only.drew ?_) | (with_reducible refine Only.drewN ?_ _) | (with_reducible refine Only.alloc ?_ _) | (with_reducible refine Only.setCell ?_ (by first | exact .inl rfl | (right; first | omega | (simp; done) | (simp; omega)) | (left; simp; done)) _) | (with_reducible refine Only.then ?_ hb9) | (with_reducible refine Only.then ?_ hb8) | (with_reducible refine Only.then ?_ hb7) | (with_reducible refine Only.then ?_ hb6) | (with_reducible refine Only.then ?_ hb5) | (with_reducible refine Only.then ?_ hb4) | (with_reducible refine Only.then ?_ hb3) | (with_reducible refine Only.then ?_ hb2) | (with_reducible refine Only.then ?_ hb1))), ?_⟩
    (repeat (first | (with_reducible exact hd9) | (with_reducible refine blk_drew ?_) | (with_reducible refine blk_alloc ?_ _) | (with_reducible refine blk_off ?_ _ _ (by first | omega | (simp; omega)))))

theorem rootN_range {x : ThN} (hx : ThOk x) (i : Int) : 0 ≤ rootN x i ∧ rootN x i < 18446744073709551616 := by
  unfold rootN
  repeat' split
  · exact hx.r0
  · exact hx.r1
  · exact hx.r2
  · exact hx.r3
  · exact hx.r4
  · exact hx.r5
theorem root_cell (x : ThN) (t sp : Int) (a : Option Addr) (n c : Nat) (o : OpN) (nx : Value) (ov : Bool) (e ob at_ : Int) (i : Nat) (hi : i < 6) : (doA x t sp a n c o nx ov e ob at_)[7 + i]? = some (.int .u64 (rootN x i)) := by
  obtain rfl | rfl | rfl | rfl | rfl | rfl : i = 0 ∨ i = 1 ∨ i = 2 ∨ i = 3 ∨ i = 4 ∨ i = 5 := by omega
  all_goals rfl
theorem check_slots {ss : List ByteArray} {o : OpN} (h : checkO ss o = 0) : tableB ss = true ∧ bareB o = true ∧ (0 ≤ o.a ∧ o.a < 6) := by
  unfold checkO at h
  cases ht : tableB ss with
  | false => rw [ht, if_pos rfl] at h; cases h
  | true =>
    cases hb : bareB o with
    | false => rw [ht, if_neg (by decide), hb, if_pos rfl] at h; cases h
    | true =>
      cases hs : slotB o with
      | false => rw [ht, if_neg (by decide), hb, if_neg (by decide), hs, if_pos rfl] at h; cases h
      | true =>
        unfold slotB at hs
        rw [decide_eq_true_eq] at hs
        exact ⟨rfl, rfl, hs.1, hs.2.1⟩

set_option maxRecDepth 100000 in
set_option maxHeartbeats 3200000 in
theorem dBegin_null (p : Nat) (x : ThN) (hx : ThOk x) (t sp : Int) (a : Option Addr) (c : Nat) (ss : List ByteArray) (hn : ss.length ≤ maxLen) (o : OpN) (ans : Int) (hck : checkO ss o = 0) (hro : adrB (rootN x o.a) = false) (w : World) (h : DoB w p x t sp a ss.length c o nxB false 0 0 0) (hs : SlOf w a (strV ss)) :
    Calls Try.prog 99 #[.pointer (some ⟨p, 0, none⟩), .int .u64 ans] w fun r w' =>
      r = .returned (.tuple #[.agg #[.int .i64 0, .int .i64 0, .int .u64 0, .int .u64 0], .bool false]) ∧ Only (· = p) w w' ∧ DoB w' p x t sp a ss.length c o .nilFunc true 183 0 0 := by
  have hC := fun W h => opCheck_calls a c ss hn o W h
  have HE := Lib.hid (fun W h => dEnd_to p x t sp a ss.length c o nxB false 0 0 0 183 0 0 W h)
  obtain ⟨_, _, ha0, ha6⟩ := check_slots hck
  rw [hck] at hC
  have hr := rootN_range hx o.a
  have hA := fun W => wAddress_calls (rootN x o.a) hr.1 hr.2 W
  rw [hro] at hA
  obtain ⟨i, hi⟩ := Int.eq_ofNat_of_zero_le ha0
  have hi6 : i < 6 := by omega
  have hrc := root_cell x t sp a ss.length c o nxB false 0 0 0 i hi6
  have q7 : w.cell? ⟨p, 7 + i, none⟩ = some (.int .u64 (rootN x (i : Int))) := blk_cell h (7 + i) _ hrc
  unfold opVal at hC
  have HD := Lib.hid h
  have q13 : w.cell? ⟨p, 13, none⟩ = some (.int .i64 t) := blk_cell h 13 _ rfl
  have q14 : w.cell? ⟨p, 14, none⟩ = some (.int .i64 sp) := blk_cell h 14 _ rfl
  have q15 : w.cell? ⟨p, 15, none⟩ = some (.slice a ss.length c) := blk_cell h 15 _ rfl
  have q16 : w.cell? ⟨p, 16, none⟩ = some (.int .i64 o.k) := blk_cell h 16 _ rfl
  have q17 : w.cell? ⟨p, 17, none⟩ = some (.int .i64 o.a) := blk_cell h 17 _ rfl
  have q18 : w.cell? ⟨p, 18, none⟩ = some (.int .i64 o.b) := blk_cell h 18 _ rfl
  have q19 : w.cell? ⟨p, 19, none⟩ = some (.int .i64 o.c) := blk_cell h 19 _ rfl
  have q20 : w.cell? ⟨p, 20, none⟩ = some (.int .i64 o.f) := blk_cell h 20 _ rfl
  have q21 : w.cell? ⟨p, 21, none⟩ = some (.int .i64 o.s) := blk_cell h 21 _ rfl
  have q22 : w.cell? ⟨p, 22, none⟩ = some (.int .i64 o.x) := blk_cell h 22 _ rfl
  have q23 : w.cell? ⟨p, 23, none⟩ = some (.int .i64 o.y) := blk_cell h 23 _ rfl
  have q24 := blk_cell h 24 _ rfl
  have f24 := blk_fz h 24
  have lp := blk_lt h
  rw [hi] at hA hC q17 hro ha0 ha6
  generalize hR : rootN x (i : Int) = R at hA q7 hro
  have HC := Lib.hid hC
  have HS := Lib.hid hs
  have HA := Lib.hid hA
  have HI := Lib.hid hi
  clear h hs hC hck hA hrc hr hR hro hi
  go_enter Try.func99, Try.ntmps99
  go_wp2_with fail
  refine wp_scope_once 0 rfl ?_
  go_wp2_with fail
  go_region_with (go_at_call 118; refine (HC.out _ (HS.out.alloc _).drew).mono ?_; rintro e1 w1 ⟨rfl, hb1⟩; obtain ⟨hc1, hf1⟩ := bcell hb1; have hz1 := hb1.size; (try simp at hz1))
  all_goals
    have D1 : DoB w1 p x t sp a ss.length c o nxB false 0 0 0 := blk_below (blk_drew (blk_alloc HD.out _)) hb1
    have X1 : w1.heap[w.heap.size]? = some (.cells #[.int .i64 0, .int .i64 0, .int .u64 0, .int .u64 0] 44 (0, 0)) := (hb1.block _ (by simp)).trans (MapKept.heap_alloc w _).1
    have hb01 : Below w.heap.size w w1 := by (repeat (first | exact Below.refl _ _ | (with_reducible assumption) | refine Below.drew ?_ | refine Below.drewN' ?_ _ | refine Below.alloc ?_ (by first | omega | (simp; done) | (simp; omega)) _ | refine Below.setCell ?_ (by first | omega | (simp; done) | (simp; omega)) _ | refine Below.then ?_ hb9 (by first | omega | (simp; done) | (simp; omega)) | refine Below.then ?_ hb8 (by first | omega | (simp; done) | (simp; omega)) | refine Below.then ?_ hb7 (by first | omega | (simp; done) | (simp; omega)) | refine Below.then ?_ hb6 (by first | omega | (simp; done) | (simp; omega)) | refine Below.then ?_ hb5 (by first | omega | (simp; done) | (simp; omega)) | refine Below.then ?_ hb4 (by first | omega | (simp; done) | (simp; omega)) | refine Below.then ?_ hb3 (by first | omega | (simp; done) | (simp; omega)) | refine Below.then ?_ hb2 (by first | omega | (simp; done) | (simp; omega)) | refine Below.then ?_ hb1 (by first | omega | (simp; done) | (simp; omega))))
    replace q7 := hold_cell (w2 := w1) q7 (by (repeat (first | exact Below.refl _ _ | (with_reducible assumption) | refine Below.drew ?_ | refine Below.drewN' ?_ _ | refine Below.alloc ?_ (by first | omega | (simp; done) | (simp; omega)) _ | refine Below.setCell ?_ (by first | omega | (simp; done) | (simp; omega)) _ | refine Below.then ?_ hb9 (by first | omega | (simp; done) | (simp; omega)) | refine Below.then ?_ hb8 (by first | omega | (simp; done) | (simp; omega)) | refine Below.then ?_ hb7 (by first | omega | (simp; done) | (simp; omega)) | refine Below.then ?_ hb6 (by first | omega | (simp; done) | (simp; omega)) | refine Below.then ?_ hb5 (by first | omega | (simp; done) | (simp; omega)) | refine Below.then ?_ hb4 (by first | omega | (simp; done) | (simp; omega)) | refine Below.then ?_ hb3 (by first | omega | (simp; done) | (simp; omega)) | refine Below.then ?_ hb2 (by first | omega | (simp; done) | (simp; omega)) | refine Below.then ?_ hb1 (by first | omega | (simp; done) | (simp; omega))))) (by first | omega | (simp; done) | (simp; omega))
    replace q17 := hold_cell (w2 := w1) q17 (by (repeat (first | exact Below.refl _ _ | (with_reducible assumption) | refine Below.drew ?_ | refine Below.drewN' ?_ _ | refine Below.alloc ?_ (by first | omega | (simp; done) | (simp; omega)) _ | refine Below.setCell ?_ (by first | omega | (simp; done) | (simp; omega)) _ | refine Below.then ?_ hb9 (by first | omega | (simp; done) | (simp; omega)) | refine Below.then ?_ hb8 (by first | omega | (simp; done) | (simp; omega)) | refine Below.then ?_ hb7 (by first | omega | (simp; done) | (simp; omega)) | refine Below.then ?_ hb6 (by first | omega | (simp; done) | (simp; omega)) | refine Below.then ?_ hb5 (by first | omega | (simp; done) | (simp; omega)) | refine Below.then ?_ hb4 (by first | omega | (simp; done) | (simp; omega)) | refine Below.then ?_ hb3 (by first | omega | (simp; done) | (simp; omega)) | refine Below.then ?_ hb2 (by first | omega | (simp; done) | (simp; omega)) | refine Below.then ?_ hb1 (by first | omega | (simp; done) | (simp; omega))))) (by first | omega | (simp; done) | (simp; omega))
    have lp1 : p < w1.heap.size := blk_lt D1
    go_wp2_with fail
    go_region_held3 (fun A => A.cell? ⟨p, 17, none⟩ = some (.int .i64 (i : Int)) ∧ A.cell? ⟨p, 7 + i, none⟩ = some (.int .u64 R) ∧ p < A.heap.size) (first | (with_reducible exact ⟨q17, q7, lp1⟩) | exact ⟨hold_cell q17 ((Below.refl _ _).drew.trans hb2) lp1, hold_cell q7 ((Below.refl _ _).drew.trans hb2) lp1, Nat.lt_of_lt_of_le lp1 hb2.size⟩ | exact ⟨q17, q7, lp1⟩) (first | (go_at_call 119; refine (HA.out _).mono ?_; rintro e2 w2 ⟨rfl, hb2⟩; have hz2 := hb2.size; (try simp at hz2)))
    all_goals
      have X2 := (hb2.block _ (show w.heap.size < w1.drew.heap.size from blk_lt X1)).trans X1
      have D2 : DoB w2 p x t sp a ss.length c o nxB false 0 0 0 := blk_below (blk_drew D1) hb2
      have hb02 : Below w.heap.size w w2 := Below.then hb01.drew hb2 (Nat.le_of_lt (blk_lt X1))
      go_wp2_with fail
      go_step3
      refine ⟨rfl, ?_⟩
      go_wp2_with fail
      refine (HE.out _ D2).mono ?_
      rintro r w9 ⟨rfl, ho9, hd9⟩
      have X9 := ho9.blk (show ¬ w.heap.size = p by omega) X2
      have x0 : w9.cell? ⟨w.heap.size, 0, none⟩ = some (.int .i64 0) := blk_cell X9 0 _ rfl
      have x1 : w9.cell? ⟨w.heap.size, 1, none⟩ = some (.int .i64 0) := blk_cell X9 1 _ rfl
      have x2 : w9.cell? ⟨w.heap.size, 2, none⟩ = some (.int .u64 0) := blk_cell X9 2 _ rfl
      have x3 : w9.cell? ⟨w.heap.size, 3, none⟩ = some (.int .u64 0) := blk_cell X9 3 _ rfl
      have y0 := blk_fz X9 0
      have y1 := blk_fz X9 1
      have y2 := blk_fz X9 2
      have y3 := blk_fz X9 3
      have lX := blk_lt X9
      have hO9 : Only (· = p) w w9 := (Only.of hb02).trans ho9
      clear ho9
      clear X1 D1 hb1 X2 D2 hb2
      go_wp2
      rw [Exit.noGoto_ret]
      refine bodyPost_ret (v := .tuple #[.agg #[.int .i64 0, .int .i64 0, .int .u64 0, .int .u64 0], .bool false]) (by simp [results, Try.results99, go_sem, World.cell?_setCell_same', cell_off, *]) rfl ⟨rfl, by (repeat (first | (with_reducible exact Only.refl _ _) | (with_reducible assumption) | (with_reducible refine Only.drew ?_) | (with_reducible refine Only.drewN ?_ _) | (with_reducible refine Only.alloc ?_ _) | (with_reducible refine Only.setCell ?_ (by first | exact .inl rfl | (right; first | omega | (simp; done) | (simp; omega)) | (left; simp; done)) _) | (with_reducible refine Only.then ?_ hb9) | (with_reducible refine Only.then ?_ hb8) | (with_reducible refine Only.then ?_ hb7) | (with_reducible refine Only.then ?_ hb6) | (with_reducible refine Only.then ?_ hb5) | (with_reducible refine Only.then ?_ hb4) | (with_reducible refine Only.then ?_ hb3) | (with_reducible refine Only.then ?_ hb2) | (with_reducible refine Only.then ?_ hb1))), ?_⟩
      (repeat (first | (with_reducible exact hd9) | (with_reducible refine blk_drew ?_) | (with_reducible refine blk_alloc ?_ _) | (with_reducible refine blk_off ?_ _ _ (by first | omega | (simp; omega)))))
set_option maxRecDepth 100000 in
set_option maxHeartbeats 3200000 in
theorem dBegin_ok (p : Nat) (x : ThN) (hx : ThOk x) (t sp : Int) (a : Option Addr) (c : Nat) (ss : List ByteArray) (hn : ss.length ≤ maxLen) (o : OpN) (ans : Int) (hck : checkO ss o = 0) (hro : adrB (rootN x o.a) = true) (w : World) (h : DoB w p x t sp a ss.length c o nxB false 0 0 0) (hs : SlOf w a (strV ss)) :
    Calls Try.prog 99 #[.pointer (some ⟨p, 0, none⟩), .int .u64 ans] w fun r w' =>
      r = .returned (.tuple #[.agg #[.int .i64 1, .int .i64 (adrV (rootN x o.a)), .int .u64 0, .int .u64 0], .bool true]) ∧ Only (· = p) w w' ∧ DoB w' p x t sp a ss.length c o nxL false 0 0 0 := by
  have hC := fun W h => opCheck_calls a c ss hn o W h
  obtain ⟨_, _, ha0, ha6⟩ := check_slots hck
  rw [hck] at hC
  have hr := rootN_range hx o.a
  have hA := fun W => wAddress_calls (rootN x o.a) hr.1 hr.2 W
  rw [hro] at hA
  obtain ⟨i, hi⟩ := Int.eq_ofNat_of_zero_le ha0
  have hi6 : i < 6 := by omega
  have hrc := root_cell x t sp a ss.length c o nxB false 0 0 0 i hi6
  have q7 : w.cell? ⟨p, 7 + i, none⟩ = some (.int .u64 (rootN x (i : Int))) := blk_cell h (7 + i) _ hrc
  unfold opVal at hC
  have HD := Lib.hid h
  have q13 : w.cell? ⟨p, 13, none⟩ = some (.int .i64 t) := blk_cell h 13 _ rfl
  have q14 : w.cell? ⟨p, 14, none⟩ = some (.int .i64 sp) := blk_cell h 14 _ rfl
  have q15 : w.cell? ⟨p, 15, none⟩ = some (.slice a ss.length c) := blk_cell h 15 _ rfl
  have q16 : w.cell? ⟨p, 16, none⟩ = some (.int .i64 o.k) := blk_cell h 16 _ rfl
  have q17 : w.cell? ⟨p, 17, none⟩ = some (.int .i64 o.a) := blk_cell h 17 _ rfl
  have q18 : w.cell? ⟨p, 18, none⟩ = some (.int .i64 o.b) := blk_cell h 18 _ rfl
  have q19 : w.cell? ⟨p, 19, none⟩ = some (.int .i64 o.c) := blk_cell h 19 _ rfl
  have q20 : w.cell? ⟨p, 20, none⟩ = some (.int .i64 o.f) := blk_cell h 20 _ rfl
  have q21 : w.cell? ⟨p, 21, none⟩ = some (.int .i64 o.s) := blk_cell h 21 _ rfl
  have q22 : w.cell? ⟨p, 22, none⟩ = some (.int .i64 o.x) := blk_cell h 22 _ rfl
  have q23 : w.cell? ⟨p, 23, none⟩ = some (.int .i64 o.y) := blk_cell h 23 _ rfl
  have q24 := blk_cell h 24 _ rfl
  have f24 := blk_fz h 24
  have lp := blk_lt h
  rw [hi] at hC q17 hro ha0 ha6
  generalize adrV (rootN x o.a) = AV at hA ⊢
  rw [hi] at hA
  generalize hR : rootN x (i : Int) = R at hA q7 hro
  have HC := Lib.hid hC
  have HS := Lib.hid hs
  have HA := Lib.hid hA
  have HI := Lib.hid hi
  clear h hs hC hck hA hrc hr hR hro hi
  go_enter Try.func99, Try.ntmps99
  go_wp2_with fail
  refine wp_scope_once 0 rfl ?_
  go_wp2_with fail
  go_region_with (go_at_call 118; refine (HC.out _ (HS.out.alloc _).drew).mono ?_; rintro e1 w1 ⟨rfl, hb1⟩; obtain ⟨hc1, hf1⟩ := bcell hb1; have hz1 := hb1.size; (try simp at hz1))
  all_goals
    have D1 : DoB w1 p x t sp a ss.length c o nxB false 0 0 0 := blk_below (blk_drew (blk_alloc HD.out _)) hb1
    have X1 : w1.heap[w.heap.size]? = some (.cells #[.int .i64 0, .int .i64 0, .int .u64 0, .int .u64 0] 44 (0, 0)) := (hb1.block _ (by simp)).trans (MapKept.heap_alloc w _).1
    have hb01 : Below w.heap.size w w1 := by (repeat (first | exact Below.refl _ _ | (with_reducible assumption) | refine Below.drew ?_ | refine Below.drewN' ?_ _ | refine Below.alloc ?_ (by first | omega | (simp; done) | (simp; omega)) _ | refine Below.setCell ?_ (by first | omega | (simp; done) | (simp; omega)) _ | refine Below.then ?_ hb9 (by first | omega | (simp; done) | (simp; omega)) | refine Below.then ?_ hb8 (by first | omega | (simp; done) | (simp; omega)) | refine Below.then ?_ hb7 (by first | omega | (simp; done) | (simp; omega)) | refine Below.then ?_ hb6 (by first | omega | (simp; done) | (simp; omega)) | refine Below.then ?_ hb5 (by first | omega | (simp; done) | (simp; omega)) | refine Below.then ?_ hb4 (by first | omega | (simp; done) | (simp; omega)) | refine Below.then ?_ hb3 (by first | omega | (simp; done) | (simp; omega)) | refine Below.then ?_ hb2 (by first | omega | (simp; done) | (simp; omega)) | refine Below.then ?_ hb1 (by first | omega | (simp; done) | (simp; omega))))
    replace q7 := hold_cell (w2 := w1) q7 (by (repeat (first | exact Below.refl _ _ | (with_reducible assumption) | refine Below.drew ?_ | refine Below.drewN' ?_ _ | refine Below.alloc ?_ (by first | omega | (simp; done) | (simp; omega)) _ | refine Below.setCell ?_ (by first | omega | (simp; done) | (simp; omega)) _ | refine Below.then ?_ hb9 (by first | omega | (simp; done) | (simp; omega)) | refine Below.then ?_ hb8 (by first | omega | (simp; done) | (simp; omega)) | refine Below.then ?_ hb7 (by first | omega | (simp; done) | (simp; omega)) | refine Below.then ?_ hb6 (by first | omega | (simp; done) | (simp; omega)) | refine Below.then ?_ hb5 (by first | omega | (simp; done) | (simp; omega)) | refine Below.then ?_ hb4 (by first | omega | (simp; done) | (simp; omega)) | refine Below.then ?_ hb3 (by first | omega | (simp; done) | (simp; omega)) | refine Below.then ?_ hb2 (by first | omega | (simp; done) | (simp; omega)) | refine Below.then ?_ hb1 (by first | omega | (simp; done) | (simp; omega))))) (by first | omega | (simp; done) | (simp; omega))
    replace q17 := hold_cell (w2 := w1) q17 (by (repeat (first | exact Below.refl _ _ | (with_reducible assumption) | refine Below.drew ?_ | refine Below.drewN' ?_ _ | refine Below.alloc ?_ (by first | omega | (simp; done) | (simp; omega)) _ | refine Below.setCell ?_ (by first | omega | (simp; done) | (simp; omega)) _ | refine Below.then ?_ hb9 (by first | omega | (simp; done) | (simp; omega)) | refine Below.then ?_ hb8 (by first | omega | (simp; done) | (simp; omega)) | refine Below.then ?_ hb7 (by first | omega | (simp; done) | (simp; omega)) | refine Below.then ?_ hb6 (by first | omega | (simp; done) | (simp; omega)) | refine Below.then ?_ hb5 (by first | omega | (simp; done) | (simp; omega)) | refine Below.then ?_ hb4 (by first | omega | (simp; done) | (simp; omega)) | refine Below.then ?_ hb3 (by first | omega | (simp; done) | (simp; omega)) | refine Below.then ?_ hb2 (by first | omega | (simp; done) | (simp; omega)) | refine Below.then ?_ hb1 (by first | omega | (simp; done) | (simp; omega))))) (by first | omega | (simp; done) | (simp; omega))
    replace q24 := hold_cell (w2 := w1) q24 (by (repeat (first | exact Below.refl _ _ | (with_reducible assumption) | refine Below.drew ?_ | refine Below.drewN' ?_ _ | refine Below.alloc ?_ (by first | omega | (simp; done) | (simp; omega)) _ | refine Below.setCell ?_ (by first | omega | (simp; done) | (simp; omega)) _ | refine Below.then ?_ hb9 (by first | omega | (simp; done) | (simp; omega)) | refine Below.then ?_ hb8 (by first | omega | (simp; done) | (simp; omega)) | refine Below.then ?_ hb7 (by first | omega | (simp; done) | (simp; omega)) | refine Below.then ?_ hb6 (by first | omega | (simp; done) | (simp; omega)) | refine Below.then ?_ hb5 (by first | omega | (simp; done) | (simp; omega)) | refine Below.then ?_ hb4 (by first | omega | (simp; done) | (simp; omega)) | refine Below.then ?_ hb3 (by first | omega | (simp; done) | (simp; omega)) | refine Below.then ?_ hb2 (by first | omega | (simp; done) | (simp; omega)) | refine Below.then ?_ hb1 (by first | omega | (simp; done) | (simp; omega))))) (by first | omega | (simp; done) | (simp; omega))
    replace f24 := hold_fz (w2 := w1) f24 (by (repeat (first | exact Below.refl _ _ | (with_reducible assumption) | refine Below.drew ?_ | refine Below.drewN' ?_ _ | refine Below.alloc ?_ (by first | omega | (simp; done) | (simp; omega)) _ | refine Below.setCell ?_ (by first | omega | (simp; done) | (simp; omega)) _ | refine Below.then ?_ hb9 (by first | omega | (simp; done) | (simp; omega)) | refine Below.then ?_ hb8 (by first | omega | (simp; done) | (simp; omega)) | refine Below.then ?_ hb7 (by first | omega | (simp; done) | (simp; omega)) | refine Below.then ?_ hb6 (by first | omega | (simp; done) | (simp; omega)) | refine Below.then ?_ hb5 (by first | omega | (simp; done) | (simp; omega)) | refine Below.then ?_ hb4 (by first | omega | (simp; done) | (simp; omega)) | refine Below.then ?_ hb3 (by first | omega | (simp; done) | (simp; omega)) | refine Below.then ?_ hb2 (by first | omega | (simp; done) | (simp; omega)) | refine Below.then ?_ hb1 (by first | omega | (simp; done) | (simp; omega))))) (by first | omega | (simp; done) | (simp; omega))
    have lp1 : p < w1.heap.size := blk_lt D1
    go_wp2_with fail
    go_region_held3 (fun A => A.cell? ⟨p, 17, none⟩ = some (.int .i64 (i : Int)) ∧ A.cell? ⟨p, 7 + i, none⟩ = some (.int .u64 R) ∧ p < A.heap.size) (first | (with_reducible exact ⟨q17, q7, lp1⟩) | exact ⟨hold_cell q17 ((Below.refl _ _).drew.trans hb2) lp1, hold_cell q7 ((Below.refl _ _).drew.trans hb2) lp1, Nat.lt_of_lt_of_le lp1 hb2.size⟩ | exact ⟨q17, q7, lp1⟩) (first | (go_at_call 119; refine (HA.out _).mono ?_; rintro e2 w2 ⟨rfl, hb2⟩; have hz2 := hb2.size; (try simp at hz2)))
    all_goals
      have X2 := (hb2.block _ (show w.heap.size < w1.drew.heap.size from blk_lt X1)).trans X1
      have D2 : DoB w2 p x t sp a ss.length c o nxB false 0 0 0 := blk_below (blk_drew D1) hb2
      have hb02 : Below w.heap.size w w2 := Below.then hb01.drew hb2 (Nat.le_of_lt (blk_lt X1))
      have q24' : w2.cell? ⟨p, 24, none⟩ = some nxB := blk_cell D2 24 _ rfl
      have f24' := blk_fz D2 24
      have lp2 : p < w2.heap.size := blk_lt D2
      have x0 : w2.cell? ⟨w.heap.size, 0, none⟩ = some (.int .i64 0) := blk_cell X2 0 _ rfl
      have x1 : w2.cell? ⟨w.heap.size, 1, none⟩ = some (.int .i64 0) := blk_cell X2 1 _ rfl
      have x2 : w2.cell? ⟨w.heap.size, 2, none⟩ = some (.int .u64 0) := blk_cell X2 2 _ rfl
      have x3 : w2.cell? ⟨w.heap.size, 3, none⟩ = some (.int .u64 0) := blk_cell X2 3 _ rfl
      have y0 := blk_fz X2 0
      have y1 := blk_fz X2 1
      have y2 := blk_fz X2 2
      have y3 := blk_fz X2 3
      have lX := blk_lt X2
      have hne : ¬ p = w.heap.size := by omega
      have hne' : ¬ w.heap.size = p := by omega
      have hO9 : Only (· = p) w w2 := Only.of hb02
      have hd9 : DoB (w2.setCell ⟨p, 24, none⟩ nxL) p x t sp a ss.length c o nxL false 0 0 0 := blk_set D2 24 nxL
      clear X1 D1 hb1 X2 D2 hb2 hb02 hb01 q24
      go_wp2
      simp only [Exit.jump]
      refine bodyPost_ret (v := .tuple #[.agg #[.int .i64 1, .int .i64 AV, .int .u64 0, .int .u64 0], .bool true]) (by simp [results, Try.results99, go_sem, World.cell?_setCell_same', cell_off, *]) rfl ⟨rfl, by (repeat (first | (with_reducible exact Only.refl _ _) | (with_reducible assumption) | (with_reducible refine Only.drew ?_) | (with_reducible refine Only.drewN ?_ _) | (with_reducible refine Only.alloc ?_ _) | (with_reducible refine Only.setCell ?_ (by first | exact .inl rfl | (right; first | omega | (simp; done) | (simp; omega)) | (left; simp; done)) _) | (with_reducible refine Only.then ?_ hb9) | (with_reducible refine Only.then ?_ hb8) | (with_reducible refine Only.then ?_ hb7) | (with_reducible refine Only.then ?_ hb6) | (with_reducible refine Only.then ?_ hb5) | (with_reducible refine Only.then ?_ hb4) | (with_reducible refine Only.then ?_ hb3) | (with_reducible refine Only.then ?_ hb2) | (with_reducible refine Only.then ?_ hb1))), ?_⟩
      (repeat (first | (with_reducible exact hd9) | (with_reducible refine blk_drew ?_) | (with_reducible refine blk_alloc ?_ _) | (with_reducible refine blk_off ?_ _ _ (by first | omega | (simp; omega)))))
end Go.Proofs.Ytafenndokmccoaa
