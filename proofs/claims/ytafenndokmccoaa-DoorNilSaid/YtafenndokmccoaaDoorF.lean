/- The layer 'door': machines are made, asked, copied; threads' states at first. -/
import Derived.Test.YtafenndokmccoaaDoorE
namespace Go.Proofs.Ytafenndokmccoaa
open Go.RowKit
set_option linter.unusedVariables false
set_option linter.unusedSimpArgs false

/-- a machine at one of its places, with what came of it -/
def placeNx (pl : Nat) : Value := if pl = 0 then nxB else if pl = 1 then nxL else .nilFunc
structure DoM (W : World) (p : Nat) (x : ThN) (t sp : Int) (a : Option Addr) (ss : List ByteArray) (c : Nat) (o : OpN) (pl : Nat) (e ob at_ : Int) : Prop where
  blk : DoB W p x t sp a ss.length c o (placeNx pl) (pl == 2) e ob at_
  zero : pl ≠ 2 → e = 0 ∧ ob = 0 ∧ at_ = 0
  one : pl = 1 → checkO ss o = 0 ∧ adrB (rootN x o.a) = true
  le : pl ≤ 2
theorem DoM.below {W W' : World} {p : Nat} {x : ThN} {t sp : Int} {a : Option Addr} {ss : List ByteArray} {c : Nat} {o : OpN} {pl : Nat} {e ob at_ : Int} (h : DoM W p x t sp a ss c o pl e ob at_) (hb : Below W.heap.size W W') : DoM W' p x t sp a ss c o pl e ob at_ :=
  ⟨blk_below h.blk hb, h.zero, h.one, h.le⟩
theorem DoM.only {S : Nat → Prop} {W W' : World} {p : Nat} {x : ThN} {t sp : Int} {a : Option Addr} {ss : List ByteArray} {c : Nat} {o : OpN} {pl : Nat} {e ob at_ : Int} (h : DoM W p x t sp a ss c o pl e ob at_) (hb : Only S W W') (hs : ¬ S p) : DoM W' p x t sp a ss c o pl e ob at_ :=
  ⟨hb.blk hs h.blk, h.zero, h.one, h.le⟩

/-- one step, plainly: the next place, what came of it; the access -/
def stPl (x : ThN) (ss : List ByteArray) (o : OpN) (pl : Nat) : Nat := if pl = 0 then (if checkO ss o ≠ 0 then 2 else if adrB (rootN x o.a) = false then 2 else 1) else 2
def stE (x : ThN) (t sp : Int) (ss : List ByteArray) (o : OpN) (pl : Nat) (e ans : Int) : Int := if pl = 0 then (if checkO ss o ≠ 0 then checkO ss o else if adrB (rootN x o.a) = false then 183 else 0) else if pl = 1 then openE x t sp ss o ans else e
def stO (x : ThN) (t sp : Int) (ss : List ByteArray) (o : OpN) (pl : Nat) (ob ans : Int) : Int := if pl = 0 then 0 else if pl = 1 then openO x t sp ss o ans else ob
def stA' (x : ThN) (t sp : Int) (ss : List ByteArray) (o : OpN) (pl : Nat) (at_ ans : Int) : Int := if pl = 0 then 0 else if pl = 1 then openA x t sp ss o ans else at_
def stIs (x : ThN) (ss : List ByteArray) (o : OpN) (pl : Nat) : Bool := decide (pl = 0 ∧ checkO ss o = 0 ∧ adrB (rootN x o.a) = true)
def stAcc (x : ThN) (ss : List ByteArray) (o : OpN) (pl : Nat) : Value := if stIs x ss o pl = true then accA 1 (adrV (rootN x o.a)) 0 0 else accA 0 0 0 0

set_option maxRecDepth 100000 in
set_option maxHeartbeats 1600000 in
theorem dNext_via (f : Nat) (hff : f = 99 ∨ f = 120) (p : Nat) (xs : Array Value) (ans : Int) (k' at' o' n' : Int) (is : Bool) (Q : World → Prop) (hQ : ∀ (W : World) (b i : Nat) (v : Value), Q W → b ≠ p → Q (W.setCell ⟨b, i, none⟩ v)) (w : World) (hx : xs[24]? = some (.func (.func f) #[] #[])) (h : w.heap[p]? = some (.cells xs 105 (0, 0)))
    (hf : ∀ W : World, Below w.heap.size w W → Calls Try.prog f #[.pointer (some ⟨p, 0, none⟩), .int .u64 ans] W fun r w' => r = .returned (.tuple #[.agg #[.int .i64 k', .int .i64 at', .int .u64 o', .int .u64 n'], .bool is]) ∧ Only (· = p) W w' ∧ Q w') :
    Calls Try.prog 40 #[.pointer (some ⟨p, 0, none⟩), .int .u64 ans] w fun r w' => r = .returned (.tuple #[.agg #[.int .i64 k', .int .i64 at', .int .u64 o', .int .u64 n'], .bool is]) ∧ Only (· = p) w w' ∧ Q w' := by
  rcases hff with rfl | rfl
  all_goals
    have q24 : w.cell? ⟨p, 24, none⟩ = some (.func (.func _) #[] #[]) := blk_cell h 24 _ hx
    have lp := blk_lt h
    have hN := fun f W => dNil_ne f W
    have HF := Lib.hid hf
    have HQ := Lib.hid hQ
    clear hf h hx hQ
    go_enter Try.func40, Try.ntmps40
    go_wp2_with fail
    have hbA : Below w.heap.size w (w.alloc (.cells #[.int .i64 0, .int .i64 0, .int .u64 0, .int .u64 0] 44)) := by (repeat (first | exact Below.refl _ _ | (with_reducible assumption) | refine Below.drew ?_ | refine Below.drewN' ?_ _ | refine Below.alloc ?_ (by first | omega | (simp; done) | (simp; omega)) _ | refine Below.setCell ?_ (by first | omega | (simp; done) | (simp; omega)) _ | refine Below.then ?_ hb9 (by first | omega | (simp; done) | (simp; omega)) | refine Below.then ?_ hb8 (by first | omega | (simp; done) | (simp; omega)) | refine Below.then ?_ hb7 (by first | omega | (simp; done) | (simp; omega)) | refine Below.then ?_ hb6 (by first | omega | (simp; done) | (simp; omega)) | refine Below.then ?_ hb5 (by first | omega | (simp; done) | (simp; omega)) | refine Below.then ?_ hb4 (by first | omega | (simp; done) | (simp; omega)) | refine Below.then ?_ hb3 (by first | omega | (simp; done) | (simp; omega)) | refine Below.then ?_ hb2 (by first | omega | (simp; done) | (simp; omega)) | refine Below.then ?_ hb1 (by first | omega | (simp; done) | (simp; omega))))
    have X0 : (w.alloc (.cells #[.int .i64 0, .int .i64 0, .int .u64 0, .int .u64 0] 44)).heap[w.heap.size]? = some (.cells #[.int .i64 0, .int .i64 0, .int .u64 0, .int .u64 0] 44 (0, 0)) := (MapKept.heap_alloc w _).1
    refine (HF.out _ hbA).mono ?_
    rintro r w9 ⟨rfl, ho9, hq9⟩
    have X9 := ho9.blk (show ¬ w.heap.size = p by omega) X0
    have x0 : w9.cell? ⟨w.heap.size, 0, none⟩ = some (.int .i64 0) := blk_cell X9 0 _ rfl
    have x1 : w9.cell? ⟨w.heap.size, 1, none⟩ = some (.int .i64 0) := blk_cell X9 1 _ rfl
    have x2 : w9.cell? ⟨w.heap.size, 2, none⟩ = some (.int .u64 0) := blk_cell X9 2 _ rfl
    have x3 : w9.cell? ⟨w.heap.size, 3, none⟩ = some (.int .u64 0) := blk_cell X9 3 _ rfl
    have y0 := blk_fz X9 0
    have y1 := blk_fz X9 1
    have y2 := blk_fz X9 2
    have y3 := blk_fz X9 3
    have lX := blk_lt X9
    have hO9 : Only (· = p) w w9 := (Only.of hbA).trans ho9
    have HQ9 := Lib.hid hq9
    have hne : w.heap.size ≠ p := by omega
    have HNE := Lib.hid hne
    clear ho9 X9 X0 hbA hq9 hne
    go_wp2
    refine bodyPost_ret (v := .tuple #[.agg #[.int .i64 k', .int .i64 at', .int .u64 o', .int .u64 n'], .bool is]) (by simp [results, Try.results40, go_sem, World.cell?_setCell_same', cell_off, *]) rfl ⟨rfl, by (repeat (first | (with_reducible exact Only.refl _ _) | (with_reducible assumption) | (with_reducible refine Only.drew ?_) | (with_reducible refine Only.drewN ?_ _) | (with_reducible refine Only.alloc ?_ _) | (with_reducible refine Only.setCell ?_ (by first | exact .inl rfl | (right; first | omega | (simp; done) | (simp; omega)) | (left; simp; done)) _) | (with_reducible refine Only.then ?_ hb9) | (with_reducible refine Only.then ?_ hb8) | (with_reducible refine Only.then ?_ hb7) | (with_reducible refine Only.then ?_ hb6) | (with_reducible refine Only.then ?_ hb5) | (with_reducible refine Only.then ?_ hb4) | (with_reducible refine Only.then ?_ hb3) | (with_reducible refine Only.then ?_ hb2) | (with_reducible refine Only.then ?_ hb1))), ?_⟩
    exact HQ.out _ _ _ _ (HQ.out _ _ _ _ (HQ.out _ _ _ _ (HQ.out _ _ _ _ HQ9.out HNE.out) HNE.out) HNE.out) HNE.out

set_option maxRecDepth 100000 in
theorem dNext_calls (p : Nat) (x : ThN) (hx : ThOk x) (t sp : Int) (a : Option Addr) (c : Nat) (ss : List ByteArray) (hn : ss.length ≤ maxLen) (hp : planB t sp ss = true) (o : OpN) (pl : Nat) (e ob at_ ans : Int) (h0 : 0 ≤ ans) (h1 : ans < 18446744073709551616) (w : World) (h : DoM w p x t sp a ss c o pl e ob at_) (hs : SlOf w a (strV ss)) :
    Calls Try.prog 40 #[.pointer (some ⟨p, 0, none⟩), .int .u64 ans] w fun r w' =>
      r = .returned (.tuple #[stAcc x ss o pl, .bool (stIs x ss o pl)]) ∧ Only (· = p) w w' ∧ DoM w' p x t sp a ss c o (stPl x ss o pl) (stE x t sp ss o pl e ans) (stO x t sp ss o pl ob ans) (stA' x t sp ss o pl at_ ans) := by
  have hle := h.le
  obtain rfl | rfl | rfl : pl = 0 ∨ pl = 1 ∨ pl = 2 := by omega
  · obtain ⟨rfl, rfl, rfl⟩ := h.zero (by decide)
    have hb : DoB w p x t sp a ss.length c o nxB false 0 0 0 := h.blk
    by_cases hc : checkO ss o = 0
    · by_cases hr : adrB (rootN x o.a) = true
      · have e1 : stIs x ss o 0 = true := by unfold stIs; rw [decide_eq_true_eq]; exact ⟨rfl, hc, hr⟩
        unfold stAcc
        rw [e1, if_pos rfl]
        refine (dNext_via 99 (.inl rfl) p _ ans 1 _ 0 0 true (fun W => DoB W p x t sp a ss.length c o nxL false 0 0 0) (fun W b i v hq hne => blk_off hq i v (fun e => hne e.symm)) w rfl hb (fun W hW => dBegin_ok p x hx t sp a c ss hn o ans hc hr W (blk_below hb hW) (hs.below hW))).mono ?_
        rintro r w' ⟨hr1, ho, hd⟩
        refine ⟨hr1, ho, ?_, ?_, ?_, ?_⟩
        · simpa [stPl, stE, stO, stA', hc, hr, placeNx] using hd
        · simp [stPl, stE, stO, stA', hc, hr]
        · exact fun _ => ⟨hc, hr⟩
        · simp [stPl, hc, hr]
      · have hr' : adrB (rootN x o.a) = false := by simpa using hr
        have e1 : stIs x ss o 0 = false := by unfold stIs; rw [decide_eq_false_iff_not]; exact fun h => hr h.2.2
        unfold stAcc
        rw [e1, if_neg (by decide)]
        refine (dNext_via 99 (.inl rfl) p _ ans 0 0 0 0 false (fun W => DoB W p x t sp a ss.length c o .nilFunc true 183 0 0) (fun W b i v hq hne => blk_off hq i v (fun e => hne e.symm)) w rfl hb (fun W hW => dBegin_null p x hx t sp a c ss hn o ans hc hr' W (blk_below hb hW) (hs.below hW))).mono ?_
        rintro r w' ⟨hr1, ho, hd⟩
        refine ⟨hr1, ho, ?_, ?_, ?_, ?_⟩
        · simpa [stPl, stE, stO, stA', hc, hr', placeNx] using hd
        · simp [stPl, hc, hr']
        · simp [stPl, hc, hr']
        · simp [stPl, hc, hr']
    · have e1 : stIs x ss o 0 = false := by unfold stIs; rw [decide_eq_false_iff_not]; exact fun h => hc h.2.1
      unfold stAcc
      rw [e1, if_neg (by decide)]
      refine (dNext_via 99 (.inl rfl) p _ ans 0 0 0 0 false (fun W => DoB W p x t sp a ss.length c o .nilFunc true (checkO ss o) 0 0) (fun W b i v hq hne => blk_off hq i v (fun e => hne e.symm)) w rfl hb (fun W hW => dBegin_bad p x t sp a c ss hn o ans hc W (blk_below hb hW) (hs.below hW))).mono ?_
      rintro r w' ⟨hr1, ho, hd⟩
      refine ⟨hr1, ho, ?_, ?_, ?_, ?_⟩
      · simpa [stPl, stE, stO, stA', hc, placeNx] using hd
      · simp [stPl, hc]
      · simp [stPl, hc]
      · simp [stPl, hc]
  · obtain ⟨rfl, rfl, rfl⟩ := h.zero (by decide)
    obtain ⟨hc, hr⟩ := h.one rfl
    have hb : DoB w p x t sp a ss.length c o nxL false 0 0 0 := h.blk
    have e1 : stIs x ss o 1 = false := by unfold stIs; rw [decide_eq_false_iff_not]; exact fun h => by cases h.1
    unfold stAcc
    rw [e1, if_neg (by decide)]
    refine (dNext_via 120 (.inr rfl) p _ ans 0 0 0 0 false (fun W => DoB W p x t sp a ss.length c o .nilFunc true (openE x t sp ss o ans) (openO x t sp ss o ans) (openA x t sp ss o ans)) (fun W b i v hq hne => blk_off hq i v (fun e => hne e.symm)) w rfl hb (fun W hW => dLoad_calls p x hx t sp a c ss hn hp o ans h0 h1 hc hr W (blk_below hb hW) (hs.below hW))).mono ?_
    rintro r w' ⟨hr1, ho, hd⟩
    refine ⟨hr1, ho, ?_, ?_, ?_, ?_⟩
    · simpa [stPl, stE, stO, stA', placeNx] using hd
    · simp [stPl]
    · simp [stPl]
    · simp [stPl]
  · have hb : DoB w p x t sp a ss.length c o .nilFunc true e ob at_ := h.blk
    have e1 : stIs x ss o 2 = false := by unfold stIs; rw [decide_eq_false_iff_not]; exact fun h => by cases h.1
    unfold stAcc
    rw [e1, if_neg (by decide)]
    refine (dNext_idle p _ w ans rfl hb).mono ?_
    rintro r w' ⟨hr1, hbw⟩
    refine ⟨hr1, Only.of hbw, ?_⟩
    have := h.below hbw
    simpa [stPl, stE, stO, stA'] using this
theorem dOutM (p : Nat) (x : ThN) (t sp : Int) (a : Option Addr) (c : Nat) (ss : List ByteArray) (o : OpN) (pl : Nat) (e ob at_ : Int) (w : World) (h : DoM w p x t sp a ss c o pl e ob at_) :
    Calls Try.prog 41 #[.pointer (some ⟨p, 0, none⟩)] w fun r w' => r = .returned (.tuple #[.agg #[.int .i64 e, .int .i64 ob, .int .i64 at_], .bool (pl == 2)]) ∧ Below w.heap.size w w' :=
  dOut_calls p _ e ob at_ (pl == 2) w rfl rfl rfl rfl h.blk
end Go.Proofs.Ytafenndokmccoaa
