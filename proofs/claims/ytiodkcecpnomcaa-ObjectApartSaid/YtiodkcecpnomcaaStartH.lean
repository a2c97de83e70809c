/- The reference's words at the start, walked by hand (no print). -/
import Derived.Test.YtiodkcecpnomcaaObjM
import Derived.Test.YtiodkcecpnomcaaHeadRef
import Derived.Test.YtiodkcecpnomcaaPutI
namespace Go.Proofs.Ytiodkcecpnomcaa
open Go.RowKit
set_option linter.unusedVariables false
set_option linter.unusedSimpArgs false
attribute [local go_sem] Oper.semAt_some

theorem rScalar0_calls (w : World) : Calls Try.prog 53 #[.int .i64 0] w fun e w' => e = .returned (.tuple #[.int .u64 4611686018427387908, .int .i64 0]) ∧ Below w.heap.size w w' := by
  go_enter Try.func53, Try.ntmps53
  go_wp2_with (go_at_call 73; go_in)
  go_ret2
  exact ⟨rfl, by (repeat (first | exact Below.refl _ _ | (with_reducible assumption) | refine Below.drew ?_ | refine Below.drewN' ?_ _ | refine Below.alloc ?_ (by first | omega | (simp; done) | (simp; omega)) _ | refine Below.setCell ?_ (by first | omega | (simp; done) | (simp; omega)) _ | refine Below.then ?_ hb9 (by first | omega | (simp; done) | (simp; omega)) | refine Below.then ?_ hb8 (by first | omega | (simp; done) | (simp; omega)) | refine Below.then ?_ hb7 (by first | omega | (simp; done) | (simp; omega)) | refine Below.then ?_ hb6 (by first | omega | (simp; done) | (simp; omega)) | refine Below.then ?_ hb5 (by first | omega | (simp; done) | (simp; omega)) | refine Below.then ?_ hb4 (by first | omega | (simp; done) | (simp; omega)) | refine Below.then ?_ hb3 (by first | omega | (simp; done) | (simp; omega)) | refine Below.then ?_ hb2 (by first | omega | (simp; done) | (simp; omega)) | refine Below.then ?_ hb1 (by first | omega | (simp; done) | (simp; omega))))⟩
set_option maxHeartbeats 800000 in
theorem rFront_calls (low sp : Int) (h0 : 0 ≤ low) (h1 : low ≤ sp) (h2 : sp ≤ 4096) (w : World) :
    Calls Try.prog 51 #[.agg #[.int .i64 0, .int .i64 low, .int .i64 sp, .int .i64 0]] w fun e w' => e = .returned (.tuple #[.int .u64 (2 * (low + 8192 * sp)), .int .i64 0]) ∧ Below w.heap.size w w' := by
  go_enter Try.func51, Try.ntmps51
  go_wp2_with (go_at_call 72; go_in)
  go_ret2
  exact ⟨by simp, by (repeat (first | exact Below.refl _ _ | (with_reducible assumption) | refine Below.drew ?_ | refine Below.drewN' ?_ _ | refine Below.alloc ?_ (by first | omega | (simp; done) | (simp; omega)) _ | refine Below.setCell ?_ (by first | omega | (simp; done) | (simp; omega)) _ | refine Below.then ?_ hb9 (by first | omega | (simp; done) | (simp; omega)) | refine Below.then ?_ hb8 (by first | omega | (simp; done) | (simp; omega)) | refine Below.then ?_ hb7 (by first | omega | (simp; done) | (simp; omega)) | refine Below.then ?_ hb6 (by first | omega | (simp; done) | (simp; omega)) | refine Below.then ?_ hb5 (by first | omega | (simp; done) | (simp; omega)) | refine Below.then ?_ hb4 (by first | omega | (simp; done) | (simp; omega)) | refine Below.then ?_ hb3 (by first | omega | (simp; done) | (simp; omega)) | refine Below.then ?_ hb2 (by first | omega | (simp; done) | (simp; omega)) | refine Below.then ?_ hb1 (by first | omega | (simp; done) | (simp; omega))))⟩

def stW (t sp : Int) (s : ByteArray) : Nat → List Int
  | 0 => ((List.replicate (3 + 2 * t + 2 * sp).toNat 0).set 1 (2 * (2 + s.size + 8192 * sp))).set (3 + 2 * t).toNat 6
  | k + 1 => if s.data.toList.getD k 0 = 115 then (stW t sp s k).set (3 + 2 * t + 2 + k).toNat 4611686018427387908 else stW t sp s k
theorem stW_len (t sp : Int) (s : ByteArray) : ∀ k, (stW t sp s k).length = (3 + 2 * t + 2 * sp).toNat
  | 0 => by simp [stW]
  | k + 1 => by
    unfold stW
    split
    · rw [List.length_set, stW_len t sp s k]
    · exact stW_len t sp s k
def startW (t sp : Int) (ss : List ByteArray) : List Int := stW t sp (ss.getD 0 ByteArray.empty) (ss.getD 0 ByteArray.empty).size
/-- a row of words of one's own -/
def RowAt (W : World) (g : Nat) (l : List Int) : Prop := W.heap[g]? = some (.cells (u64s l) 50 (0, 0))
theorem RowAt.below {W W' : World} {g : Nat} {l : List Int} (h : RowAt W g l) (hb : Below W.heap.size W W') : RowAt W' g l := (hb.block g (Array.getElem?_eq_some_iff.1 h).1).trans h
theorem RowAt.cell {W : World} {g : Nat} {l : List Int} (h : RowAt W g l) (i : Nat) (hi : i < l.length) : W.cell? ⟨g, i, none⟩ = some (.int .u64 l[i]) := by
  unfold RowAt at h
  simp [World.cell?, h, u64s, hi]
theorem RowAt.fz {W : World} {g : Nat} {l : List Int} (h : RowAt W g l) (i : Nat) : W.frozen? ⟨g, i, none⟩ = false := by
  unfold RowAt at h
  simp [World.frozen?, h]
theorem RowAt.set {W : World} {g : Nat} {l : List Int} (h : RowAt W g l) (i : Nat) (v : Int) : RowAt (W.setCell ⟨g, i, none⟩ (.int .u64 v)) g (l.set i v) := by
  unfold RowAt at h ⊢
  simp only [World.setCell, Array.getElem?_modify, if_true, h, Option.map_some]
  congr 2
  apply Array.ext'
  simp [u64s, List.map_set]
theorem RowAt.wds {W : World} {g : Nat} {l : List Int} (h : RowAt W g l) : WdsOf W (some ⟨g, 0, none⟩) l := by
  refine .inr ⟨g, 0, rfl, (Array.getElem?_eq_some_iff.1 h).1, fun i hi => ?_⟩
  rw [List.length_map] at hi
  rw [List.getElem_map, Nat.zero_add]
  exact h.cell i hi
theorem byte_at (s : ByteArray) (k : Nat) (h : k < s.size) : s.data.toList.getD k 0 = s[k] := by
  rw [List.getD_eq_getElem?_getD, List.getElem?_eq_getElem (by simpa using h)]
  simp
  rfl

set_option maxRecDepth 1000000 in
set_option maxHeartbeats 6400000 in
theorem startH_calls (t sp : Int) (a : Option Addr) (c : Nat) (ss : List ByteArray) (hp : planB t sp ss = true) (w : World) (h : SlOf w a (strV ss)) :
    Calls Try.prog 28 #[.agg #[.int .i64 t, .int .i64 sp, .slice a ss.length c]] w fun e w' => ∃ g, e = .returned (.slice (some ⟨g, 0, none⟩) (startW t sp ss).length (startW t sp ss).length) ∧ RowAt w' g (startW t sp ss) ∧ w.heap.size ≤ g ∧ Below w.heap.size w w' := by
  obtain ⟨b1, b2, b3, b4, b5⟩ := plan_ok hp
  have hl1 := (table_len b5).1
  have hs8 : (ss.getD 0 ByteArray.empty).size ≤ 8 := by
    rw [List.getD_eq_getElem?_getD, List.getElem?_eq_getElem (by omega), Option.getD_some]
    exact shape_size (table_at b5 0 (by omega))
  have e0 : (ss.getD 0 ByteArray.empty) = ss[0] := by rw [List.getD_eq_getElem?_getD, List.getElem?_eq_getElem (by omega), Option.getD_some]
  have hN : (((3 + 2 * t + 2 * sp).toNat : Nat) : Int) = 3 + 2 * t + 2 * sp := by omega
  have hT : (((3 + 2 * t).toNat : Nat) : Int) = 3 + 2 * t := by omega
  have hsl : (startW t sp ss).length = (3 + 2 * t + 2 * sp).toNat := stW_len _ _ _ _
  rw [hsl]
  rcases h with h | ⟨sb, so, rfl, hsb, hsc⟩
  · have := congrArg List.length h
    rw [strV_len, List.length_nil] at this
    omega
  have c0 := hsc 0 (by rw [strV_len]; omega)
  rw [strV_get ss 0 (by omega), ← e0] at c0
  have LS := Lib.hid (fun W => r7LySize_calls t sp (some ⟨sb, so, none⟩) c ss.length b1 b2 b3 b4 W)
  have BS := fun W => r7Base_calls t sp (some ⟨sb, so, none⟩) c ss.length 0 (.inl rfl) b1 b2 b3 b4 W
  simp only [Int.zero_mul, Int.add_zero] at BS
  have BS := Lib.hid BS
  have MK := fun W => run_makeU64 W (3 + 2 * t + 2 * sp).toNat (by omega)
  rw [hN] at MK
  have FR := Lib.hid (fun W => rFront_calls (2 + (ss.getD 0 ByteArray.empty).size) sp (by omega) (by omega) b4 W)
  have WD := fun W => refWord_calls 0 0 W (by decide)
  rw [show hWord 0 0 = 6 by decide] at WD
  have WD := Lib.hid WD
  have SC := Lib.hid (fun W => rScalar0_calls W)
  have hlen := fun k => stW_len t sp (ss.getD 0 ByteArray.empty) k
  have hst0 : stW t sp (ss.getD 0 ByteArray.empty) 0 = ((List.replicate (3 + 2 * t + 2 * sp).toNat 0).set 1 (2 * (2 + (ss.getD 0 ByteArray.empty).size + 8192 * sp))).set (3 + 2 * t).toNat 6 := rfl
  have hstk : ∀ k, stW t sp (ss.getD 0 ByteArray.empty) (k + 1) = if (ss.getD 0 ByteArray.empty).data.toList.getD k 0 = 115 then (stW t sp (ss.getD 0 ByteArray.empty) k).set (3 + 2 * t + 2 + k).toNat 4611686018427387908 else stW t sp (ss.getD 0 ByteArray.empty) k := fun k => rfl
  unfold startW
  have hl63 : (1 : Int) ≤ (ss.length : Int) := by omega
  have hlc : (0 : Int) < (ss.length : Int) := by omega
  generalize ss.getD 0 ByteArray.empty = s at c0 FR hs8 hlen hst0 hstk
  have HST0 := Lib.hid hst0
  have HSTK := Lib.hid hstk
  have HLEN := Lib.hid hlen
  clear hsc e0 hst0 hstk hlen hp b5 hsl
  go_enter Try.func28, Try.ntmps28
  go_wp2_with fail
  refine (LS.out _).mono ?_; rintro e1 w1 ⟨rfl, hb1⟩; obtain ⟨hc1, hf1⟩ := bcell hb1; have hz1 := hb1.size; (try simp at hz1)
  have q0 := hc1 w.heap.size 0 (by first | omega | (simp; done) | (simp; omega)); simp [go_sem] at q0
  have q1 := hc1 w.heap.size 1 (by first | omega | (simp; done) | (simp; omega)); simp [go_sem] at q1
  have q2 := hc1 w.heap.size 2 (by first | omega | (simp; done) | (simp; omega)); simp [go_sem] at q2
  have hb01 : Below w.heap.size w w1 := by (repeat (first | exact Below.refl _ _ | (with_reducible assumption) | refine Below.drew ?_ | refine Below.drewN' ?_ _ | refine Below.alloc ?_ (by first | omega | (simp; done) | (simp; omega)) _ | refine Below.setCell ?_ (by first | omega | (simp; done) | (simp; omega)) _ | refine Below.then ?_ hb9 (by first | omega | (simp; done) | (simp; omega)) | refine Below.then ?_ hb8 (by first | omega | (simp; done) | (simp; omega)) | refine Below.then ?_ hb7 (by first | omega | (simp; done) | (simp; omega)) | refine Below.then ?_ hb6 (by first | omega | (simp; done) | (simp; omega)) | refine Below.then ?_ hb5 (by first | omega | (simp; done) | (simp; omega)) | refine Below.then ?_ hb4 (by first | omega | (simp; done) | (simp; omega)) | refine Below.then ?_ hb3 (by first | omega | (simp; done) | (simp; omega)) | refine Below.then ?_ hb2 (by first | omega | (simp; done) | (simp; omega)) | refine Below.then ?_ hb1 (by first | omega | (simp; done) | (simp; omega))))
  have d0 := (hb01.cell (p := ⟨sb, so + 0, none⟩) hsb).trans c0
  rw [Nat.add_zero] at d0
  have l1 : w.heap.size < w1.heap.size := by first | omega | (simp; done) | (simp; omega)
  have l1s : sb < w1.heap.size := by first | omega | (simp; done) | (simp; omega)
  clear hc1 hf1
  go_wp2_with fail
  have hr1 : RowAt (w1.alloc (Obj.cells (u64s (List.replicate (3 + 2 * t + 2 * sp).toNat 0)) 50)) w1.heap.size (List.replicate (3 + 2 * t + 2 * sp).toNat 0) := (MapKept.heap_alloc w1 _).1
  have hbA : Below w1.heap.size w1 (w1.alloc (Obj.cells (u64s (List.replicate (3 + 2 * t + 2 * sp).toNat 0)) 50)) := (Below.refl _ _).alloc (Nat.le_refl _) _
  have hzA : (w1.alloc (Obj.cells (u64s (List.replicate (3 + 2 * t + 2 * sp).toNat 0)) 50)).heap.size = w1.heap.size + 1 := by simp
  generalize w1.alloc (Obj.cells (u64s (List.replicate (3 + 2 * t + 2 * sp).toNat 0)) 50) = wA at hr1 hbA hzA ⊢
  refine (FR.out _).mono ?_
  rintro e2 w2 ⟨rfl, hb2⟩
  have hb12 : Below w1.heap.size w1 w2 := hbA.trans (hb2.mono (by omega))
  have hz2 := hb2.size
  have hr2 := hr1.below hb2
  have hc12 := fun o => hb12.cell (p := ⟨w.heap.size, o, none⟩) l1
  have P0 := Lib.hid q0
  have P1 := Lib.hid q1
  have P2 := Lib.hid q2
  replace q0 := (hc12 0).trans q0
  replace q1 := (hc12 1).trans q1
  replace q2 := (hc12 2).trans q2
  have k1 := hr2.cell 1 (by rw [List.length_replicate]; omega)
  have z1 := hr2.fz 1
  have m1 : (1 : Int) < 3 + 2 * t + 2 * sp := by omega
  clear hc12
  go_wp2_with fail
  have hr3 := hr2.set 1 (2 * (2 + s.size + 8192 * sp))
  have hb13 : Below w1.heap.size w1 (w2.setCell ⟨w1.heap.size, 1, none⟩ (.int .u64 (2 * (2 + s.size + 8192 * sp)))) := hb12.setCell (Nat.le_refl _) _
  have hz3 : (w2.setCell ⟨w1.heap.size, 1, none⟩ (.int .u64 (2 * (2 + s.size + 8192 * sp)))).heap.size = w2.heap.size := setCell_size _ _ _
  generalize w2.setCell ⟨w1.heap.size, 1, none⟩ (.int .u64 (2 * (2 + s.size + 8192 * sp))) = w3 at hr3 hb13 hz3 ⊢
  refine (BS.out _).mono ?_
  rintro e4 w4 ⟨rfl, hb4⟩
  have hz4 := hb4.size
  have hr4 := hr3.below hb4
  have hb14 : Below w1.heap.size w1 w4 := hb13.trans (hb4.mono (by omega))
  go_wp2_with fail
  refine (WD.out _).mono ?_
  rintro e5 w5 ⟨rfl, hb5⟩
  have hz5 := hb5.size
  have hr5 := hr4.below hb5
  have hb15 : Below w1.heap.size w1 w5 := hb14.trans (hb5.mono (by omega))
  have k5 := hr5.cell (3 + 2 * t).toNat (by rw [List.length_set, List.length_replicate]; omega)
  have z5 := hr5.fz (3 + 2 * t).toNat
  have m5 : (3 + 2 * t : Int) < 3 + 2 * t + 2 * sp := by omega
  have m6 : (0 : Int) ≤ 3 + 2 * t := by omega
  clear k1 z1 m1 q0 q1 q2
  go_wp2_with fail
  have hr6 := hr5.set (3 + 2 * t).toNat 6
  rw [← HST0.out] at hr6
  have hb16 : Below w1.heap.size w1 (w5.setCell ⟨w1.heap.size, (3 + 2 * t).toNat, none⟩ (.int .u64 6)) := hb15.setCell (Nat.le_refl _) _
  generalize w5.setCell ⟨w1.heap.size, (3 + 2 * t).toNat, none⟩ (.int .u64 6) = w6 at hr6 hb16 ⊢
  clear k5 z5 m5 hr1 hr2 hr3 hr4 hr5 hb12 hb13 hb14 hb15 hb2 hb4 hb5 d0 hbA c0 HST0 hsb
  go_loopw [5] (fun iv wr => ∃ k : Nat, k ≤ s.size ∧ iv = .int .i64 k ∧ RowAt wr w1.heap.size (stW t sp s k) ∧ Below w1.heap.size w1 wr) (fun iv _ => s.size - (intOf iv).toNat)
  case atStart => exact ⟨0, Nat.zero_le _, rfl, hr6, hb16⟩
  case round =>
    obtain ⟨k, hk, rfl, hr, hB⟩ := hrel
    have hzB := hB.size
    have hcr := fun o => hB.cell (p := ⟨w.heap.size, o, none⟩) l1
    have r0 := (hcr 0).trans P0.out
    have r1 := (hcr 1).trans P1.out
    have r2 := (hcr 2).trans P2.out
    clear hcr
    have hln := HLEN.out k
    by_cases hlt : k < s.size
    · have hby := byte_at s k hlt
      have i1 : (k : Int) < (s.size : Int) := by omega
      have hsk := HSTK.out k
      rw [hby] at hsk
      by_cases h115 : s[k] = 115
      · have g1 : ((s[k].toNat : Int) == 115) = true := by rw [h115]; rfl
        rw [if_pos h115] at hsk
        have HSK := Lib.hid hsk
        clear hsk hby h115
        go_wp2_with fail
        refine (BS.out _).mono ?_
        rintro e7 w7 ⟨rfl, hb7⟩
        have hz7 := hb7.size
        have hr7 := hr.below hb7
        have hb17 : Below w1.heap.size w1 w7 := hB.trans (hb7.mono (by omega))
        go_wp2_with fail
        refine (SC.out _).mono ?_
        rintro e8 w8 ⟨rfl, hb8⟩
        have hz8 := hb8.size
        have hr8 := hr7.below hb8
        have hb18 : Below w1.heap.size w1 w8 := hb17.trans (hb8.mono (by omega))
        have k8 := hr8.cell (3 + 2 * t + 2 + k).toNat (by omega)
        have z8 := hr8.fz (3 + 2 * t + 2 + k).toNat
        have m8 : (3 + 2 * t + 2 + k : Int) < 3 + 2 * t + 2 * sp := by omega
        have m9 : (0 : Int) ≤ 3 + 2 * t + 2 + k := by omega
        have hr9 := hr8.set (3 + 2 * t + 2 + k).toNat 4611686018427387908
        rw [← HSK.out] at hr9
        have hb19 : Below w1.heap.size w1 (w8.setCell ⟨w1.heap.size, (3 + 2 * t + 2 + k).toNat, none⟩ (.int .u64 4611686018427387908)) := hb18.setCell (Nat.le_refl _) _
        have HR9 := Lib.hid hr9
        have HB9 := Lib.hid hb19
        clear hr9 hb19 hr hr7 hr8
        go_wp2
        go_roundw
        case rel => exact ⟨k + 1, by omega, by go_num, HR9.out, HB9.out⟩
        case measure => simp [intOf]; omega
      · have g1 : ((s[k].toNat : Int) == 115) = false := by
          rw [beq_eq_false_iff_ne]
          intro e
          apply h115
          have : s[k].toNat = 115 := by omega
          exact UInt8.toNat_inj.1 this
        rw [if_neg h115] at hsk
        have HR := Lib.hid (hsk ▸ hr : RowAt wr w1.heap.size (stW t sp s (k + 1)))
        clear hsk hby h115 hr
        go_wp2
        go_roundw
        case rel => exact ⟨k + 1, by omega, by go_num, HR.out, hB⟩
        case measure => simp [intOf]; omega
    · obtain rfl : k = s.size := by omega
      have HR := Lib.hid hr
      clear hr
      go_wp2
      go_ret
      exact ⟨w1.heap.size, rfl, HR.out, by omega, hb01.trans (hB.mono (by omega))⟩
end Go.Proofs.Ytiodkcecpnomcaa
