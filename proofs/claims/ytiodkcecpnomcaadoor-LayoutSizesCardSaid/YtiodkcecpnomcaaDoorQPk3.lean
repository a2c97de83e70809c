-- Written by wip/plug/plug.py over the kit's print, for this seat.
import Derived.Test.YtiodkcecpnomcaaDoorQPk0
import Derived.Test.YtiodkcecpnomcaaDoorQPk1
import Derived.Test.YtiodkcecpnomcaaDoorQPk2
namespace Go.Proofs.YtiodkcecpnomcaaDoorQ.Pk
open Go.RowKit Go.Proofs.YtiodkcecpnomcaaDoorW.PrintWords Go.Proofs.YtiodkcecpnomcaaDoorW.PrintLast Go.Proofs.YtiodkcecpnomcaaDoorW.PrintMore
attribute [local go_sem] max2_int min2_int max_two min_two max_three min_three max_four min_four   -- for this text's walks alone
set_option linter.unusedVariables false
set_option linter.unusedSimpArgs false

/-! ### lapidaryref06_Start: function 27 -/
def lapidaryref06_Start.l0 : Nat → List Int → ByteArray → Int → Int → Int → List ByteArray → Option (List Int)
  | 0, _, _, _, _, _, _ => none
  | k + 1, x3, x4, x5, x124000, x124001, x124002 => if x5 < (x4.size : Int) then (if 0 ≤ x5 then (if (bt x4 x5) = 115 then ((lapidaryref06_Base.f x124000 x124001 x124002 0).bind fun t135 => ((lapidaryref01_Scalar.f k 0).bind fun bt136 => (if 0 ≤ (wrap64 ((wrap64 (t135 + 2)) + x5)) then (if (wrap64 ((wrap64 (t135 + 2)) + x5)) < (x3.length : Int) then (lapidaryref06_Start.l0 k (x3.set ((wrap64 ((wrap64 (t135 + 2)) + x5)) : Int).toNat bt136.1) x4 (wrap64 (x5 + 1)) x124000 x124001 x124002) else (none)) else (none)))) else (lapidaryref06_Start.l0 k x3 x4 (wrap64 (x5 + 1)) x124000 x124001 x124002)) else (none)) else (some x3)
def lapidaryref06_Start.f (k : Nat) (a0_0 : Int) (a0_1 : Int) (l0_2 : List ByteArray) : Option (List Int) := (lapidaryref06_Size.f a0_0 a0_1 l0_2).bind fun t124 => (if 0 ≤ t124 then (if (t124 : Int).toNat ≤ 35184372088832 then ((some (List.replicate (t124 : Int).toNat 0 : List Int)).bind fun y125 => (if 0 < (l0_2.length : Int) then ((lapidaryref02_Front.f 0 (wrap64 (2 + ((rdOf ByteArray.empty l0_2 0).size : Int))) a0_1 0).bind fun bt129 => (if 1 < (y125.length : Int) then ((lapidaryref06_Base.f a0_0 a0_1 l0_2 0).bind fun t132 => ((lapidaryref04_Word.f 0 0).bind fun t133 => (if 0 ≤ t132 then (if t132 < (y125.length : Int) then (lapidaryref06_Start.l0 k ((y125.set (1 : Int).toNat bt129.1).set (t132 : Int).toNat t133) (rdOf ByteArray.empty l0_2 0) 0 a0_0 a0_1 l0_2) else (none)) else (none)))) else (none))) else (none))) else (none)) else (none))
theorem lapidaryref06_Start.mono_l : ∀ k, (∀ y0 y1 y2 y3 y4 y5, LeO (lapidaryref06_Start.l0 k y0 y1 y2 y3 y4 y5) (lapidaryref06_Start.l0 (k + 1) y0 y1 y2 y3 y4 y5))
  | 0 => fun _ _ _ _ _ _ r h => by simp [lapidaryref06_Start.l0] at h
  | k + 1 => by
    have ih0 := lapidaryref06_Start.mono_l k
    · intro y0 y1 y2 y3 y4 y5
      unfold lapidaryref06_Start.l0
      repeat' first
      | (with_reducible exact ih0 _ _ _ _ _ _)
      | (with_reducible exact lapidaryref01_Scalar.mono _ _)
      | (with_reducible exact LeO.refl _)
      | (with_reducible exact LeO.none _)
      | (with_reducible refine LeO.ite ?_ ?_)
      | (with_reducible refine LeO.bind ?_ (fun _ => ?_))
      | exact ih0 _ _ _ _ _ _
      | exact lapidaryref01_Scalar.mono _ _
      | exact LeO.none _
      | refine LeO.ite ?_ ?_
      | refine LeO.bind ?_ (fun _ => ?_)
theorem lapidaryref06_Start.mono : ∀ a0 a1 a2 k, LeO (lapidaryref06_Start.f k a0 a1 a2) (lapidaryref06_Start.f (k + 1) a0 a1 a2) := by
  intro a0 a1 a2 k
  have ih0 := lapidaryref06_Start.mono_l k
  unfold lapidaryref06_Start.f
  repeat' first
      | (with_reducible exact ih0 _ _ _ _ _ _)
      | (with_reducible exact lapidaryref01_Scalar.mono _ _)
      | (with_reducible exact LeO.refl _)
      | (with_reducible exact LeO.none _)
      | (with_reducible refine LeO.ite ?_ ?_)
      | (with_reducible refine LeO.bind ?_ (fun _ => ?_))
      | exact ih0 _ _ _ _ _ _
      | exact lapidaryref01_Scalar.mono _ _
      | exact LeO.none _
      | refine LeO.ite ?_ ?_
      | refine LeO.bind ?_ (fun _ => ?_)
set_option maxHeartbeats 8000000 in
set_option maxRecDepth 100000 in
theorem lapidaryref06_Start.calls (k : Nat) (a0_0 : Int) (a0_1 : Int) (A0_2 : Option Addr) (c0_2 : Nat) (l0_2 : List ByteArray) (r : List Int) (w : World) (hr0_2 : Kd.C Kd.string w A0_2 l0_2.length l0_2) (hc0_2 : l0_2.length ≤ c0_2) (h : lapidaryref06_Start.f k a0_0 a0_1 l0_2 = some r) :
    Calls Tryd.prog 27 #[.agg #[.int .i64 a0_0, .int .i64 a0_1, .slice A0_2 l0_2.length c0_2]] w fun e w' => ∃ v0_ : Value, e = .returned (v0_) ∧ Kd.R (Kd.int .u64) 57 w' w.heap.size (fun _ => True) v0_ r ∧ Below w.heap.size w w' := by
  have hu24 := Tryd.underlying24
  have hu73 := Tryd.underlying73
  have HR0_2 := Aside0.mk hr0_2
  have HC0_2 := Aside0.mk hc0_2
  clear hr0_2 hc0_2
  have HB := Aside0.mk (Below.refl w.heap.size w)
  have H : ((lapidaryref06_Size.f a0_0 a0_1 l0_2).bind fun t124 => (if 0 ≤ t124 then (if (t124 : Int).toNat ≤ 35184372088832 then ((some (List.replicate (t124 : Int).toNat 0 : List Int)).bind fun y125 => (if 0 < (l0_2.length : Int) then ((lapidaryref02_Front.f 0 (wrap64 (2 + ((rdOf ByteArray.empty l0_2 0).size : Int))) a0_1 0).bind fun bt129 => (if 1 < (y125.length : Int) then ((lapidaryref06_Base.f a0_0 a0_1 l0_2 0).bind fun t132 => ((lapidaryref04_Word.f 0 0).bind fun t133 => (if 0 ≤ t132 then (if t132 < (y125.length : Int) then (lapidaryref06_Start.l0 k ((y125.set (1 : Int).toNat bt129.1).set (t132 : Int).toNat t133) (rdOf ByteArray.empty l0_2 0) 0 a0_0 a0_1 l0_2) else (none)) else (none)))) else (none))) else (none))) else (none)) else (none))) = some r := h
  clear h
  replace H := Option.bind_eq_some_iff.mp H
  obtain ⟨t124, A20, H⟩ := H
  replace H : (if 0 ≤ t124 then (if (t124 : Int).toNat ≤ 35184372088832 then ((some (List.replicate (t124 : Int).toNat 0 : List Int)).bind fun y125 => (if 0 < (l0_2.length : Int) then ((lapidaryref02_Front.f 0 (wrap64 (2 + ((rdOf ByteArray.empty l0_2 0).size : Int))) a0_1 0).bind fun bt129 => (if 1 < (y125.length : Int) then ((lapidaryref06_Base.f a0_0 a0_1 l0_2 0).bind fun t132 => ((lapidaryref04_Word.f 0 0).bind fun t133 => (if 0 ≤ t132 then (if t132 < (y125.length : Int) then (lapidaryref06_Start.l0 k ((y125.set (1 : Int).toNat bt129.1).set (t132 : Int).toNat t133) (rdOf ByteArray.empty l0_2 0) 0 a0_0 a0_1 l0_2) else (none)) else (none)))) else (none))) else (none))) else (none)) else (none)) = some r := H
  have A2 := Aside0.mk A20
  clear A20
  by_cases c3 : 0 ≤ t124
  · rw [if_pos c3] at H
    have c3b0 := eq_true c3
    have c3b1 : decide (0 ≤ t124) = true := decide_eq_true c3
    clear c3
    by_cases c4 : (t124 : Int).toNat ≤ 35184372088832
    · rw [if_pos c4] at H
      have c4b0 := eq_true c4
      have c4b1 : decide ((t124 : Int).toNat ≤ 35184372088832) = true := decide_eq_true c4
      clear c4
      obtain ⟨y125, hy125⟩ : ∃ y_ : List Int, y_ = (List.replicate (t124 : Int).toNat 0) := ⟨_, rfl⟩
      replace H : (if 0 < (l0_2.length : Int) then ((lapidaryref02_Front.f 0 (wrap64 (2 + ((rdOf ByteArray.empty l0_2 0).size : Int))) a0_1 0).bind fun bt129 => (if 1 < (y125.length : Int) then ((lapidaryref06_Base.f a0_0 a0_1 l0_2 0).bind fun t132 => ((lapidaryref04_Word.f 0 0).bind fun t133 => (if 0 ≤ t132 then (if t132 < (y125.length : Int) then (lapidaryref06_Start.l0 k ((y125.set (1 : Int).toNat bt129.1).set (t132 : Int).toNat t133) (rdOf ByteArray.empty l0_2 0) 0 a0_0 a0_1 l0_2) else (none)) else (none)))) else (none))) else (none)) = some r := by first | (rw [hy125]; with_reducible exact H) | (have H2_ := (Option.bind_some _ _).symm.trans H; rw [hy125]; with_reducible exact H2_) | (have H2_ := (Option.bind_some _ _).symm.trans H; with_reducible exact H2_) | with_reducible exact H | (rw [hy125]; exact H) | exact H
      have Ny125 := Aside0.mk hy125
      clear hy125
      by_cases c5 : 0 < (l0_2.length : Int)
      · rw [if_pos c5] at H
        have c5b0 : decide (0 < (l0_2.length : Int)) = true := decide_eq_true c5
        have c5b1 : decide (0 < l0_2.length) = true := decide_eq_true (by omega)
        clear c5
        replace H := Option.bind_eq_some_iff.mp H
        obtain ⟨⟨t129, t130⟩, A60, H⟩ := H
        replace H : (if 1 < (y125.length : Int) then ((lapidaryref06_Base.f a0_0 a0_1 l0_2 0).bind fun t132 => ((lapidaryref04_Word.f 0 0).bind fun t133 => (if 0 ≤ t132 then (if t132 < (y125.length : Int) then (lapidaryref06_Start.l0 k ((y125.set (1 : Int).toNat t129).set (t132 : Int).toNat t133) (rdOf ByteArray.empty l0_2 0) 0 a0_0 a0_1 l0_2) else (none)) else (none)))) else (none)) = some r := H
        have A6 := Aside0.mk A60
        clear A60
        by_cases c7 : 1 < (y125.length : Int)
        · rw [if_pos c7] at H
          have c7b0 : decide (1 < (y125.length : Int)) = true := decide_eq_true c7
          have c7b1 : decide (1 < y125.length) = true := decide_eq_true (by omega)
          clear c7
          obtain ⟨y131, hy131⟩ : ∃ y_ : List Int, y_ = (y125.set (1 : Int).toNat t129) := ⟨_, rfl⟩
          replace H : ((lapidaryref06_Base.f a0_0 a0_1 l0_2 0).bind fun t132 => ((lapidaryref04_Word.f 0 0).bind fun t133 => (if 0 ≤ t132 then (if t132 < (y125.length : Int) then (lapidaryref06_Start.l0 k (y131.set (t132 : Int).toNat t133) (rdOf ByteArray.empty l0_2 0) 0 a0_0 a0_1 l0_2) else (none)) else (none)))) = some r := by first | (rw [hy131]; with_reducible exact H) | (have H2_ := (Option.bind_some _ _).symm.trans H; rw [hy131]; with_reducible exact H2_) | (have H2_ := (Option.bind_some _ _).symm.trans H; with_reducible exact H2_) | with_reducible exact H | (rw [hy131]; exact H) | exact H
          have Ny131 := Aside0.mk hy131
          clear hy131
          replace H := Option.bind_eq_some_iff.mp H
          obtain ⟨t132, A90, H⟩ := H
          replace H : ((lapidaryref04_Word.f 0 0).bind fun t133 => (if 0 ≤ t132 then (if t132 < (y125.length : Int) then (lapidaryref06_Start.l0 k (y131.set (t132 : Int).toNat t133) (rdOf ByteArray.empty l0_2 0) 0 a0_0 a0_1 l0_2) else (none)) else (none))) = some r := H
          have A9 := Aside0.mk A90
          clear A90
          replace H := Option.bind_eq_some_iff.mp H
          obtain ⟨t133, A100, H⟩ := H
          replace H : (if 0 ≤ t132 then (if t132 < (y125.length : Int) then (lapidaryref06_Start.l0 k (y131.set (t132 : Int).toNat t133) (rdOf ByteArray.empty l0_2 0) 0 a0_0 a0_1 l0_2) else (none)) else (none)) = some r := H
          have A10 := Aside0.mk A100
          clear A100
          by_cases c11 : 0 ≤ t132
          · rw [if_pos c11] at H
            have c11b0 : decide (0 ≤ t132) = true := decide_eq_true c11
            clear c11
            by_cases c12 : t132 < (y125.length : Int)
            · rw [if_pos c12] at H
              have c12b0 : decide (t132 < (y125.length : Int)) = true := decide_eq_true c12
              clear c12
              obtain ⟨y134, hy134⟩ : ∃ y_ : List Int, y_ = (y131.set (t132 : Int).toNat t133) := ⟨_, rfl⟩
              replace H : (lapidaryref06_Start.l0 k y134 (rdOf ByteArray.empty l0_2 0) 0 a0_0 a0_1 l0_2) = some r := by first | (rw [hy134]; with_reducible exact H) | (have H2_ := (Option.bind_some _ _).symm.trans H; rw [hy134]; with_reducible exact H2_) | (have H2_ := (Option.bind_some _ _).symm.trans H; with_reducible exact H2_) | with_reducible exact H | (rw [hy134]; exact H) | exact H
              have Ny134 := Aside0.mk hy134
              clear hy134
              have H' := Aside0.mk H
              clear H
              go_enter Tryd.func27, Tryd.ntmps27
              go_wp2_with (first | ((with_reducible refine gate_dst (N := 1) rfl ?_); refine box_event ?hg (N := 1) ?hd (cs := #[.int .i64 a0_0, .int .i64 a0_1, .slice A0_2 l0_2.length c0_2]) (t := 24) ?hr ?_; (case hd => rfl); (case hg => rfl); (case hr => first | (go_simp; done) | (go_simp; rfl)); intro gb123 hg w14 hbox hb; have n0_ := Aside0.mk (below_step (by repeat (first | (with_reducible first | exact HB.out | apply below_alloc | apply pw_below_drewN | apply below_drew1) | exact HB.out)) hb); have n1_ := Aside0.mk (hbox); have n2_ := Aside0.mk ((by rw [hg]; exact (below_size (by repeat (first | (with_reducible first | exact HB.out | apply below_alloc | apply pw_below_drewN | apply below_drew1) | exact HB.out))) : w.heap.size ≤ gb123)); have n3_ := Aside0.mk ((by rw [hg]; exact (below_size (by repeat (first | (with_reducible first | exact HB.out | apply below_alloc | apply pw_below_drewN | apply below_drew1) | exact HB.out))) : w.heap.size ≤ gb123)); clear HB; have HB := n0_; have BK123 := n1_; have GW123 := n2_; have GE123 := n3_; clear n0_ n1_ n2_ n3_; clear hb hbox hg; have hcz15_0 : w14.cell? ⟨gb123, 0, none⟩ = some (.int .i64 a0_0) := (blk_cell BK123.out 0).trans rfl; have hcz15_1 : w14.cell? ⟨gb123, 1, none⟩ = some (.int .i64 a0_1) := (blk_cell BK123.out 1).trans rfl; have hcz15_2 : w14.cell? ⟨gb123, 2, none⟩ = some (.slice A0_2 l0_2.length c0_2) := (blk_cell BK123.out 2).trans rfl; have hfz15_0 := blk_frozen BK123.out 0; have hfz15_1 := blk_frozen BK123.out 1; have hfz15_2 := blk_frozen BK123.out 2) | ((with_reducible refine gate_callee (f := 28) rfl ?_); refine goesL_ (some 7) rfl rfl Tryd.func28 (by kernel_rfl) rfl #[.agg #[.int .i64 a0_0, .int .i64 a0_1, .slice A0_2 l0_2.length c0_2]] rfl (by (try simp only [List.map_toArray, List.map_cons, List.map_nil]); first | done | rfl | (simp only [List.length_drop, List.length_take]; rfl)) ?_; (with_reducible refine (lapidaryref06_Size.calls a0_0 a0_1 _ _ l0_2 t124 _ ?side1 ?side2 A2.out).mono ?_); (case side1 => repeat (first | exact (Kd.C_below HR0_2.out HB.out) | (with_reducible refine Kd.C_alloc ?_ _) | (with_reducible refine Kd.C_drewN ?_ _) | (with_reducible refine Kd.C_drew ?_))); (case side2 => exact HC0_2.out); rintro e w16 ⟨rfl, hb⟩; refine ⟨_, rfl, ?_⟩; have n0_ := Aside0.mk (blk_below (g := gb123) (o := .cells #[.int .i64 a0_0, .int .i64 a0_1, .slice A0_2 l0_2.length c0_2] 24 (0, 0)) (by (with_reducible repeat (first | refine blk_drewN ?_ _ | refine blk_drew ?_ | refine blk_alloc ?_ _)); exact BK123.out) hb); have n1_ := Aside0.mk (below_step (by repeat (first | (with_reducible first | exact HB.out | apply below_alloc | apply pw_below_drewN | apply below_drew1 | refine below_set ?_ GE123.out) | exact HB.out)) hb); clear BK123; clear HB; have BK123 := n0_; have HB := n1_; clear n0_ n1_; (try clear hb); (try clear hb2); (try clear hk); (try clear hi)) | ((with_reducible refine gate_dst (N := 8) rfl ?_); refine Kd.R_make (Kd.int .u64) _ 57 rfl (N := 8) rfl 51 _ _ rfl t124 rfl rfl Tryd.underlying51 (.int .u64 0) 8 info57 rfl (by decide) (by omega) 0 (ok := fun _ => True) (okp := fun _ => True) rfl (fun _ hk => hk) trivial (of_decide_eq_true (by first | (with_reducible assumption) | assumption)) (Nat.le_trans (Nat.mul_le_mul_right _ (of_decide_eq_true (by first | (with_reducible assumption) | assumption) : t124.toNat ≤ 35184372088832)) (by omega)) (Below.refl _ _) (Nat.le_refl _) ?_; intro v126 w17 ho18 hb hg_ hnew_; clear hg_ hnew_; (first | rw [← Ny125.out] at ho18 | (simp only [Int.reduceToNat] at ho18; rw [← Ny125.out] at ho18)); have n0_ := Aside0.mk (Kd.R_lower ho18 (below_size (by repeat (first | (with_reducible first | exact HB.out | apply below_alloc | apply pw_below_drewN | apply below_drew1 | refine below_set ?_ GE123.out) | exact HB.out)))); have n1_ := Aside0.mk (blk_below (g := gb123) (o := .cells #[.int .i64 a0_0, .int .i64 a0_1, .slice A0_2 l0_2.length c0_2] 24 (0, 0)) (by (with_reducible repeat (first | refine blk_drewN ?_ _ | refine blk_drew ?_ | refine blk_alloc ?_ _)); exact BK123.out) hb); have n2_ := Aside0.mk (below_step (by repeat (first | (with_reducible first | exact HB.out | apply below_alloc | apply pw_below_drewN | apply below_drew1 | refine below_set ?_ GE123.out) | exact HB.out)) hb); clear BK123; clear HB; have HO127 := n0_; have BK123 := n1_; have HB := n2_; clear n0_ n1_ n2_; clear hb ho18; have hcz19_0 : w17.cell? ⟨gb123, 0, none⟩ = some (.int .i64 a0_0) := (blk_cell BK123.out 0).trans rfl; have hcz19_1 : w17.cell? ⟨gb123, 1, none⟩ = some (.int .i64 a0_1) := (blk_cell BK123.out 1).trans rfl; have hcz19_2 : w17.cell? ⟨gb123, 2, none⟩ = some (.slice A0_2 l0_2.length c0_2) := (blk_cell BK123.out 2).trans rfl; have hfz19_0 := blk_frozen BK123.out 0; have hfz19_1 := blk_frozen BK123.out 1; have hfz19_2 := blk_frozen BK123.out 2; have p128 : 0 ≤ (0 : Int) := (by omega); have q128 : 0 < (l0_2.length : Int) := of_decide_eq_true (by first | (with_reducible assumption) | assumption); obtain ⟨ad128, e128, hx128_0⟩ := Kd.at_string HR0_2.out 0 p128 q128; cases e128; have qi128 : (0 < l0_2.length) = True := eq_true (by omega); (try rw [show ((0 : Int)).toNat = 0 from rfl] at hx128_0); (try rw [Addr.add_zero'] at hx128_0); replace hx128_0 := (HB.out.cell (World.block_lt_of_cell? w _ hx128_0)).trans hx128_0; replace p128 := eq_true p128; replace q128 := eq_true q128) | ((with_reducible refine gate_callee (f := 47) rfl ?_); refine goesL_ (some 21) rfl rfl Tryd.func47 (by kernel_rfl) rfl #[.agg #[.int .i64 0, .int .i64 (wrap64 (2 + ((rdOf ByteArray.empty l0_2 0).size : Int))), .int .i64 a0_1, .int .i64 0]] rfl (by (try simp only [List.map_toArray, List.map_cons, List.map_nil]); first | done | rfl | (simp only [List.length_drop, List.length_take]; rfl)) ?_; (with_reducible refine (lapidaryref02_Front.calls 0 (wrap64 (2 + ((rdOf ByteArray.empty l0_2 0).size : Int))) a0_1 0 t129 t130 _ A6.out).mono ?_); rintro e w20 ⟨rfl, hb⟩; refine ⟨_, rfl, ?_⟩; have n0_ := Aside0.mk (Kd.R_below (by (with_reducible repeat (first | apply Kd.R_alloc | apply Kd.R_drewN | apply Kd.R_drew)); exact HO127.out) hb); have n1_ := Aside0.mk (blk_below (g := gb123) (o := .cells #[.int .i64 a0_0, .int .i64 a0_1, .slice (some ad128) l0_2.length c0_2] 24 (0, 0)) (by (with_reducible repeat (first | refine blk_drewN ?_ _ | refine blk_drew ?_ | refine blk_alloc ?_ _)); exact BK123.out) hb); have n2_ := Aside0.mk (below_step (by repeat (first | (with_reducible first | exact HB.out | apply below_alloc | apply pw_below_drewN | apply below_drew1 | refine below_set ?_ GE123.out) | exact HB.out)) hb); clear HO127; clear BK123; clear HB; have HO127 := n0_; have BK123 := n1_; have HB := n2_; clear n0_ n1_ n2_; (try clear hb); (try clear hb2); (try clear hk); (try clear hi); have p8 : 0 ≤ (1 : Int) := (by omega); have q8 : (1 : Int) < ((y125.length : Int) : Int) := of_decide_eq_true (by first | (with_reducible assumption) | assumption); have qi8 : (1 < y125.length) = True := eq_true (by omega); obtain ⟨go8, co8, eo8, gb8, gl8, cl8, HG8⟩ := Kd.R_form HO127.out (by omega); (first | cases eo8 | (injection eo8 with ea_ en_ ec_; (first | subst ea_ | (injection ea_ with ea_; subst ea_)); subst ec_; clear en_)); have GB8 := Aside0.mk gb8; have GG8 := Aside0.mk HG8; clear gb8 gl8 HG8; obtain ⟨hx8_0, hf8_0⟩ := Kd.R_celln 0 HO127.out (1 : Int) p8 q8; (try rw [show ((1 : Int)).toNat = 1 from rfl] at hx8_0); (try simp only [Nat.reduceMul, Nat.zero_mul, Nat.zero_add, Nat.reduceAdd] at hx8_0); (try rw [show ((1 : Int)).toNat = 1 from rfl] at hf8_0); (try simp only [Nat.reduceMul, Nat.zero_mul, Nat.zero_add, Nat.reduceAdd] at hf8_0); replace p8 := eq_true p8; replace q8 := eq_true q8; obtain ⟨hy21_, hz21_⟩ := Kd.R_celln 0 HO127.out (1 : Int) (by omega) (of_decide_eq_true (by first | (with_reducible assumption) | assumption)); (try simp only [Int.reduceToNat, Int.toNat_zero, Int.toNat_ofNat, Nat.reduceMul, Nat.zero_mul, Nat.zero_add] at hy21_ hz21_); (try rw [show ((1 : Int)).toNat = 1 from rfl] at hy21_); (try rw [show ((1 : Int)).toNat = 1 from rfl] at hz21_); have HP21 := Kd.R_putg HO127.out (1 : Int) t129) | ((with_reducible refine gate_store (t := 57) (p := 24) rfl ?_); refine store_event (t := 57) (p := 24) (v := ?vo_w22) (w1 := (w20.setCell ⟨go8, (1 : Int).toNat, none⟩ (.int .u64 t129))) ?hg ?ho ?hn ?hr ?_; (case ho => rfl); (case hg => rfl); (case hn => rfl); (case hr => first | (go_simp; done) | (go_simp; rfl)); intro w22 hw; have hg : w20.grownBy w22 (some go8) := (by rw [hw]; exact HP21.2); have hp_ : Kd.R (Kd.int .u64) 57 w22 w.heap.size (fun _ => True) (.slice (some ⟨go8, 0, none⟩) y125.length co8) y131 := (by rw [hw, Ny131.out]; exact HP21.1); clear HP21; have n0_ := Aside0.mk (blk_grown (g := gb123) (o := .cells #[.int .i64 a0_0, .int .i64 a0_1, .slice (some ad128) l0_2.length c0_2] 24 (0, 0)) (by (with_reducible repeat (first | refine blk_drewN ?_ _ | refine blk_drew ?_ | refine blk_alloc ?_ _)); exact BK123.out) hg (Kd.R_ne HO127.out BK123.out (by decide))); have n1_ := Aside0.mk (hp_); have n2_ := Aside0.mk ((by rw [hw]; exact below_set (HB.out) GB8.out : Below w.heap.size w w22)); clear BK123; clear HO127; clear HB; have BK123 := n0_; have HO127 := n1_; have HB := n2_; clear n0_ n1_ n2_; clear hg hw hp_; have hcz23_0 : w22.cell? ⟨gb123, 0, none⟩ = some (.int .i64 a0_0) := (blk_cell BK123.out 0).trans rfl; have hcz23_1 : w22.cell? ⟨gb123, 1, none⟩ = some (.int .i64 a0_1) := (blk_cell BK123.out 1).trans rfl; have hcz23_2 : w22.cell? ⟨gb123, 2, none⟩ = some (.slice (some ad128) l0_2.length c0_2) := (blk_cell BK123.out 2).trans rfl; have hfz23_0 := blk_frozen BK123.out 0; have hfz23_1 := blk_frozen BK123.out 1; have hfz23_2 := blk_frozen BK123.out 2) | ((with_reducible refine gate_callee (f := 17) rfl ?_); refine goesL_ (some 27) rfl rfl Tryd.func17 (by kernel_rfl) rfl #[.agg #[.int .i64 a0_0, .int .i64 a0_1, .slice (some ad128) l0_2.length c0_2], .int .i64 0] rfl (by (try simp only [List.map_toArray, List.map_cons, List.map_nil]); first | done | rfl | (simp only [List.length_drop, List.length_take]; rfl)) ?_; (with_reducible refine (lapidaryref06_Base.calls a0_0 a0_1 _ _ l0_2 0 t132 _ ?side1 ?side2 A9.out).mono ?_); (case side1 => repeat (first | exact (Kd.C_below HR0_2.out HB.out) | (with_reducible refine Kd.C_alloc ?_ _) | (with_reducible refine Kd.C_drewN ?_ _) | (with_reducible refine Kd.C_drew ?_))); (case side2 => exact HC0_2.out); rintro e w24 ⟨rfl, hb⟩; refine ⟨_, rfl, ?_⟩; have n0_ := Aside0.mk (Kd.R_below (by (with_reducible repeat (first | apply Kd.R_alloc | apply Kd.R_drewN | apply Kd.R_drew)); exact HO127.out) hb); have n1_ := Aside0.mk (blk_below (g := gb123) (o := .cells #[.int .i64 a0_0, .int .i64 a0_1, .slice (some ad128) l0_2.length c0_2] 24 (0, 0)) (by (with_reducible repeat (first | refine blk_drewN ?_ _ | refine blk_drew ?_ | refine blk_alloc ?_ _)); exact BK123.out) hb); have n2_ := Aside0.mk (below_step (by repeat (first | (with_reducible first | exact HB.out | apply below_alloc | apply pw_below_drewN | apply below_drew1 | refine below_set ?_ GE123.out) | exact HB.out)) hb); clear HO127; clear BK123; clear HB; have HO127 := n0_; have BK123 := n1_; have HB := n2_; clear n0_ n1_ n2_; (try clear hb); (try clear hb2); (try clear hk); (try clear hi)) | ((with_reducible refine gate_callee (f := 48) rfl ?_); refine goesL_ (some 28) rfl rfl Tryd.func48 (by kernel_rfl) rfl #[.int .i64 0, .int .i64 0] rfl (by (try simp only [List.map_toArray, List.map_cons, List.map_nil]); first | done | rfl | (simp only [List.length_drop, List.length_take]; rfl)) ?_; (with_reducible refine (lapidaryref04_Word.calls 0 0 t133 _ A10.out).mono ?_); rintro e w' ⟨rfl, ⟨nd, rfl⟩⟩; refine ⟨_, rfl, ?_⟩; (try (rw [drewN_self w24]; generalize hq_ : World.drewN w24 _ = w24; have n0_ : Aside0 (Kd.R (Kd.int .u64) 57 w24 w.heap.size (fun _ => True) (.slice (some ⟨go8, 0, none⟩) y125.length co8) y131) := ⟨by rw [← hq_]; exact (by (with_reducible repeat (first | apply Kd.R_alloc | apply Kd.R_drewN | apply Kd.R_drew)); exact HO127.out)⟩; have n1_ : Aside0 (w24.heap[gb123]? = some (.cells #[.int .i64 a0_0, .int .i64 a0_1, .slice (some ad128) l0_2.length c0_2] 24 (0, 0))) := ⟨by rw [← hq_]; exact (by (with_reducible repeat (first | refine blk_drewN ?_ _ | refine blk_drew ?_ | refine blk_alloc ?_ _)); exact BK123.out)⟩; have n2_ : Aside0 (Below w.heap.size w w24) := ⟨by rw [← hq_]; exact (by repeat (first | (with_reducible first | exact HB.out | apply below_alloc | apply pw_below_drewN | apply below_drew1 | refine below_set ?_ GE123.out) | exact HB.out))⟩; clear HO127 BK123 HB hq_; have HO127 := n0_; have BK123 := n1_; have HB := n2_; clear n0_ n1_ n2_)); have p13 : 0 ≤ (t132 : Int) := of_decide_eq_true (by first | (with_reducible assumption) | assumption); have q13 : (t132 : Int) < ((y125.length : Int) : Int) := of_decide_eq_true (by first | (with_reducible assumption) | assumption); obtain ⟨hx13_0, hf13_0⟩ := Kd.R_celln 0 HO127.out (t132 : Int) p13 q13; replace p13 := eq_true p13; replace q13 := eq_true q13; obtain ⟨hy25_, hz25_⟩ := Kd.R_celln 0 HO127.out (t132 : Int) (of_decide_eq_true (by first | (with_reducible assumption) | assumption)) (of_decide_eq_true (by first | (with_reducible assumption) | assumption)); have HP25 := Kd.R_putg HO127.out (t132 : Int) t133) | ((with_reducible refine gate_store (t := 57) (p := 29) rfl ?_); refine store_event (t := 57) (p := 29) (v := ?vo_w26) (w1 := (w24.setCell ⟨go8, (t132 : Int).toNat, none⟩ (.int .u64 t133))) ?hg ?ho ?hn ?hr ?_; (case ho => rfl); (case hg => rfl); (case hn => rfl); (case hr => first | (go_simp; done) | (go_simp; rfl)); intro w26 hw; have hg : w24.grownBy w26 (some go8) := (by rw [hw]; exact HP25.2); have hp_ : Kd.R (Kd.int .u64) 57 w26 w.heap.size (fun _ => True) (.slice (some ⟨go8, 0, none⟩) y125.length co8) y134 := (by rw [hw, Ny134.out]; exact HP25.1); clear HP25; have n0_ := Aside0.mk (blk_grown (g := gb123) (o := .cells #[.int .i64 a0_0, .int .i64 a0_1, .slice (some ad128) l0_2.length c0_2] 24 (0, 0)) (by (with_reducible repeat (first | refine blk_drewN ?_ _ | refine blk_drew ?_ | refine blk_alloc ?_ _)); exact BK123.out) hg (Kd.R_ne HO127.out BK123.out (by decide))); have n1_ := Aside0.mk (hp_); have n2_ := Aside0.mk ((by rw [hw]; exact below_set (HB.out) GB8.out : Below w.heap.size w w26)); clear BK123; clear HO127; clear HB; have BK123 := n0_; have HO127 := n1_; have HB := n2_; clear n0_ n1_ n2_; clear hg hw hp_))
              go_loopg [5] k (fun kq v5 w' => ∃ (x3_1 : List Int) (x5_1 : Int), v5 = .int .i64 x5_1 ∧ Aside0 (lapidaryref06_Start.l0 kq x3_1 (rdOf ByteArray.empty l0_2 0) x5_1 a0_0 a0_1 l0_2 = some r) ∧ Aside0 (kq ≤ k) ∧ Aside0 (Kd.R (Kd.int .u64) 57 w' w.heap.size (fun _ => True) (.slice (some ⟨go8, 0, none⟩) y125.length co8) x3_1) ∧ Aside0 (w'.heap[gb123]? = some (.cells #[.int .i64 a0_0, .int .i64 a0_1, (.slice (some ad128) l0_2.length c0_2)] 24 (0, 0))) ∧ Aside0 (Below w.heap.size w w'))
              case atStart => exact ⟨(y134), (0), (by first | rfl | (simp; done) | (simp [*]; done)), H', ⟨Nat.le_refl _⟩, ⟨by (with_reducible repeat (first | apply Kd.R_alloc | apply Kd.R_drewN | apply Kd.R_drew)); exact HO127.out⟩, ⟨by (with_reducible repeat (first | refine blk_drewN ?_ _ | refine blk_drew ?_ | refine blk_alloc ?_ _)); exact BK123.out⟩, ⟨by repeat (first | (with_reducible first | exact HB.out | apply below_alloc | apply pw_below_drewN | apply below_drew1 | refine below_set ?_ GE123.out) | exact HB.out)⟩⟩
              case round =>
                clear H'
                try clear c1
                try clear p1
                try clear q1
                try clear hx1
                try clear qi1
                try clear hf1
                try clear c2
                try clear p2
                try clear c3
                try clear c3b0
                try clear c3b1
                try clear c4
                try clear c4b0
                try clear c4b1
                try clear c5
                try clear c5b0
                try clear c5b1
                try clear p6
                try clear c7
                try clear c7b0
                try clear c7b1
                try clear p8
                try clear q8
                try clear hx8
                try clear qi8
                try clear hf8
                try clear c11
                try clear c11b0
                try clear c12
                try clear c12b0
                try clear p12
                try clear q12
                try clear hx12
                try clear qi12
                try clear p13
                try clear q13
                try clear hx13
                try clear hf13
                try clear c17
                try clear hcz15_0
                try clear hcz15_1
                try clear hcz15_2
                try clear hcz19_0
                try clear hcz19_1
                try clear hcz19_2
                try clear hcz23_0
                try clear hcz23_1
                try clear hcz23_2
                try clear hfz15_0
                try clear hfz15_1
                try clear hfz15_2
                try clear hfz19_0
                try clear hfz19_1
                try clear hfz19_2
                try clear hfz23_0
                try clear hfz23_1
                try clear hfz23_2
                try clear hx128_0
                try clear hx13_0
                try clear hx8_0
                try clear p128
                try clear p13
                try clear p8
                try clear q128
                try clear q13
                try clear q8
                obtain ⟨x3_1, x5_1, rfl, HA, HK1, HO_3, BK123, HB⟩ := hrel
                have hl3_1 := (Kd.R_reads' HO_3.out).1
                rw [hl3_1] at HO_3
                (try simp only [hl3_1])
                (try simp only [hl3_1] at BK123)
                cases gk with
                | zero => exact absurd HA.out (by simp [lapidaryref06_Start.l0])
                | succ k1 =>
                  have H := HA.out
                  clear HA
                  simp only [lapidaryref06_Start.l0] at H
                  by_cases c27 : x5_1 < ((rdOf ByteArray.empty l0_2 0).size : Int)
                  · rw [if_pos c27] at H
                    have c27b0 : decide (x5_1 < ((rdOf ByteArray.empty l0_2 0).size : Int)) = true := decide_eq_true c27
                    clear c27
                    by_cases c28 : 0 ≤ x5_1
                    · rw [if_pos c28] at H
                      have c28b0 : decide (0 ≤ x5_1) = true := decide_eq_true c28
                      clear c28
                      by_cases c30 : (bt (rdOf ByteArray.empty l0_2 0) x5_1) = 115
                      · rw [if_pos c30] at H
                        have c30b0 : ((bt (rdOf ByteArray.empty l0_2 0) x5_1) == 115) = true := beq_iff_eq.mpr c30
                        have c30b1 : ((bt (rdOf ByteArray.empty l0_2 0) x5_1) != 115) = false := bne_eq_false_iff_eq.mpr c30
                        clear c30
                        replace H := Option.bind_eq_some_iff.mp H
                        obtain ⟨t135, A310, H⟩ := H
                        replace H : ((lapidaryref01_Scalar.f k1 0).bind fun bt136 => (if 0 ≤ (wrap64 ((wrap64 (t135 + 2)) + x5_1)) then (if (wrap64 ((wrap64 (t135 + 2)) + x5_1)) < (x3_1.length : Int) then (lapidaryref06_Start.l0 k1 (x3_1.set ((wrap64 ((wrap64 (t135 + 2)) + x5_1)) : Int).toNat bt136.1) (rdOf ByteArray.empty l0_2 0) (wrap64 (x5_1 + 1)) a0_0 a0_1 l0_2) else (none)) else (none))) = some r := H
                        have A31 := Aside0.mk A310
                        clear A310
                        replace H := Option.bind_eq_some_iff.mp H
                        obtain ⟨⟨t136, t137⟩, A320, H⟩ := H
                        replace H : (if 0 ≤ (wrap64 ((wrap64 (t135 + 2)) + x5_1)) then (if (wrap64 ((wrap64 (t135 + 2)) + x5_1)) < (x3_1.length : Int) then (lapidaryref06_Start.l0 k1 (x3_1.set ((wrap64 ((wrap64 (t135 + 2)) + x5_1)) : Int).toNat t136) (rdOf ByteArray.empty l0_2 0) (wrap64 (x5_1 + 1)) a0_0 a0_1 l0_2) else (none)) else (none)) = some r := H
                        have A32 := Aside0.mk A320
                        clear A320
                        obtain ⟨ji33, hji33⟩ : ∃ j_ : Int, (wrap64 ((wrap64 (t135 + 2)) + x5_1)) = j_ := ⟨_, rfl⟩
                        replace H : (if 0 ≤ (ji33) then (if (ji33) < (x3_1.length : Int) then (lapidaryref06_Start.l0 k1 (x3_1.set ((ji33) : Int).toNat t136) (rdOf ByteArray.empty l0_2 0) (wrap64 (x5_1 + 1)) a0_0 a0_1 l0_2) else (none)) else (none)) = some r := by first | (rw [hji33] at H; exact H) | (simp only [hji33] at H ⊢; exact H)
                        (try rw [hji33] at A31)
                        (try rw [hji33] at A32)
                        have hji33w : (IntKind.i64.wrap ((wrap64 (t135 + 2)) + x5_1)) = ji33 := (i64_w _).trans hji33
                        by_cases c34 : 0 ≤ (ji33)
                        · rw [if_pos c34] at H
                          have c34b0 : decide (0 ≤ (ji33)) = true := decide_eq_true c34
                          clear c34
                          by_cases c35 : (ji33) < (x3_1.length : Int)
                          · rw [if_pos c35] at H
                            have c35b0 : decide ((ji33) < (x3_1.length : Int)) = true := decide_eq_true c35
                            clear c35
                            obtain ⟨y138, hy138⟩ : ∃ y_ : List Int, y_ = (x3_1.set ((ji33) : Int).toNat t136) := ⟨_, rfl⟩
                            replace H : (lapidaryref06_Start.l0 k1 y138 (rdOf ByteArray.empty l0_2 0) (wrap64 (x5_1 + 1)) a0_0 a0_1 l0_2) = some r := by first | (rw [hy138]; with_reducible exact H) | (have H2_ := (Option.bind_some _ _).symm.trans H; rw [hy138]; with_reducible exact H2_) | (have H2_ := (Option.bind_some _ _).symm.trans H; with_reducible exact H2_) | with_reducible exact H | (rw [hy138]; exact H) | exact H
                            have Ny138 := Aside0.mk hy138
                            clear hy138
                            have H' := Aside0.mk H
                            clear H
                            have p29 : 0 ≤ (x5_1 : Int) := of_decide_eq_true (by first | (with_reducible assumption) | assumption)
                            have q29 : x5_1 < ((rdOf ByteArray.empty l0_2 0).size : Int) := of_decide_eq_true (by first | (with_reducible assumption) | assumption)
                            have hx29 := bt_at (rdOf ByteArray.empty l0_2 0) x5_1
                            replace p29 := eq_true p29
                            replace q29 := eq_true q29
                            have hcz37_0 : wr.cell? ⟨gb123, 0, none⟩ = some (.int .i64 a0_0) := (blk_cell BK123.out 0).trans rfl
                            have hcz37_1 : wr.cell? ⟨gb123, 1, none⟩ = some (.int .i64 a0_1) := (blk_cell BK123.out 1).trans rfl
                            have hcz37_2 : wr.cell? ⟨gb123, 2, none⟩ = some (.slice (some ad128) l0_2.length c0_2) := (blk_cell BK123.out 2).trans rfl
                            have hfz37_0 := blk_frozen BK123.out 0
                            have hfz37_1 := blk_frozen BK123.out 1
                            have hfz37_2 := blk_frozen BK123.out 2
                            go_wp2_with (first | ((with_reducible refine gate_callee (f := 17) rfl ?_); refine goesL_ (some 43) rfl rfl Tryd.func17 (by kernel_rfl) rfl #[.agg #[.int .i64 a0_0, .int .i64 a0_1, .slice (some ad128) l0_2.length c0_2], .int .i64 0] rfl (by (try simp only [List.map_toArray, List.map_cons, List.map_nil]); first | done | rfl | (simp only [List.length_drop, List.length_take]; rfl)) ?_; (with_reducible refine (lapidaryref06_Base.calls a0_0 a0_1 _ _ l0_2 0 t135 _ ?side1 ?side2 A31.out).mono ?_); (case side1 => repeat (first | exact (Kd.C_below HR0_2.out HB.out) | (with_reducible refine Kd.C_alloc ?_ _) | (with_reducible refine Kd.C_drewN ?_ _) | (with_reducible refine Kd.C_drew ?_))); (case side2 => exact HC0_2.out); rintro e w38 ⟨rfl, hb⟩; refine ⟨_, rfl, ?_⟩; have n0_ := Aside0.mk (Kd.R_below (by (with_reducible repeat (first | apply Kd.R_alloc | apply Kd.R_drewN | apply Kd.R_drew)); exact HO_3.out) hb); have n1_ := Aside0.mk (blk_below (g := gb123) (o := .cells #[.int .i64 a0_0, .int .i64 a0_1, .slice (some ad128) l0_2.length c0_2] 24 (0, 0)) (by (with_reducible repeat (first | refine blk_drewN ?_ _ | refine blk_drew ?_ | refine blk_alloc ?_ _)); exact BK123.out) hb); have n2_ := Aside0.mk (below_step (by repeat (first | (with_reducible first | exact HB.out | apply below_alloc | apply pw_below_drewN | apply below_drew1 | refine below_set ?_ GE123.out) | exact HB.out)) hb); clear HO_3; clear BK123; clear HB; have HO_3 := n0_; have BK123 := n1_; have HB := n2_; clear n0_ n1_ n2_; (try clear hb); (try clear hb2); (try clear hk); (try clear hi)) | ((with_reducible refine gate_callee (f := 49) rfl ?_); refine goesL_ (some 47) rfl rfl Tryd.func49 (by kernel_rfl) rfl #[.int .i64 0] rfl (by (try simp only [List.map_toArray, List.map_cons, List.map_nil]); first | done | rfl | (simp only [List.length_drop, List.length_take]; rfl)) ?_; (with_reducible refine (lapidaryref01_Scalar.calls k1 0 t136 t137 _ A32.out).mono ?_); rintro e w39 ⟨rfl, hb⟩; refine ⟨_, rfl, ?_⟩; have n0_ := Aside0.mk (Kd.R_below (by (with_reducible repeat (first | apply Kd.R_alloc | apply Kd.R_drewN | apply Kd.R_drew)); exact HO_3.out) hb); have n1_ := Aside0.mk (blk_below (g := gb123) (o := .cells #[.int .i64 a0_0, .int .i64 a0_1, .slice (some ad128) l0_2.length c0_2] 24 (0, 0)) (by (with_reducible repeat (first | refine blk_drewN ?_ _ | refine blk_drew ?_ | refine blk_alloc ?_ _)); exact BK123.out) hb); have n2_ := Aside0.mk (below_step (by repeat (first | (with_reducible first | exact HB.out | apply below_alloc | apply pw_below_drewN | apply below_drew1 | refine below_set ?_ GE123.out) | exact HB.out)) hb); clear HO_3; clear BK123; clear HB; have HO_3 := n0_; have BK123 := n1_; have HB := n2_; clear n0_ n1_ n2_; (try clear hb); (try clear hb2); (try clear hk); (try clear hi); have p36 : 0 ≤ ((ji33) : Int) := of_decide_eq_true (by first | (with_reducible assumption) | assumption); have q36 : ((ji33) : Int) < ((x3_1.length : Int) : Int) := of_decide_eq_true (by first | (with_reducible assumption) | assumption); obtain ⟨hx36_0, hf36_0⟩ := Kd.R_celln 0 HO_3.out ((ji33) : Int) p36 q36; replace p36 := eq_true p36; replace q36 := eq_true q36; obtain ⟨hy40_, hz40_⟩ := Kd.R_celln 0 HO_3.out ((ji33) : Int) (of_decide_eq_true (by first | (with_reducible assumption) | assumption)) (of_decide_eq_true (by first | (with_reducible assumption) | assumption)); have HP40 := Kd.R_putg HO_3.out ((ji33) : Int) t136) | ((with_reducible refine gate_store (t := 57) (p := 50) rfl ?_); refine store_event (t := 57) (p := 50) (v := ?vo_w41) (w1 := (w39.setCell ⟨go8, ((ji33) : Int).toNat, none⟩ (.int .u64 t136))) ?hg ?ho ?hn ?hr ?_; (case ho => rfl); (case hg => rfl); (case hn => rfl); (case hr => first | (go_simp; done) | (go_simp; rfl)); intro w41 hw; have hg : w39.grownBy w41 (some go8) := (by rw [hw]; exact HP40.2); have hp_ : Kd.R (Kd.int .u64) 57 w41 w.heap.size (fun _ => True) (.slice (some ⟨go8, 0, none⟩) x3_1.length co8) y138 := (by rw [hw, Ny138.out]; exact HP40.1); clear HP40; have n0_ := Aside0.mk (hp_); have n1_ := Aside0.mk (blk_grown (g := gb123) (o := .cells #[.int .i64 a0_0, .int .i64 a0_1, .slice (some ad128) l0_2.length c0_2] 24 (0, 0)) (by (with_reducible repeat (first | refine blk_drewN ?_ _ | refine blk_drew ?_ | refine blk_alloc ?_ _)); exact BK123.out) hg (Kd.R_ne HO_3.out BK123.out (by decide))); have n2_ := Aside0.mk ((by rw [hw]; exact below_set (HB.out) GB8.out : Below w.heap.size w w41)); clear HO_3; clear BK123; clear HB; have HO_3 := n0_; have BK123 := n1_; have HB := n2_; clear n0_ n1_ n2_; clear hg hw hp_))
                            (try simp only [← hl3_1])
                            go_roundg k1
                            case measure => have := HK1.out; omega
                            case rel => exact ⟨(y138), (wrap64 (x5_1 + 1)), (by first | rfl | (simp; done) | (simp [*]; done)), H', ⟨by have := HK1.out; omega⟩, ⟨by (try simp only [hl3_1]); (with_reducible repeat (first | apply Kd.R_alloc | apply Kd.R_drewN | apply Kd.R_drew)); exact HO_3.out⟩, ⟨by (try simp only [hl3_1]); (with_reducible repeat (first | refine blk_drewN ?_ _ | refine blk_drew ?_ | refine blk_alloc ?_ _)); exact BK123.out⟩, ⟨by repeat (first | (with_reducible first | exact HB.out | apply below_alloc | apply pw_below_drewN | apply below_drew1 | refine below_set ?_ GE123.out) | exact HB.out)⟩⟩
                          · rw [if_neg c35] at H
                            exact absurd H (by simp)
                        · rw [if_neg c34] at H
                          exact absurd H (by simp)
                      · rw [if_neg c30] at H
                        have c30b0 : ((bt (rdOf ByteArray.empty l0_2 0) x5_1) == 115) = false := beq_eq_false_iff_ne.mpr c30
                        have c30b1 : ((bt (rdOf ByteArray.empty l0_2 0) x5_1) != 115) = true := bne_iff_ne.mpr c30
                        have H' := Aside0.mk H
                        clear H
                        have p29 : 0 ≤ (x5_1 : Int) := of_decide_eq_true (by first | (with_reducible assumption) | assumption)
                        have q29 : x5_1 < ((rdOf ByteArray.empty l0_2 0).size : Int) := of_decide_eq_true (by first | (with_reducible assumption) | assumption)
                        have hx29 := bt_at (rdOf ByteArray.empty l0_2 0) x5_1
                        replace p29 := eq_true p29
                        replace q29 := eq_true q29
                        go_wp2
                        (try simp only [← hl3_1])
                        go_roundg k1
                        case measure => have := HK1.out; omega
                        case rel => exact ⟨(x3_1), (wrap64 (x5_1 + 1)), (by first | rfl | (simp; done) | (simp [*]; done)), H', ⟨by have := HK1.out; omega⟩, ⟨by (try simp only [hl3_1]); (with_reducible repeat (first | apply Kd.R_alloc | apply Kd.R_drewN | apply Kd.R_drew)); exact HO_3.out⟩, ⟨by (try simp only [hl3_1]); (with_reducible repeat (first | refine blk_drewN ?_ _ | refine blk_drew ?_ | refine blk_alloc ?_ _)); exact BK123.out⟩, ⟨by repeat (first | (with_reducible first | exact HB.out | apply below_alloc | apply pw_below_drewN | apply below_drew1 | refine below_set ?_ GE123.out) | exact HB.out)⟩⟩
                    · rw [if_neg c28] at H
                      exact absurd H (by simp)
                  · rw [if_neg c27] at H
                    have c27b0 : decide (x5_1 < ((rdOf ByteArray.empty l0_2 0).size : Int)) = false := decide_eq_false c27
                    clear c27
                    obtain rfl := Option.some.inj H
                    go_wp2
                    go_ret
                    exact ⟨_, by first | rfl | (simp [errW_none, errW_some] <;> rfl) | (simp [*, errW_none, errW_some] <;> rfl), by (with_reducible repeat (first | apply Kd.R_alloc | apply Kd.R_drewN | apply Kd.R_drew)); exact HO_3.out, by repeat (first | (with_reducible first | exact HB.out | apply below_alloc | apply pw_below_drewN | apply below_drew1 | refine below_set ?_ GE123.out) | exact HB.out)⟩
            · rw [if_neg c12] at H
              exact absurd H (by simp)
          · rw [if_neg c11] at H
            exact absurd H (by simp)
        · rw [if_neg c7] at H
          exact absurd H (by simp)
      · rw [if_neg c5] at H
        exact absurd H (by simp)
    · rw [if_neg c4] at H
      exact absurd H (by simp)
  · rw [if_neg c3] at H
    exact absurd H (by simp)

end Go.Proofs.YtiodkcecpnomcaaDoorQ.Pk
