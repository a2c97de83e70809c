/- (a pointer alone) The layer 'word': the word that is made. -/
import Derived.Test.YtafenndokmccoaaLook
import Derived.Deep.RegionHeld3
namespace Go.Proofs.Ytafenndokmccoaa
open Go.RowKit
set_option linter.unusedVariables false
set_option linter.unusedSimpArgs false

def mkE (K : Int) (S : Bool) (V : Int) : Int :=
  if K ≤ 0 ∨ 4 < K ∨ (K = 4 ∧ S = true) then 2 else if K = 2 then (if 1 ≤ V ∧ V ≤ 16777215 then 0 else 4) else if K = 3 then (if -576460752303423488 ≤ V ∧ V ≤ 576460752303423487 then 0 else 4) else if V = 0 then 0 else 2
def mkB (K V : Int) : Int := if K = 1 then 0 else if K = 2 then 8 * V else if K = 3 then 8 * (V + 576460752303423488) + 4 else 2
def mkW (K : Int) (S : Bool) (V : Int) : Int := if mkE K S V = 0 then mkB K V + (if S = true then 1 else 0) else 0

/-- a struct of three cells that is read while others make memory -/
def Hold3 (W0 : World) (B b : Nat) (v0 v1 v2 : Value) (A : World) : Prop := A.cell? ⟨b, 0, none⟩ = some v0 ∧ A.cell? ⟨b, 1, none⟩ = some v1 ∧ A.cell? ⟨b, 2, none⟩ = some v2 ∧ b < B ∧ B ≤ A.heap.size ∧ Below B W0 A
theorem Hold3.to {W0 : World} {B b : Nat} {v0 v1 v2 : Value} {A C : World} (h : Hold3 W0 B b v0 v1 v2 A) (hAC : Below B A C) : Hold3 W0 B b v0 v1 v2 C :=
  have hb := h.2.2.2.1
  ⟨(hAC.cell (p := ⟨b, 0, none⟩) hb).trans h.1, (hAC.cell (p := ⟨b, 1, none⟩) hb).trans h.2.1, (hAC.cell (p := ⟨b, 2, none⟩) hb).trans h.2.2.1, hb, Nat.le_trans h.2.2.2.2.1 hAC.size, h.2.2.2.2.2.trans hAC⟩
theorem Hold3.call {W0 : World} {B b : Nat} {v0 v1 v2 : Value} {A C : World} (h : Hold3 W0 B b v0 v1 v2 A) (hb : Below A.heap.size A C) : Hold3 W0 B b v0 v1 v2 C :=
  h.to (hb.mono h.2.2.2.2.1)
theorem Hold3.alloc {W0 : World} {B b : Nat} {v0 v1 v2 : Value} {A : World} (h : Hold3 W0 B b v0 v1 v2 A) (o : Obj) : Hold3 W0 B b v0 v1 v2 (A.alloc o) :=
  h.to ((Below.refl _ _).alloc h.2.2.2.2.1 _)
theorem Hold3.set {W0 : World} {B b : Nat} {v0 v1 v2 : Value} {A : World} (h : Hold3 W0 B b v0 v1 v2 A) (p : Addr) (hp : B ≤ p.block) (v : Value) : Hold3 W0 B b v0 v1 v2 (A.setCell p v) :=
  h.to ((Below.refl _ _).setCell hp v)
theorem Hold3.drew {W0 : World} {B b : Nat} {v0 v1 v2 : Value} {A : World} (h : Hold3 W0 B b v0 v1 v2 A) : Hold3 W0 B b v0 v1 v2 A.drew := h.to (Below.refl _ _).drew
theorem Hold3.new (w : World) (v0 v1 v2 : Value) (t : TypeId) : Hold3 (w.alloc (.cells #[v0, v1, v2] t)) (w.heap.size + 1) w.heap.size v0 v1 v2 (w.alloc (.cells #[v0, v1, v2] t)) :=
  ⟨by simp [go_sem], by simp [go_sem], by simp [go_sem], Nat.lt_succ_self _, by simp, Below.refl _ _⟩
/-- a struct of five cells of the call's own -/
def Own5 (B X : Nat) (v0 v1 v2 v3 v4 : Value) (A : World) : Prop := B ≤ X ∧ A.cell? ⟨X, 0, none⟩ = some v0 ∧ A.cell? ⟨X, 1, none⟩ = some v1 ∧ A.cell? ⟨X, 2, none⟩ = some v2 ∧ A.cell? ⟨X, 3, none⟩ = some v3 ∧ A.cell? ⟨X, 4, none⟩ = some v4

theorem or_four_u64 (x : Int) (h0 : 0 ≤ x) (h1 : x < 1152921504606846976) : bits .or .u64 (x * 8) 4 = x * 8 + 4 := by
  obtain ⟨i, rfl⟩ := Int.eq_ofNat_of_zero_le h0
  have h : bits .or .u64 ((i : Int) * 8) 4 = ((i * 8 + 4 : Nat) : Int) := by
    show IntKind.u64.wrap ((BitVec.ofInt 64 ((i : Int) * 8) ||| BitVec.ofInt 64 ((4 : Nat) : Int)).toNat : Int) = _
    have e : ((i : Int) * 8) = ((i * 8 : Nat) : Int) := by omega
    rw [e, BitVec.toNat_or, ofInt_u64 (i * 8) (by omega), ofInt_u64 4 (by omega)]
    have e2 : i * 8 ||| 4 = i * 8 + 4 := by
      have := Nat.two_pow_add_eq_or_of_lt (i := 3) (b := 4) (by decide) i
      rw [Nat.mul_comm i 8]
      exact this.symm
    rw [e2]
    exact wrap_u64_small _ (by omega)
  rw [h]
  omega

theorem ret_wi {a b : Int} {e : Int} (h : a = b) : Ending.returned (.tuple #[.int .u64 a, .int .i64 e]) = .returned (.tuple #[.int .u64 b, .int .i64 e]) := by rw [h]

set_option maxRecDepth 100000 in
set_option maxHeartbeats 3200000 in
theorem make_ok2f (V : Int) (hl : 1 ≤ V) (hm : V ≤ 16777215) (w : World) :
    Calls Try.prog 117 #[.agg #[.int .i64 2, .bool false, .int .i64 V]] w fun e w' => e = .returned (.tuple #[.int .u64 (8 * V), .int .i64 0]) ∧ Below w.heap.size w w' := by
  have i2 := i2_
  have hor : bits .or .u64 (V * 8) 1 = V * 8 + 1 := by rw [or_one_u64 _ (by omega) (by omega)]; omega
  go_enter Try.func117, Try.ntmps117
  go_wp2_with fail
  refine Code.wp_mono (Q := fun e a W => e = Exit.normal ∧ ∃ X : Nat, a = (?frameOf : Nat → Act) X ∧ Hold3 (w.alloc (.cells #[.int .i64 2, .bool false, .int .i64 V] 173)) (w.heap.size + 1) w.heap.size (.int .i64 2) (.bool false) (.int .i64 V) W ∧ Own5 (w.heap.size + 1) X (.string ⟨#[]⟩) (.func (.func 155) #[] #[]) (.int .i64 1) (.int .i64 16777215) (.func (.func 156) #[] #[]) W) ?imp ?reg
  case reg =>
    refine wp_region_held_drew (S := Hold3 (w.alloc (.cells #[.int .i64 2, .bool false, .int .i64 V] 173)) (w.heap.size + 1) w.heap.size (.int .i64 2) (.bool false) (.int .i64 V)) (by kernel_rfl) ?hS0 (fun hHeld => ?_)
    case hS0 => exact (Hold3.new _ _ _ _ _).drew
    (refine wpAnyH_take (i := 1) (oi := ?oiz1) (v := ?vz1) ?hiz1 ?hsz1 ?hfz1 ?hrz1 ?hQz1 ?hyz1 ?hSz1 ?hz1)
    (case hiz1 => rfl)
    (case hsz1 => kernel_rfl)
    (case hfz1 => kernel_rfl)
    (case hrz1 => kernel_rfl)
    (case hQz1 => first | exact fun _ _ _ h => h | exact fun _ _ _ h => (nomatch h.1))
    (case hSz1 => assumption)
    (case hyz1 => (refine Or.inl ⟨by rfl, ?_⟩; intro W hW; (try dsimp only at hW); go_simp; try with_reducible rfl))
    (try simp only [List.getElem_toArray, List.getElem_cons_succ, List.getElem_cons_zero, Act.put, List.setIfInBounds_toArray, List.set_cons_zero, List.set_cons_succ])
    (refine wpAnyH_take (i := 2) (oi := ?oiz2) (v := ?vz2) ?hiz2 ?hsz2 ?hfz2 ?hrz2 ?hQz2 ?hyz2 ?hSz2 ?hz2)
    (case hiz2 => rfl)
    (case hsz2 => kernel_rfl)
    (case hfz2 => kernel_rfl)
    (case hrz2 => kernel_rfl)
    (case hQz2 => first | exact fun _ _ _ h => h | exact fun _ _ _ h => (nomatch h.1))
    (case hSz2 => assumption)
    (case hyz2 => (refine Or.inl ⟨by rfl, ?_⟩; intro W hW; obtain ⟨h0, h1, h2, -⟩ := hW; go_simp; try with_reducible rfl))
    (try simp only [List.getElem_toArray, List.getElem_cons_succ, List.getElem_cons_zero, Act.put, List.setIfInBounds_toArray, List.set_cons_zero, List.set_cons_succ])
    refine wpAnyH_ready (rs := [0, 4]) (by kernel_rfl) (by simp) ?_
    refine AllReadyH.cons rfl (fun K' hK => ?_) (AllReadyH.cons rfl (fun K' hK => ?_) AllReadyH.nil)
    · go_simp
      refine (rows_calls _).mono ?_
      rintro e1 w1 ⟨rfl, hb1⟩
      refine hK.out _ _ (Hold3.call hHeld hb1) (fun hHeld1 => ?_)
      clear hK K' hHeld
      try simp only [List.getElem_toArray, List.getElem_cons_succ, List.getElem_cons_zero, Act.put, List.setIfInBounds_toArray, List.set_cons_zero, List.set_cons_succ]
      (refine wpAnyH_take (i := 3) (oi := ?oiz3) (v := ?vz3) ?hiz3 ?hsz3 ?hfz3 ?hrz3 ?hQz3 ?hyz3 ?hSz3 ?hz3)
      (case hiz3 => rfl)
      (case hsz3 => kernel_rfl)
      (case hfz3 => kernel_rfl)
      (case hrz3 => kernel_rfl)
      (case hQz3 => first | exact fun _ _ _ h => h | exact fun _ _ _ h => (nomatch h.1))
      (case hSz3 => assumption)
      (case hyz3 => (refine Or.inl ⟨by rfl, ?_⟩; intro W hW; (try dsimp only at hW); go_simp; try with_reducible rfl))
      (try simp only [List.getElem_toArray, List.getElem_cons_succ, List.getElem_cons_zero, Act.put, List.setIfInBounds_toArray, List.set_cons_zero, List.set_cons_succ])
      refine wpAnyH_ready (rs := [4]) (by kernel_rfl) (by simp) ?_
      refine AllReadyH.cons rfl (fun K hK => ?_) (AllReadyH.nil)
      go_simp
      refine hK.out _ _ (Hold3.alloc hHeld1 _) (fun hHeld2 => ?_)
      clear hK K
      try simp only [List.getElem_toArray, List.getElem_cons_succ, List.getElem_cons_zero, Act.put, List.setIfInBounds_toArray, List.set_cons_zero, List.set_cons_succ]
      refine wpAnyH_ready (rs := [5]) (by kernel_rfl) (by simp) ?_
      refine AllReadyH.cons rfl (fun K hK => ?_) (AllReadyH.nil)
      go_simp
      refine hK.out _ _ (by with_reducible exact Hold3.alloc hHeld1 _) (fun hHeld3 => ?_)
      clear hK K
      try simp only [List.getElem_toArray, List.getElem_cons_succ, List.getElem_cons_zero, Act.put, List.setIfInBounds_toArray, List.set_cons_zero, List.set_cons_succ]
      refine wpAnyH_done (by kernel_rfl) ?_ _
      have key : Own5 (w.heap.size + 1) w1.heap.size (.string ⟨#[]⟩) (.func (.func 155) #[] #[]) (.int .i64 1) (.int .i64 16777215) (.func (.func 156) #[] #[]) (w1.alloc (.cells #[.string ⟨#[]⟩, .func (.func 155) #[] #[], .int .i64 1, .int .i64 16777215, .func (.func 156) #[] #[]] 214)) :=
        ⟨hHeld1.2.2.2.2.1, by simp [go_sem], by simp [go_sem], by simp [go_sem], by simp [go_sem], by simp [go_sem]⟩
      clear hHeld1 hHeld2 hb1
      revert key
      generalize w1.heap.size = X
      intro key
      refine ⟨rfl, X, ?_, hHeld3, key⟩
      with_reducible rfl
    · go_simp
      refine hK.out _ _ (Hold3.alloc hHeld _) (fun hHeld1 => ?_)
      clear hK K' hHeld
      try simp only [List.getElem_toArray, List.getElem_cons_succ, List.getElem_cons_zero, Act.put, List.setIfInBounds_toArray, List.set_cons_zero, List.set_cons_succ]
      refine wpAnyH_ready (rs := [0]) (by kernel_rfl) (by simp) ?_
      refine AllReadyH.cons rfl (fun K hK => ?_) (AllReadyH.nil)
      go_simp
      refine (rows_calls _).mono ?_
      rintro e1 w1 ⟨rfl, hb1⟩
      refine hK.out _ _ (Hold3.call hHeld1 hb1) (fun hHeld2 => ?_)
      clear hK K
      try simp only [List.getElem_toArray, List.getElem_cons_succ, List.getElem_cons_zero, Act.put, List.setIfInBounds_toArray, List.set_cons_zero, List.set_cons_succ]
      (refine wpAnyH_take (i := 3) (oi := ?oiy3) (v := ?vy3) ?hiy3 ?hsy3 ?hfy3 ?hry3 ?hQy3 ?hyy3 ?hSy3 ?hy3)
      (case hiy3 => rfl)
      (case hsy3 => kernel_rfl)
      (case hfy3 => kernel_rfl)
      (case hry3 => kernel_rfl)
      (case hQy3 => first | exact fun _ _ _ h => h | exact fun _ _ _ h => (nomatch h.1))
      (case hSy3 => assumption)
      (case hyy3 => (refine Or.inl ⟨by rfl, ?_⟩; intro W hW; skip; go_simp; try with_reducible rfl))
      (try simp only [List.getElem_toArray, List.getElem_cons_succ, List.getElem_cons_zero, Act.put, List.setIfInBounds_toArray, List.set_cons_zero, List.set_cons_succ])
      obtain ⟨hc1, hf1⟩ := bcell hb1
      have zq0 := hc1 (w.heap.size + 1) 0 (by simp)
      have zf0 := hf1 (w.heap.size + 1) 0 (by simp)
      have zq1 := hc1 (w.heap.size + 1) 1 (by simp)
      have zf1 := hf1 (w.heap.size + 1) 1 (by simp)
      have zq2 := hc1 (w.heap.size + 1) 2 (by simp)
      have zf2 := hf1 (w.heap.size + 1) 2 (by simp)
      have zq3 := hc1 (w.heap.size + 1) 3 (by simp)
      have zf3 := hf1 (w.heap.size + 1) 3 (by simp)
      have zq4 := hc1 (w.heap.size + 1) 4 (by simp)
      have zf4 := hf1 (w.heap.size + 1) 4 (by simp)
      simp [go_sem] at zq0 zq1 zq2 zq3 zq4 zf0 zf1 zf2 zf3 zf4
      clear hc1 hf1
      refine wpAnyH_ready (rs := [5]) (by kernel_rfl) (by simp) ?_
      refine AllReadyH.cons rfl (fun K hK => ?_) (AllReadyH.nil)
      go_simp
      have hset : ∀ (A : World), Hold3 (w.alloc (.cells #[.int .i64 2, .bool false, .int .i64 V] 173)) (w.heap.size + 1) w.heap.size (.int .i64 2) (.bool false) (.int .i64 V) A → ∀ (o : Nat) (v : Value), Hold3 (w.alloc (.cells #[.int .i64 2, .bool false, .int .i64 V] 173)) (w.heap.size + 1) w.heap.size (.int .i64 2) (.bool false) (.int .i64 V) (A.setCell ⟨w.heap.size + 1, o, none⟩ v) := fun A h o v => h.set _ (Nat.le_refl _) v
      refine hK.out _ _ (by with_reducible exact hset _ (hset _ (hset _ (hset _ (hset _ hHeld2 0 _) 1 _) 2 _) 3 _) 4 _) (fun hHeld3 => ?_)
      clear hK K hset
      try simp only [List.getElem_toArray, List.getElem_cons_succ, List.getElem_cons_zero, Act.put, List.setIfInBounds_toArray, List.set_cons_zero, List.set_cons_succ]
      refine wpAnyH_done (by kernel_rfl) ?_ _
      refine ⟨rfl, w.heap.size + 1, rfl, hHeld3, Nat.le_refl _, ?_, ?_, ?_, ?_, ?_⟩
      all_goals simp [cell_off, cell_put, zq0, zq1, zq2, zq3, zq4]
  case imp =>
    rintro e a W ⟨rfl, X, rfl, ⟨c0, c1, c2, _, hz, hbW⟩, hX, x0, x1, x2, x3, x4⟩
    have hbw : Below w.heap.size w W := ((Below.refl w.heap.size w).alloc (Nat.le_refl _) _).trans (hbW.mono (Nat.le_succ _))
    clear hbW
    go_wp2
    go_ret2
    exact ⟨ret_wi (by omega), hbw⟩
end Go.Proofs.Ytafenndokmccoaa
