/- The law of layer 'wipe': the words that a machine that is alone leaves. -/
import Derived.Test.YtafenndokmccoaaClrN
namespace Go.Proofs.Ytafenndokmccoaa
open Go.RowKit
set_option linter.unusedVariables false
set_option linter.unusedSimpArgs false
attribute [local go_sem] Oper.semAt_some

set_option maxHeartbeats 6400000 in
set_option maxRecDepth 1000000 in
theorem whole_in0 (P : CPar) (a : Option Addr) (c : Nat) (hn : Fit P.ss) (fs fl fh fo : Int) (wa : Option Addr) (wc : Nat) (ws : List Int) (hwn : wa = none → wc = 0) (hwr : ∀ x ∈ ws, 0 ≤ x ∧ x < 18446744073709551616) (hm : mdB P.t P.sp P.ss fs fl fh fo ws.length = true) (hi : Int) (hP : CPOk P) (hfs : P.fr = fs) (hhi : P.hi = hi) (ho : ¬ fo ≤ hi) (w : World) (hs : SlOf w a (strV P.ss)) (hw : WdsOf w wa ws) :
    Calls Try.prog 6 #[hpV P.t P.sp a P.ss.length c fs fl fh fo wa ws.length wc, .int .i64 hi] w fun e w' => e = .returned (.bool true) ∧ Below w.heap.size w w' := by
  have MD := fun W h hW => made27_ok P.t P.sp a c P.ss hn fs fl fh fo wa wc ws hwn hm W h hW
  have hm' := hm
  unfold mdB at hm'
  simp only [Bool.and_eq_true, decide_eq_true_eq] at hm'
  obtain ⟨⟨⟨⟨⟨-, hp⟩, h100⟩, -⟩, hFr⟩, hfh⟩ := hm'
  have hLr := mdW_rng hp hFr hwr
  have hLl := mdW_len fs fl fh fo ws hp
  have hL1 := mdW_one fs fl fh fo ws hp
  obtain ⟨b1, b2, b3, b4, b5⟩ := plan_ok hp
  have WK := Lib.hid (fun W => works27_calls W)
  unfold hpV at MD
  unfold hpV
  generalize mdW P.t P.sp P.ss fs fl fh fo ws = L at MD hLr hLl hL1
  have MD := Lib.hid MD
  have HS := Lib.hid hs
  have HW := Lib.hid hw
  clear hs hw hm
  have hX := (MapKept.heap_alloc w (.cells #[.int .i64 P.t, .int .i64 P.sp, .slice a P.ss.length c, .int .i64 fs, .int .i64 fl, .int .i64 fh, .int .i64 fo, .slice wa ws.length wc] 29)).1
  have hb0 : Below w.heap.size w (w.alloc (.cells #[.int .i64 P.t, .int .i64 P.sp, .slice a P.ss.length c, .int .i64 fs, .int .i64 fl, .int .i64 fh, .int .i64 fo, .slice wa ws.length wc] 29)) := by (repeat (first | exact Below.refl _ _ | (with_reducible assumption) | refine Below.drew ?_ | refine Below.drewN' ?_ _ | refine Below.alloc ?_ (by first | omega | (simp; done) | (simp; omega)) _ | refine Below.setCell ?_ (by first | omega | (simp; done) | (simp; omega)) _ | refine Below.then ?_ hb9 (by first | omega | (simp; done) | (simp; omega)) | refine Below.then ?_ hb8 (by first | omega | (simp; done) | (simp; omega)) | refine Below.then ?_ hb7 (by first | omega | (simp; done) | (simp; omega)) | refine Below.then ?_ hb6 (by first | omega | (simp; done) | (simp; omega)) | refine Below.then ?_ hb5 (by first | omega | (simp; done) | (simp; omega)) | refine Below.then ?_ hb4 (by first | omega | (simp; done) | (simp; omega)) | refine Below.then ?_ hb3 (by first | omega | (simp; done) | (simp; omega)) | refine Below.then ?_ hb2 (by first | omega | (simp; done) | (simp; omega)) | refine Below.then ?_ hb1 (by first | omega | (simp; done) | (simp; omega))))
  have hs0 := HS.out.alloc (.cells #[.int .i64 P.t, .int .i64 P.sp, .slice a P.ss.length c, .int .i64 fs, .int .i64 fl, .int .i64 fh, .int .i64 fo, .slice wa ws.length wc] 29)
  have hw0 : WdsOf (w.alloc (.cells #[.int .i64 P.t, .int .i64 P.sp, .slice a P.ss.length c, .int .i64 fs, .int .i64 fl, .int .i64 fh, .int .i64 fo, .slice wa ws.length wc] 29)) wa ws := SlOf.alloc HW.out _
  have hLn : ((L.length : Int) == 0) = false := beq_eq_false_iff_ne.2 (by omega)
  have hL0 : ¬ (L.length : Int) = 0 := by omega
  have hL9 : ¬ L.length = 0 := by omega
  have hL8 : ¬ L = [] := fun e => hL9 (by rw [e]; rfl)
  have hF1 := hP.f
  have hH0 := hP.h0
  have hH1 := hP.h1
  have hfar : ∀ ad, a = some ad → ad.block < w.heap.size := fun ad e => by
    have hlen := (table_len b5).1
    rcases HS.out with h | ⟨b, o, ha, hlt, _⟩
    · have := congrArg List.length h
      rw [strV_len, List.length_nil] at this
      omega
    · rw [e] at ha
      have : ad = ⟨b, o, none⟩ := Option.some.inj ha
      rw [this]; exact hlt
  have NW := fun W h => wNew_ok P hP hp hn.1 a c W h
  simp only [hfs, hhi] at NW
  obtain ⟨n, hn3, hRR⟩ := alone_whole hP h100 L (by omega) (fl := fl) (fh := fh) (fo := fo) (by rw [hfs]; exact hFr) hfh (by rw [hfs]; exact hL1)
  rw [hfs, hhi, if_neg ho] at hRR
  have AL := fun D p la pa b W hM hA h1 h2 h3 => alone_calls D p P hP hn.1 a c ⟨0, hi, 0, 0⟩ la [] (by decide) pa b L (by omega) W hM hA h1 h2 h3
  simp only [hRR] at AL
  have hWlen : (wantW P L).length = L.length := by unfold wantW; rw [zrP_len, lnk_len]
  have hML : walkR P.t P.sp P.ss L (1 - fs) hi P.sp = walkL P.t P.sp P.ss L (cBase P (1 - P.fr) + P.sp) (cBase P (1 - P.fr) + P.hi) ∧ walkE P.t P.sp P.ss L.length (1 - fs) hi P.sp = 0 := by
    have hrp : rightP P.t P.sp P.ss L.length = true := by unfold rightP; rw [hp, decide_eq_true (by omega)]; rfl
    have hwb : walkB P.sp (1 - fs) hi P.sp = true := by unfold walkB; rw [← hfs, ← hhi]; simp only [Bool.and_eq_true, decide_eq_true_eq]; omega
    have he : walkE P.t P.sp P.ss L.length (1 - fs) hi P.sp = 0 := by unfold walkE; rw [if_pos hrp, if_pos hwb]
    refine ⟨?_, he⟩
    unfold walkR
    rw [if_pos he, ← hfs, ← hhi]
    rfl
  have WF := fun g W h => r7WalkF_calls (some ⟨g, 0, none⟩) L.length L P.t P.sp a c P.ss (1 - fs) hi P.sp (by unfold rightP; rw [hp, decide_eq_true (by omega)]; rfl) (by unfold walkB; rw [← hfs, ← hhi]; simp only [Bool.and_eq_true, decide_eq_true_eq]; omega) W h
  rw [hML.1, hML.2] at WF
  have hWW : wantW P L = zrP (cBase P P.fr) (lnk L (walkL P.t P.sp P.ss L (cBase P (1 - P.fr) + P.sp) (cBase P (1 - P.fr) + P.hi))) P.sp.toNat := rfl
  have hMLb : ∀ z ∈ walkL P.t P.sp P.ss L (cBase P (1 - P.fr) + P.sp) (cBase P (1 - P.fr) + P.hi), 5 ≤ z ∧ z + 1 < (L.length : Int) := fun z hz => link_in hP hLl z hz
  have hMLn : (walkL P.t P.sp P.ss L (cBase P (1 - P.fr) + P.sp) (cBase P (1 - P.fr) + P.hi)).length ≤ 100 := Nat.le_trans (walkL_len _ _) (by omega)
  generalize walkL P.t P.sp P.ss L (cBase P (1 - P.fr) + P.sp) (cBase P (1 - P.fr) + P.hi) = ML at WF hWW hMLb hMLn
  have BS := fun W => r7Base_calls P.t P.sp a c P.ss.length fs (by rw [← hfs]; exact hF1) b1 b2 b3 b4 W
  have hcb : 3 + 2 * P.t + fs * P.sp = cBase P P.fr := by rw [hfs]; rfl
  rw [hcb] at BS
  have hbo := cBase_range hP hP.f
  generalize cBase P P.fr = bo at BS hWW hbo
  have hte : tuE fs fl fh fo hi = 4 := by unfold tuE; rw [if_pos hFr, if_pos (by omega)]
  have RT := fun W => rfTurn_calls fs fl fh fo hi W
  unfold tuV at RT
  simp only [hte] at RT
  simp only [show ¬ ((4 : Int) = 0) by decide, if_false] at RT
  have OF := fun g W h => arOf_calls (some ⟨g, 0, none⟩) L.length L (by omega) (by omega) hLr W h
  have NW := Lib.hid NW
  have AL := Lib.hid AL
  have WF := Lib.hid WF
  have BS := Lib.hid BS
  have RT := Lib.hid RT
  have OF := Lib.hid OF
  have hfs' := Lib.hid hfs
  have hhi' := Lib.hid hhi
  rw [hhi] at hH0 hH1
  rw [hfs] at hF1
  have hh1 : ¬ hi < 0 := by omega
  have hh2 : ¬ P.sp < hi := by omega
  have hw1 : IntKind.i64.wrap (1 - fs) = 1 - fs := IntWalk.i64_in _ (by omega)
  have HLl := Lib.hid hLl
  have hLb1 : 66 ≤ L.length := by omega
  have hLb2 : L.length ≤ 300 := by omega
  clear hfs hhi hRR hML hcb hte hLl
  go_enter Try.func6, Try.ntmps6
  go_wp2_with fail
  generalize (w.alloc (.cells #[.int .i64 P.t, .int .i64 P.sp, .slice a P.ss.length c, .int .i64 fs, .int .i64 fl, .int .i64 fh, .int .i64 fo, .slice wa ws.length wc] 29)) = WH at hX hb0 hs0 hw0 ⊢
  have lh := blk_lt hX
  have q0 : WH.cell? ⟨w.heap.size, 0, none⟩ = some (.int .i64 P.t) := blk_cell hX 0 _ rfl
  have q1 : WH.cell? ⟨w.heap.size, 1, none⟩ = some (.int .i64 P.sp) := blk_cell hX 1 _ rfl
  have q2 : WH.cell? ⟨w.heap.size, 2, none⟩ = some (.slice a P.ss.length c) := blk_cell hX 2 _ rfl
  have q3 : WH.cell? ⟨w.heap.size, 3, none⟩ = some (.int .i64 fs) := blk_cell hX 3 _ rfl
  have q4 : WH.cell? ⟨w.heap.size, 4, none⟩ = some (.int .i64 fl) := blk_cell hX 4 _ rfl
  have q5 : WH.cell? ⟨w.heap.size, 5, none⟩ = some (.int .i64 fh) := blk_cell hX 5 _ rfl
  have q6 : WH.cell? ⟨w.heap.size, 6, none⟩ = some (.int .i64 fo) := blk_cell hX 6 _ rfl
  have q7 : WH.cell? ⟨w.heap.size, 7, none⟩ = some (.slice wa ws.length wc) := blk_cell hX 7 _ rfl
  have HSd := Lib.hid (show SlOf WH.drew a (strV P.ss) ∧ WdsOf WH.drew wa ws from ⟨hs0.drew, SlOf.drew hw0⟩)
  have HSe := Lib.hid (fun o => (show SlOf (WH.alloc o).drew a (strV P.ss) ∧ WdsOf (WH.alloc o).drew wa ws from ⟨(hs0.alloc o).drew, SlOf.drew (SlOf.alloc hw0 o)⟩))
  have keepS : ∀ A B : World, Below WH.heap.size A B → A.cell? ⟨w.heap.size, 0, none⟩ = some (.int .i64 P.t) ∧ A.cell? ⟨w.heap.size, 1, none⟩ = some (.int .i64 P.sp) ∧ A.cell? ⟨w.heap.size, 2, none⟩ = some (.slice a P.ss.length c) ∧ A.cell? ⟨w.heap.size, 3, none⟩ = some (.int .i64 fs) ∧ A.cell? ⟨w.heap.size, 4, none⟩ = some (.int .i64 fl) ∧ A.cell? ⟨w.heap.size, 5, none⟩ = some (.int .i64 fh) ∧ A.cell? ⟨w.heap.size, 6, none⟩ = some (.int .i64 fo) ∧ A.cell? ⟨w.heap.size, 7, none⟩ = some (.slice wa ws.length wc) ∧ WH.heap.size ≤ A.heap.size → B.cell? ⟨w.heap.size, 0, none⟩ = some (.int .i64 P.t) ∧ B.cell? ⟨w.heap.size, 1, none⟩ = some (.int .i64 P.sp) ∧ B.cell? ⟨w.heap.size, 2, none⟩ = some (.slice a P.ss.length c) ∧ B.cell? ⟨w.heap.size, 3, none⟩ = some (.int .i64 fs) ∧ B.cell? ⟨w.heap.size, 4, none⟩ = some (.int .i64 fl) ∧ B.cell? ⟨w.heap.size, 5, none⟩ = some (.int .i64 fh) ∧ B.cell? ⟨w.heap.size, 6, none⟩ = some (.int .i64 fo) ∧ B.cell? ⟨w.heap.size, 7, none⟩ = some (.slice wa ws.length wc) ∧ WH.heap.size ≤ B.heap.size := fun A B hb hc => ⟨(hb.cell (p := ⟨w.heap.size, 0, none⟩) lh).trans hc.1, (hb.cell (p := ⟨w.heap.size, 1, none⟩) lh).trans hc.2.1, (hb.cell (p := ⟨w.heap.size, 2, none⟩) lh).trans hc.2.2.1, (hb.cell (p := ⟨w.heap.size, 3, none⟩) lh).trans hc.2.2.2.1, (hb.cell (p := ⟨w.heap.size, 4, none⟩) lh).trans hc.2.2.2.2.1, (hb.cell (p := ⟨w.heap.size, 5, none⟩) lh).trans hc.2.2.2.2.2.1, (hb.cell (p := ⟨w.heap.size, 6, none⟩) lh).trans hc.2.2.2.2.2.2.1, (hb.cell (p := ⟨w.heap.size, 7, none⟩) lh).trans hc.2.2.2.2.2.2.2.1, Nat.le_trans hc.2.2.2.2.2.2.2.2 hb.size⟩
  have keepC := Lib.hid (show ∀ A B : World, Below A.heap.size A B → A.cell? ⟨w.heap.size, 0, none⟩ = some (.int .i64 P.t) ∧ A.cell? ⟨w.heap.size, 1, none⟩ = some (.int .i64 P.sp) ∧ A.cell? ⟨w.heap.size, 2, none⟩ = some (.slice a P.ss.length c) ∧ A.cell? ⟨w.heap.size, 3, none⟩ = some (.int .i64 fs) ∧ A.cell? ⟨w.heap.size, 4, none⟩ = some (.int .i64 fl) ∧ A.cell? ⟨w.heap.size, 5, none⟩ = some (.int .i64 fh) ∧ A.cell? ⟨w.heap.size, 6, none⟩ = some (.int .i64 fo) ∧ A.cell? ⟨w.heap.size, 7, none⟩ = some (.slice wa ws.length wc) ∧ WH.heap.size ≤ A.heap.size → B.cell? ⟨w.heap.size, 0, none⟩ = some (.int .i64 P.t) ∧ B.cell? ⟨w.heap.size, 1, none⟩ = some (.int .i64 P.sp) ∧ B.cell? ⟨w.heap.size, 2, none⟩ = some (.slice a P.ss.length c) ∧ B.cell? ⟨w.heap.size, 3, none⟩ = some (.int .i64 fs) ∧ B.cell? ⟨w.heap.size, 4, none⟩ = some (.int .i64 fl) ∧ B.cell? ⟨w.heap.size, 5, none⟩ = some (.int .i64 fh) ∧ B.cell? ⟨w.heap.size, 6, none⟩ = some (.int .i64 fo) ∧ B.cell? ⟨w.heap.size, 7, none⟩ = some (.slice wa ws.length wc) ∧ WH.heap.size ≤ B.heap.size from fun A B hb hc => keepS A B (hb.mono hc.2.2.2.2.2.2.2.2) hc)
  have keepA := Lib.hid (show ∀ (A : World) (x0 : Obj), A.cell? ⟨w.heap.size, 0, none⟩ = some (.int .i64 P.t) ∧ A.cell? ⟨w.heap.size, 1, none⟩ = some (.int .i64 P.sp) ∧ A.cell? ⟨w.heap.size, 2, none⟩ = some (.slice a P.ss.length c) ∧ A.cell? ⟨w.heap.size, 3, none⟩ = some (.int .i64 fs) ∧ A.cell? ⟨w.heap.size, 4, none⟩ = some (.int .i64 fl) ∧ A.cell? ⟨w.heap.size, 5, none⟩ = some (.int .i64 fh) ∧ A.cell? ⟨w.heap.size, 6, none⟩ = some (.int .i64 fo) ∧ A.cell? ⟨w.heap.size, 7, none⟩ = some (.slice wa ws.length wc) ∧ WH.heap.size ≤ A.heap.size → (A.alloc x0).cell? ⟨w.heap.size, 0, none⟩ = some (.int .i64 P.t) ∧ (A.alloc x0).cell? ⟨w.heap.size, 1, none⟩ = some (.int .i64 P.sp) ∧ (A.alloc x0).cell? ⟨w.heap.size, 2, none⟩ = some (.slice a P.ss.length c) ∧ (A.alloc x0).cell? ⟨w.heap.size, 3, none⟩ = some (.int .i64 fs) ∧ (A.alloc x0).cell? ⟨w.heap.size, 4, none⟩ = some (.int .i64 fl) ∧ (A.alloc x0).cell? ⟨w.heap.size, 5, none⟩ = some (.int .i64 fh) ∧ (A.alloc x0).cell? ⟨w.heap.size, 6, none⟩ = some (.int .i64 fo) ∧ (A.alloc x0).cell? ⟨w.heap.size, 7, none⟩ = some (.slice wa ws.length wc) ∧ WH.heap.size ≤ (A.alloc x0).heap.size from fun A x0 hc => keepS A _ ((Below.refl _ _).alloc hc.2.2.2.2.2.2.2.2 _) hc)
  have keepD := Lib.hid (show WH.drew.cell? ⟨w.heap.size, 0, none⟩ = some (.int .i64 P.t) ∧ WH.drew.cell? ⟨w.heap.size, 1, none⟩ = some (.int .i64 P.sp) ∧ WH.drew.cell? ⟨w.heap.size, 2, none⟩ = some (.slice a P.ss.length c) ∧ WH.drew.cell? ⟨w.heap.size, 3, none⟩ = some (.int .i64 fs) ∧ WH.drew.cell? ⟨w.heap.size, 4, none⟩ = some (.int .i64 fl) ∧ WH.drew.cell? ⟨w.heap.size, 5, none⟩ = some (.int .i64 fh) ∧ WH.drew.cell? ⟨w.heap.size, 6, none⟩ = some (.int .i64 fo) ∧ WH.drew.cell? ⟨w.heap.size, 7, none⟩ = some (.slice wa ws.length wc) ∧ WH.heap.size ≤ WH.drew.heap.size from keepS WH _ (Below.refl _ _).drew ⟨q0, q1, q2, q3, q4, q5, q6, q7, Nat.le_refl _⟩)
  have keepE := Lib.hid (show ∀ (x0 : Obj), (WH.alloc x0).drew.cell? ⟨w.heap.size, 0, none⟩ = some (.int .i64 P.t) ∧ (WH.alloc x0).drew.cell? ⟨w.heap.size, 1, none⟩ = some (.int .i64 P.sp) ∧ (WH.alloc x0).drew.cell? ⟨w.heap.size, 2, none⟩ = some (.slice a P.ss.length c) ∧ (WH.alloc x0).drew.cell? ⟨w.heap.size, 3, none⟩ = some (.int .i64 fs) ∧ (WH.alloc x0).drew.cell? ⟨w.heap.size, 4, none⟩ = some (.int .i64 fl) ∧ (WH.alloc x0).drew.cell? ⟨w.heap.size, 5, none⟩ = some (.int .i64 fh) ∧ (WH.alloc x0).drew.cell? ⟨w.heap.size, 6, none⟩ = some (.int .i64 fo) ∧ (WH.alloc x0).drew.cell? ⟨w.heap.size, 7, none⟩ = some (.slice wa ws.length wc) ∧ WH.heap.size ≤ (WH.alloc x0).drew.heap.size from fun x0 => keepS WH _ ((Below.refl _ _).alloc (Nat.le_refl _) _).drew ⟨q0, q1, q2, q3, q4, q5, q6, q7, Nat.le_refl _⟩)
  have keepT := Lib.hid (show ∀ (A : World) (d : Nat) (v0 v1 v2 : Value), WH.heap.size ≤ d → A.cell? ⟨w.heap.size, 0, none⟩ = some (.int .i64 P.t) ∧ A.cell? ⟨w.heap.size, 1, none⟩ = some (.int .i64 P.sp) ∧ A.cell? ⟨w.heap.size, 2, none⟩ = some (.slice a P.ss.length c) ∧ A.cell? ⟨w.heap.size, 3, none⟩ = some (.int .i64 fs) ∧ A.cell? ⟨w.heap.size, 4, none⟩ = some (.int .i64 fl) ∧ A.cell? ⟨w.heap.size, 5, none⟩ = some (.int .i64 fh) ∧ A.cell? ⟨w.heap.size, 6, none⟩ = some (.int .i64 fo) ∧ A.cell? ⟨w.heap.size, 7, none⟩ = some (.slice wa ws.length wc) ∧ WH.heap.size ≤ A.heap.size → (((A.setCell ⟨d, 0, none⟩ v0).setCell ⟨d, 1, none⟩ v1).setCell ⟨d, 2, none⟩ v2).cell? ⟨w.heap.size, 0, none⟩ = some (.int .i64 P.t) ∧ (((A.setCell ⟨d, 0, none⟩ v0).setCell ⟨d, 1, none⟩ v1).setCell ⟨d, 2, none⟩ v2).cell? ⟨w.heap.size, 1, none⟩ = some (.int .i64 P.sp) ∧ (((A.setCell ⟨d, 0, none⟩ v0).setCell ⟨d, 1, none⟩ v1).setCell ⟨d, 2, none⟩ v2).cell? ⟨w.heap.size, 2, none⟩ = some (.slice a P.ss.length c) ∧ (((A.setCell ⟨d, 0, none⟩ v0).setCell ⟨d, 1, none⟩ v1).setCell ⟨d, 2, none⟩ v2).cell? ⟨w.heap.size, 3, none⟩ = some (.int .i64 fs) ∧ (((A.setCell ⟨d, 0, none⟩ v0).setCell ⟨d, 1, none⟩ v1).setCell ⟨d, 2, none⟩ v2).cell? ⟨w.heap.size, 4, none⟩ = some (.int .i64 fl) ∧ (((A.setCell ⟨d, 0, none⟩ v0).setCell ⟨d, 1, none⟩ v1).setCell ⟨d, 2, none⟩ v2).cell? ⟨w.heap.size, 5, none⟩ = some (.int .i64 fh) ∧ (((A.setCell ⟨d, 0, none⟩ v0).setCell ⟨d, 1, none⟩ v1).setCell ⟨d, 2, none⟩ v2).cell? ⟨w.heap.size, 6, none⟩ = some (.int .i64 fo) ∧ (((A.setCell ⟨d, 0, none⟩ v0).setCell ⟨d, 1, none⟩ v1).setCell ⟨d, 2, none⟩ v2).cell? ⟨w.heap.size, 7, none⟩ = some (.slice wa ws.length wc) ∧ WH.heap.size ≤ (((A.setCell ⟨d, 0, none⟩ v0).setCell ⟨d, 1, none⟩ v1).setCell ⟨d, 2, none⟩ v2).heap.size from fun A d v0 v1 v2 hd hc => keepS A _ (((Below.refl _ _).setCell hd _).setCell hd _ |>.setCell hd _) hc)
  have keepM := Lib.hid (show ∀ (A : World) (x0 x1 : Obj), WH.heap.size ≤ A.heap.size → (A.alloc x0).cell? ⟨w.heap.size, 0, none⟩ = some (.int .i64 P.t) ∧ (A.alloc x0).cell? ⟨w.heap.size, 1, none⟩ = some (.int .i64 P.sp) ∧ (A.alloc x0).cell? ⟨w.heap.size, 2, none⟩ = some (.slice a P.ss.length c) ∧ (A.alloc x0).cell? ⟨w.heap.size, 3, none⟩ = some (.int .i64 fs) ∧ (A.alloc x0).cell? ⟨w.heap.size, 4, none⟩ = some (.int .i64 fl) ∧ (A.alloc x0).cell? ⟨w.heap.size, 5, none⟩ = some (.int .i64 fh) ∧ (A.alloc x0).cell? ⟨w.heap.size, 6, none⟩ = some (.int .i64 fo) ∧ (A.alloc x0).cell? ⟨w.heap.size, 7, none⟩ = some (.slice wa ws.length wc) ∧ WH.heap.size ≤ (A.alloc x0).heap.size → (A.alloc x1).cell? ⟨w.heap.size, 0, none⟩ = some (.int .i64 P.t) ∧ (A.alloc x1).cell? ⟨w.heap.size, 1, none⟩ = some (.int .i64 P.sp) ∧ (A.alloc x1).cell? ⟨w.heap.size, 2, none⟩ = some (.slice a P.ss.length c) ∧ (A.alloc x1).cell? ⟨w.heap.size, 3, none⟩ = some (.int .i64 fs) ∧ (A.alloc x1).cell? ⟨w.heap.size, 4, none⟩ = some (.int .i64 fl) ∧ (A.alloc x1).cell? ⟨w.heap.size, 5, none⟩ = some (.int .i64 fh) ∧ (A.alloc x1).cell? ⟨w.heap.size, 6, none⟩ = some (.int .i64 fo) ∧ (A.alloc x1).cell? ⟨w.heap.size, 7, none⟩ = some (.slice wa ws.length wc) ∧ WH.heap.size ≤ (A.alloc x1).heap.size from fun A x0 x1 hle hc => keepS (A.alloc x0) _ ⟨rfl, rfl, rfl, by simp, fun k hk => by rw [Below.heap_alloc _ _ _ (by omega), Below.heap_alloc _ _ _ (by omega)]⟩ hc)
  clear keepS
  refine Code.wp_mono (Q := fun e ac W => e = Exit.normal ∧ ∃ (X : Nat) (g : Nat), ac = (?frameOfI : Nat → Nat → Act) X g ∧ (W.heap[X]? = some (.cells #[.int .i64 P.t, .int .i64 P.sp, .slice a P.ss.length c] 24 (0, 0)) ∧ WH.heap.size ≤ X ∧ Below WH.heap.size WH W ∧ RowAt W g L ∧ WH.heap.size ≤ g)) ?impI ?regI
  case regI =>
    go_region_held3 (fun A => A.cell? ⟨w.heap.size, 0, none⟩ = some (.int .i64 P.t) ∧ A.cell? ⟨w.heap.size, 1, none⟩ = some (.int .i64 P.sp) ∧ A.cell? ⟨w.heap.size, 2, none⟩ = some (.slice a P.ss.length c) ∧ A.cell? ⟨w.heap.size, 3, none⟩ = some (.int .i64 fs) ∧ A.cell? ⟨w.heap.size, 4, none⟩ = some (.int .i64 fl) ∧ A.cell? ⟨w.heap.size, 5, none⟩ = some (.int .i64 fh) ∧ A.cell? ⟨w.heap.size, 6, none⟩ = some (.int .i64 fo) ∧ A.cell? ⟨w.heap.size, 7, none⟩ = some (.slice wa ws.length wc) ∧ WH.heap.size ≤ A.heap.size) (first | (with_reducible exact keepD.out) | (with_reducible exact keepE.out _) | (with_reducible refine keepT.out _ _ _ _ _ ?_ ?_; (first | omega | (simp; omega)); assumption) | (with_reducible refine keepC.out _ _ hb5 ?_; assumption) | (with_reducible refine keepM.out _ _ _ ?_ (by assumption); first | omega | (simp; omega)) | (with_reducible exact keepA.out _ _ (by assumption)) | exact keepD.out) (first | (go_at_call 9; refine (MD.out _ (by first | with_reducible exact HSd.out.1 | with_reducible exact (HSe.out _).1) (by first | with_reducible exact HSd.out.2 | with_reducible exact (HSe.out _).2)).mono ?_; rintro e5 w5 ⟨g, rfl, hrow5, hg5, hb5⟩; have hz5 := hb5.size; (try simp at hz5); (try (have zc := fun j => hb5.cell (p := ⟨WH.heap.size, j, none⟩) (by simp); have zf := fun j => hb5.frozen (p := ⟨WH.heap.size, j, none⟩) (by simp); have zq0 := zc 0; have zq1 := zc 1; have zq2 := zc 2; have zf0 := zf 0; have zf1 := zf 1; have zf2 := zf 2; simp [go_sem] at zq0 zq1 zq2 zf0 zf1 zf2; have zl : WH.heap.size < w5.heap.size := (by omega); clear zc zf))))
    · obtain ⟨X, hX1⟩ : ∃ X, w5.heap.size = X := ⟨_, rfl⟩
      have hB4 : Below WH.heap.size WH (w5.alloc (.cells #[.int .i64 P.t, .int .i64 P.sp, .slice a P.ss.length c] 24)) := ((Below.refl _ _).drew.trans hb5).alloc hz5 _
      refine ⟨rfl, X, g, ?_, ⟨by rw [← hX1]; exact (MapKept.heap_alloc w5 _).1, by omega, hB4, hrow5.below ((Below.refl _ _).alloc (Nat.le_refl _) _), hg5⟩⟩
      rw [hX1]
    · obtain ⟨X, hX1⟩ : ∃ X, WH.heap.size = X := ⟨_, rfl⟩
      have hB3 : Below WH.heap.size WH w5 := ((Below.refl _ _).alloc (Nat.le_refl _) _).drew.trans (hb5.mono (by simp))
      have hB4 := ((hB3.setCell (p := ⟨WH.heap.size, 0, none⟩) (Nat.le_refl _) (.int .i64 P.t)).setCell (p := ⟨WH.heap.size, 1, none⟩) (Nat.le_refl _) (.int .i64 P.sp)).setCell (p := ⟨WH.heap.size, 2, none⟩) (Nat.le_refl _) (.slice a P.ss.length c)
      refine ⟨rfl, X, g, ?_, ⟨by rw [← hX1]; exact blk_eq (blk_set (blk_set (blk_set (blk_below (blk_drew (MapKept.heap_alloc WH _).1) hb5) 0 _) 1 _) 2 _) rfl, by omega, hB4, blk_off (blk_off (blk_off hrow5 0 _ (by simp at hg5; omega)) 1 _ (by simp at hg5; omega)) 2 _ (by simp at hg5; omega), (by simp at hg5; omega)⟩⟩
      rw [hX1]
  case impI =>
    rintro e ac W6 ⟨rfl, X, g, rfl, G6, hX6, hb6, hr6, hg6⟩
    have hb06 : Below w.heap.size w W6 := Below.then hb0 hb6 hb0.size
    have H6 := blk_below hX hb6
    have lH6 := blk_lt H6
    have lG6 := blk_lt G6
    have lR6 : g < W6.heap.size := (Array.getElem?_eq_some_iff.1 hr6).1
    have x1 : W6.cell? ⟨X, 1, none⟩ = some (.int .i64 P.sp) := blk_cell G6 1 _ rfl
    have y3 : W6.cell? ⟨w.heap.size, 3, none⟩ = some (.int .i64 fs) := blk_cell H6 3 _ rfl
    clear q0 q1 q2 q3 q4 q5 q6 q7 keepC keepA keepD keepE keepT keepM HSd HSe hs0 hw0
    go_wp2_with fail
    refine (OF.out g _ hr6.wds).mono ?_
    rintro e8 w8 ⟨rfl, hA8, hb8⟩
    have H8 := blk_below H6 hb8
    have G8 := blk_below G6 hb8
    have hr8 := hr6.below hb8
    have hb08 : Below w.heap.size w w8 := Below.then hb06 hb8 hb06.size
    have hw6 : w.heap.size ≤ W6.heap.size := hb06.size
    generalize W6.heap.size = bb at hA8 lH6 lG6 lR6 hw6 ⊢
    clear hr6 hb8 hb06 H6 G6 x1 y3
    have x0 : w8.cell? ⟨X, 0, none⟩ = some (.int .i64 P.t) := blk_cell G8 0 _ rfl
    have x1 : w8.cell? ⟨X, 1, none⟩ = some (.int .i64 P.sp) := blk_cell G8 1 _ rfl
    have x2 : w8.cell? ⟨X, 2, none⟩ = some (.slice a P.ss.length c) := blk_cell G8 2 _ rfl
    have lX8 := blk_lt G8
    go_wp2_with fail
    refine (NW.out _ (HS.out.below hb08)).mono ?_
    rintro e10 w10 ⟨p, rfl, hp10, hM10, hb10⟩
    have H10 := blk_below H8 hb10
    have G10 := blk_below G8 hb10
    have hr10 := hr8.below hb10
    have hA10 := hA8.below hb10
    have hb010 : Below w.heap.size w w10 := Below.then hb08 hb10 hb08.size
    have l8a := hA8.pb
    have l8b := hA8.bb
    have hz10 := hb10.size
    clear H8 G8 hr8 hA8 hb10 x0 x1 x2 lX8
    go_wp2_with (first | (go_at_call 13; go_in))
    refine (AL.out _ p _ (bb + 1) bb _ hM10 hA10 (fun h => by have := h.1; omega) (fun h => by have := h.1; omega) (fun ad e => by have := hfar ad e; omega)).mono ?_
    rintro e11 w11 ⟨rfl, hO11, hA11⟩
    have nX : ∀ k, k < bb → ¬ ((w8.heap.size ≤ k ∧ k < w10.heap.size) ∨ k = bb) := fun k hk h => by
      rcases h with h | h
      · have := h.1; omega
      · omega
    have H11 := hO11.blk (nX _ lH6) H10
    have G11 := hO11.blk (nX _ lG6) G10
    have hr11 : RowAt w11 g L := hO11.blk (nX _ lR6) hr10
    have hb11 : Below w.heap.size w w11 := hb010.trans (hO11.below hb010.size fun k hk => by
      rcases hk with hk | hk
      · have := hk.1; omega
      · omega)
    have hz11 := hO11.size
    clear hM10 hA10 H10 G10 hr10 hO11 hb010 hb08
    have hgc : ∀ j u, (L.map (fun x => Value.int .u64 x))[j]? = some u → w11.cell? ((⟨g, 0, none⟩ : Addr).add j) = some u := World.news_of_block hr11
    have hlg11 := blk_lt hr11
    obtain ⟨i0, hi0, hi0z, hi0s, hi0b⟩ := Go.info_parts infoWd
    have hnw : (L.map (fun x => Value.int .u64 x)).length = L.length * 1 := by rw [List.length_map, Nat.mul_one]
    have h1c : ∀ u ∈ L.map (fun x => Value.int .u64 x), u.oneCell' = true := fun u hu => by obtain ⟨x, _, rfl⟩ := List.mem_map.1 hu; rfl
    have hLm : 0 < L.length := by omega
    have hL63 : 0 + L.length ≤ maxLen := by unfold maxLen; omega
    have hLby : (0 + L.length) * 8 ≤ 140737488355328 := by omega
    go_wp2_with (at_builtin; go_loud (refine wpList_append_lies _ rfl _ _ 27 rfl w11.heap.size 41 i0 (.int .u64 0) 1 8 Try.underlying27 hi0 hi0z hi0s hi0b rfl (by decide) (.slice none 0 0) 0 [] rfl (World.ownsRow_nil _ _ _ _) ⟨g, 0, none⟩ L.length L.length (L.map (fun x => Value.int .u64 x)) rfl hnw hgc h1c hLm hL63 hLby (Nat.le_refl _) _ rfl ?_; intro g2 cap w12 hown hgrow hat hlt; have hb12 : Below w11.heap.size w11 w12 := (Below.refl _ _).grown hgrow (Nat.le_refl _) (fun j ej => by cases ej); have x0 : w12.cell? ⟨X, 0, none⟩ = some (.int .i64 P.t) := blk_cell (blk_below G11 hb12) 0 _ rfl; have x1 : w12.cell? ⟨X, 1, none⟩ = some (.int .i64 P.sp) := blk_cell (blk_below G11 hb12) 1 _ rfl; have x2 : w12.cell? ⟨X, 2, none⟩ = some (.slice a P.ss.length c) := blk_cell (blk_below G11 hb12) 2 _ rfl; have lX12 := blk_lt (blk_below G11 hb12)))
    have G12 := blk_below G11 hb12
    have H12 := blk_below H11 hb12
    have hr12 : RowAt w12 g L := blk_below hr11 hb12
    have hA12 := hA11.below hb12
    have hb012 : Below w.heap.size w w12 := Below.then hb11 hb12 hb11.size
    have hrw12 : WRw w12 w11.heap.size g2 cap L := by
      have := hown
      simp only [Nat.zero_add, List.nil_append] at this
      exact this
    have hg2 := hrw12.lt
    clear G11 H11 hr11 hA11 hb11 hown hgrow hat hlt hgc hnw h1c hLm hL63 hLby
    refine (WF.out g w12 ⟨hLr, by omega, hn, hr12.wds, HS.out.below hb012⟩).mono ?_
    rintro e13 w13 ⟨fa, fc, rfl, hI13, hfa, hb13⟩
    have G13 := blk_below G12 hb13
    have H13 := blk_below H12 hb13
    have hA13 := hA12.below hb13
    have hrw13 := hrw12.below hb13
    have hb013 : Below w.heap.size w w13 := Below.then hb012 hb13 hb012.size
    have hz13 := hb13.size
    have hX2 : X < w11.heap.size := by omega
    have hw2 : w.heap.size < w11.heap.size := by omega
    have hbb2 : bb + 1 < w11.heap.size := by omega
    have hfa2 : ∀ ad, fa = some ad → ad.block ≠ g2 := fun ad e => by have := hfa ad e; omega
    have hgW : w.heap.size ≤ g2 := by omega
    clear G12 H12 hr12 hA12 hb012 hb13 hrw12 hb12 x0 x1 x2 lX12 hfa
    go_wp2_with fail
    go_loopw [18] (fun iv wr => ∃ k : Nat, k ≤ ML.length ∧ iv = .int .i64 k ∧ WRw wr w11.heap.size g2 cap (lnk L (ML.take k)) ∧ Only (· = g2) w13 wr) (fun iv _ => ML.length - (intOf iv).toNat)
    case atStart => exact ⟨0, Nat.zero_le _, rfl, hrw13, Only.refl _ _⟩
    case round =>
      obtain ⟨k, hk, rfl, hrw, hO⟩ := hrel
      have hzO := hO.size
      by_cases hlt : k < ML.length
      · obtain ⟨lb, lo, rfl, hlb, hlc⟩ := int_at hI13 k hlt
        have hlg := hfa2 _ rfl
        have hcr := (hO.cell (p := ⟨lb, lo + k, none⟩) hlb hlg).trans hlc
        obtain ⟨m5, mL⟩ := hMLb ML[k] (List.getElem_mem hlt)
        have hsn : lnk L (ML.take (k + 1)) = (lnk L (ML.take k)).set (ML[k] + 1).toNat 0 := by rw [List.take_succ_eq_append_getElem hlt, lnk_snoc]
        have hkl : (k : Int) < (ML.length : Int) := by omega
        have hk0 : (0 : Int) ≤ (k : Int) := by omega
        generalize ML[k] = z at hcr m5 mL hsn
        have hkz := hrw.cell (z + 1).toNat (by rw [lnk_len]; omega)
        have hfz := hrw.fz (z + 1).toNat
        have hgr := hrw.lt.2
        have hrs := hrw.set (z + 1).toNat 0
        rw [← hsn] at hrs
        have HRS := Lib.hid hrs
        have HOS := Lib.hid (hO.setCell (p := ⟨g2, (z + 1).toNat, none⟩) (.inl rfl) (.int .u64 0))
        have hwz : IntKind.i64.wrap (z + 1) = z + 1 := IntWalk.i64_in _ (by omega)
        have hz0 : (0 : Int) ≤ z + 1 := by omega
        clear hrw hO hrs hsn hlc
        go_wp2
        go_roundw
        case rel => exact ⟨k + 1, Nat.succ_le_of_lt hlt, by go_num, HRS.out, HOS.out⟩
        case measure => simp [intOf]; omega
      · obtain rfl : k = ML.length := by omega
        rw [List.take_length] at hrw
        have hWl2 : (lnk L ML).length = L.length := lnk_len _ _
        have HRW := Lib.hid hrw
        have HO1 := Lib.hid hO
        clear hrw hO hI13
        have hs0 : (P.sp.toNat : Int) = P.sp := Int.toNat_of_nonneg (by omega)
        obtain ⟨S, hS⟩ : ∃ S, P.sp.toNat = S := ⟨_, rfl⟩
        rw [hS] at hWW hs0
        have HWW := Lib.hid hWW
        have hS100 : S ≤ 100 := by omega
        have HSS := Lib.hid hs0
        clear hS hWW hs0
        go_wp2_with fail
        go_loopw [19] (fun iv wr => ∃ k : Nat, k ≤ S ∧ iv = .int .i64 k ∧ WRw wr w11.heap.size g2 cap (zrP bo (lnk L ML) k) ∧ Only (· = g2) w13 wr) (fun iv _ => S - (intOf iv).toNat)
        case atStart => exact ⟨0, Nat.zero_le _, rfl, HRW.out, HO1.out⟩
        case round =>
          obtain ⟨k, hk, rfl, hrw, hO⟩ := hrel
          have hzO := hO.size
          have Gr := hO.blk (show ¬ X = g2 by omega) G13
          have x0 : wr.cell? ⟨X, 0, none⟩ = some (.int .i64 P.t) := blk_cell Gr 0 _ rfl
          have x1 : wr.cell? ⟨X, 1, none⟩ = some (.int .i64 P.sp) := blk_cell Gr 1 _ rfl
          have x2 : wr.cell? ⟨X, 2, none⟩ = some (.slice a P.ss.length c) := blk_cell Gr 2 _ rfl
          have lXr := blk_lt Gr
          by_cases hlt : k < S
          · have hkl : (k : Int) < P.sp := by have := HSS.out; omega
            have hk0 : (0 : Int) ≤ (k : Int) := by omega
            have HRk := Lib.hid hrw
            have HOk := Lib.hid hO
            clear hrw hO Gr
            go_wp2_with fail
            refine (BS.out _).mono ?_
            rintro e14 w14 ⟨rfl, hb14⟩
            have hrw := HRk.out.below hb14
            have hO14 := HOk.out.then hb14
            have hzl := zrP_len bo (lnk L ML) k
            have hkz := hrw.cell (bo + k).toNat (by rw [hzl, hWl2]; have := HLl.out; omega)
            have hfz := hrw.fz (bo + k).toNat
            have hgr := hrw.lt.2
            have HRS := Lib.hid (show WRw (w14.setCell ⟨g2, (bo + k).toNat, none⟩ (.int .u64 0)) w11.heap.size g2 cap (zrP bo (lnk L ML) (k + 1)) from hrw.set (bo + k).toNat 0)
            have HOS := Lib.hid (hO14.setCell (p := ⟨g2, (bo + k).toNat, none⟩) (.inl rfl) (.int .u64 0))
            have hwz : IntKind.i64.wrap (bo + k) = bo + k := IntWalk.i64_in _ (by omega)
            have hz0 : (0 : Int) ≤ bo + k := by omega
            have hzL : bo + k < (L.length : Int) := by have := HLl.out; omega
            clear hrw hO14 hb14
            go_wp2
            go_roundw
            case rel => exact ⟨k + 1, Nat.succ_le_of_lt hlt, by go_num, HRS.out, HOS.out⟩
            case measure => simp [intOf]; omega
          · obtain rfl : k = S := by omega
            rw [← HWW.out] at hrw
            have hkl : ¬ (k : Int) < P.sp := by have := HSS.out; omega
            have Hr := hO.blk (show ¬ w.heap.size = g2 by omega) H13
            have Ar1 := hA13.only hO (show ¬ bb + 1 = g2 by omega) (show ¬ bb = g2 by omega)
            have hbr : Below w.heap.size w wr := hb013.trans (hO.below hb013.size fun j hj => by omega)
            have HGr := Lib.hid Gr
            clear hO H13 G13 Gr hA13 hb013 x0 x2
            have y3 : wr.cell? ⟨w.heap.size, 3, none⟩ = some (.int .i64 fs) := blk_cell Hr 3 _ rfl
            have y4 : wr.cell? ⟨w.heap.size, 4, none⟩ = some (.int .i64 fl) := blk_cell Hr 4 _ rfl
            have y5 : wr.cell? ⟨w.heap.size, 5, none⟩ = some (.int .i64 fh) := blk_cell Hr 5 _ rfl
            have y6 : wr.cell? ⟨w.heap.size, 6, none⟩ = some (.int .i64 fo) := blk_cell Hr 6 _ rfl
            have lHr := blk_lt Hr
            have HRW2 := Lib.hid hrw
            have HAr := Lib.hid Ar1
            have HBr := Lib.hid hbr
            clear hrw Ar1 hbr
            go_wp2_with fail
            refine (RT.out _).mono ?_
            rintro e15 w15 ⟨rfl, hb15⟩
            have hrw15 := HRW2.out.below hb15
            have hA15 := HAr.out.below hb15
            have G15 := blk_below HGr.out hb15
            have hb015 : Below w.heap.size w w15 := Below.then HBr.out hb15 HBr.out.size
            have hg15 := hrw15.lt
            clear hb15 y3 y4 y5 y6 Hr lHr x1 lXr HRW2 HAr HGr
            have hbx : Below w15.heap.size w15 (w15.alloc (.cells #[.int .i64 0, .int .i64 0, .int .i64 0, .int .i64 0] 26)) := (Below.refl _ _).alloc (Nat.le_refl _) _
            have hr17 := hrw15.below hbx
            have hA17 := hA15.below hbx
            have G17 := blk_below G15 hbx
            have hb017 : Below w.heap.size w (w15.alloc (.cells #[.int .i64 0, .int .i64 0, .int .i64 0, .int .i64 0] 26)) := Below.then hb015 hbx hb015.size
            clear hrw15 hA15 G15 hb015 hbx
            go_wp2_with fail
            generalize w15.alloc (.cells #[.int .i64 0, .int .i64 0, .int .i64 0, .int .i64 0] 26) = W17 at hr17 hA17 G17 hb017 ⊢
            have hVl : (wantW P L).length = L.length := by first | exact hWlen | (rw [List.length_set]; exact hWlen)
            have OFW := arOf_calls (some ⟨g2, 0, none⟩) cap (wantW P L) (by rw [hVl]; omega) (by rw [hVl]; omega) hA17.rng W17 (owns_wds hr17)
            rw [hVl] at OFW
            refine OFW.mono ?_
            rintro e18 w18 ⟨rfl, hA18, hb18⟩
            have SA := fun W h h' => arSame_calls (bb + 1) bb (wantW P L) (W17.heap.size + 1) W17.heap.size (wantW P L) W h h'
            rw [decide_eq_true rfl] at SA
            have hB18 := hA17.below hb18
            have G18 := blk_below G17 hb18
            have hb018 : Below w.heap.size w w18 := Below.then hb017 hb18 hb017.size
            have x1 : w18.cell? ⟨X, 1, none⟩ = some (.int .i64 P.sp) := blk_cell G18 1 _ rfl
            have lX18 := blk_lt G18
            have SAx := Lib.hid (SA w18 hB18 hA18)
            have hn3' : (n : Int) ≤ 3 * P.sp + 2 := hn3
            have HB18 := Lib.hid hb018
            clear SA hA18 hB18 G18 hb018 hb18 OFW hr17 hA17 G17 hb017
            go_wp2_with (first | (go_at_call 13; go_in) | (go_at_call 34; refine SAx.out.mono ?_; rintro e19 w19 ⟨rfl, hb19⟩) | (go_at_call 10; refine (WK.out _).mono ?_; rintro e20 w20 ⟨rfl, hb20⟩))
            go_ret
            exact ⟨rfl, Below.then (Below.then HB18.out hb19 HB18.out.size) hb20 (by have := HB18.out.size; have := hb19.size; omega)⟩

theorem clearWhole_walk (w : World) (t : Int) (_wt : (Lit.int .i64 t).wf = true) (sp : Int) (_wsp : (Lit.int .i64 sp).wf = true) (a : Option Addr) (c : Nat) (ss : List ByteArray) (hnc : ss.length ≤ maxLen ∧ ss.length ≤ c) (h : SlOf w a (strV ss)) (hs : ∀ s ∈ ss, s.size ≤ maxLen)
    (s : Int) (_ws : (Lit.int .i64 s).wf = true) (l : Int) (_wl : (Lit.int .i64 l).wf = true) (fh : Int) (_wh : (Lit.int .i64 fh).wf = true) (fo : Int) (_wo : (Lit.int .i64 fo).wf = true)
    (wa : Option Addr) (wc : Nat) (ws : List Int) (hwc : ws.length ≤ maxLen ∧ ws.length ≤ wc ∧ (wa = none → wc = 0)) (hw : WdsOf w wa ws) (hwr : ∀ z ∈ ws, (Lit.int .u64 z).wf = true) (hi : Int) (_whi : (Lit.int .i64 hi).wf = true) :
    Calls Try.prog 6 #[.agg #[.int .i64 t, .int .i64 sp, .slice a ss.length c, .int .i64 s, .int .i64 l, .int .i64 fh, .int .i64 fo, .slice wa ws.length wc], .int .i64 hi] w fun e w' => e = .returned (.bool true) ∧ Below w.heap.size w w' := by
  have hF : Fit ss := ⟨hnc.1, hs⟩
  have hR : ∀ x ∈ ws, 0 ≤ x ∧ x < 18446744073709551616 := fun z hz => wf_u64 (hwr z hz)
  cases hm : mdB t sp ss s l fh fo ws.length with
  | false => exact whole_no ⟨t, sp, ss, 0, 0⟩ a c hF s l fh fo wa wc ws hi hm w h
  | true =>
    by_cases ho : hi < 0 ∨ (¬ hi < 0 ∧ sp < hi)
    · exact whole_out ⟨t, sp, ss, 0, 0⟩ a c hF s l fh fo wa wc ws hwc.2.2 hR hm hi ho w h hw
    · have hm' := hm
      unfold mdB at hm'
      simp only [Bool.and_eq_true, decide_eq_true_eq] at hm'
      obtain ⟨⟨⟨⟨⟨-, hp⟩, h100⟩, -⟩, hFr⟩, hfh⟩ := hm'
      obtain ⟨b1, b2, b3, b4, _⟩ := plan_ok hp
      have hs01 := (frB_ok hFr).1
      have hP : CPOk ⟨t, sp, ss, s, hi⟩ := ⟨b1, b2, b3, b4, by dsimp only; omega, by dsimp only; omega, by dsimp only; omega⟩
      by_cases hoh : fo ≤ hi
      · exact whole_in1 ⟨t, sp, ss, s, hi⟩ a c hF s l fh fo wa wc ws hwc.2.2 hR hm hi hP rfl rfl hoh w h hw
      · exact whole_in0 ⟨t, sp, ss, s, hi⟩ a c hF s l fh fo wa wc ws hwc.2.2 hR hm hi hP rfl rfl hoh w h hw
end Go.Proofs.Ytafenndokmccoaa
