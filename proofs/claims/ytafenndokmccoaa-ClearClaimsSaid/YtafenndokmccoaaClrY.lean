/- The law of layer 'wipe': claims among a machine's accesses, the main way. -/
import Derived.Test.YtafenndokmccoaaClrX
namespace Go.Proofs.Ytafenndokmccoaa
open Go.RowKit
set_option linter.unusedVariables false
set_option linter.unusedSimpArgs false

theorem ClOf.at {W : World} {a : Option Addr} {z : List (Int × Int)} (h : ClOf W a z) (i : Nat) (hi : i < z.length) : ∃ b o, a = some ⟨b, o, none⟩ ∧ b < W.heap.size ∧ W.cell? ⟨b, o + i * 2, none⟩ = some (.int .i64 z[i].1) ∧ W.cell? ⟨b, o + i * 2 + 1, none⟩ = some (.int .i64 z[i].2) := by
  rcases h with h | ⟨b, o, ha, hlt, hc⟩
  · rw [h] at hi; cases hi
  · exact ⟨b, o, ha, hlt, (hc i hi).1, (hc i hi).2⟩
theorem blk_below' {S : Nat → Prop} {w w' : World} {k : Nat} {o : Obj} (hb : w.heap[k]? = some o) (h : Only S w w') (hs : ¬ S k) : w'.heap[k]? = some o := h.blk hs hb
theorem set_same1 {l : List Int} {v : Int} (h : l.getD 1 0 = v) (hl : 1 < l.length) : l.set 1 v = l := by
  rw [List.getD_eq_getElem?_getD, List.getElem?_eq_getElem hl] at h
  have h' : l[1] = v := h
  rw [← h']
  exact List.set_getElem_self hl
set_option maxHeartbeats 6400000 in
set_option maxRecDepth 1000000 in
theorem claims_in (P : CPar) (a : Option Addr) (c : Nat) (hn : Fit P.ss) (fs fl fh fo : Int) (wa : Option Addr) (wc : Nat) (ws : List Int) (hwn : wa = none → wc = 0) (hwr : ∀ x ∈ ws, 0 ≤ x ∧ x < 18446744073709551616) (hm : mdB P.t P.sp P.ss fs fl fh fo ws.length = true) (hi : Int) (ca : Option Addr) (cc : Nat) (cs : List (Int × Int)) (hP : CPOk P) (hfs : P.fr = fs) (hhi : P.hi = hi) (h40 : cs.length ≤ 40) (hwf : ∀ z ∈ cs, (Lit.int .i64 z.1).wf = true ∧ (Lit.int .i64 z.2).wf = true) (w : World) (hs : SlOf w a (strV P.ss)) (hw : WdsOf w wa ws) (hcl : ClOf w ca cs) :
    Calls Try.prog 3 #[hpV P.t P.sp a P.ss.length c fs fl fh fo wa ws.length wc, .int .i64 hi, .slice ca cs.length cc] w fun e w' => e = .returned (.bool true) ∧ Below w.heap.size w w' := by
  have MD := fun W h hW => made27_ok P.t P.sp a c P.ss hn fs fl fh fo wa wc ws hwn hm W h hW
  have hm' := hm
  unfold mdB at hm'
  simp only [Bool.and_eq_true, decide_eq_true_eq] at hm'
  obtain ⟨⟨⟨⟨⟨-, hp⟩, h100⟩, -⟩, hFr⟩, hfh⟩ := hm'
  have hLr := mdW_rng hp hFr hwr
  have hLl := mdW_len fs fl fh fo ws hp
  have hL1 := mdW_one fs fl fh fo ws hp
  obtain ⟨b1, b2, b3, b4, b5⟩ := plan_ok hp
  have WK := Lib.hid (fun W => works27_calls W)
  unfold hpV at MD
  unfold hpV
  generalize mdW P.t P.sp P.ss fs fl fh fo ws = L at MD hLr hLl hL1
  have MD := Lib.hid MD
  have HS := Lib.hid hs
  have HW := Lib.hid hw
  clear hs hw hm
  have hX := (MapKept.heap_alloc w (.cells #[.int .i64 P.t, .int .i64 P.sp, .slice a P.ss.length c, .int .i64 fs, .int .i64 fl, .int .i64 fh, .int .i64 fo, .slice wa ws.length wc] 29)).1
  have hb0 : Below w.heap.size w (w.alloc (.cells #[.int .i64 P.t, .int .i64 P.sp, .slice a P.ss.length c, .int .i64 fs, .int .i64 fl, .int .i64 fh, .int .i64 fo, .slice wa ws.length wc] 29)) := by (repeat (first | exact Below.refl _ _ | (with_reducible assumption) | refine Below.drew ?_ | refine Below.drewN' ?_ _ | refine Below.alloc ?_ (by first | omega | (simp; done) | (simp; omega)) _ | refine Below.setCell ?_ (by first | omega | (simp; done) | (simp; omega)) _ | refine Below.then ?_ hb9 (by first | omega | (simp; done) | (simp; omega)) | refine Below.then ?_ hb8 (by first | omega | (simp; done) | (simp; omega)) | refine Below.then ?_ hb7 (by first | omega | (simp; done) | (simp; omega)) | refine Below.then ?_ hb6 (by first | omega | (simp; done) | (simp; omega)) | refine Below.then ?_ hb5 (by first | omega | (simp; done) | (simp; omega)) | refine Below.then ?_ hb4 (by first | omega | (simp; done) | (simp; omega)) | refine Below.then ?_ hb3 (by first | omega | (simp; done) | (simp; omega)) | refine Below.then ?_ hb2 (by first | omega | (simp; done) | (simp; omega)) | refine Below.then ?_ hb1 (by first | omega | (simp; done) | (simp; omega))))
  have hs0 := HS.out.alloc (.cells #[.int .i64 P.t, .int .i64 P.sp, .slice a P.ss.length c, .int .i64 fs, .int .i64 fl, .int .i64 fh, .int .i64 fo, .slice wa ws.length wc] 29)
  have hw0 : WdsOf (w.alloc (.cells #[.int .i64 P.t, .int .i64 P.sp, .slice a P.ss.length c, .int .i64 fs, .int .i64 fl, .int .i64 fh, .int .i64 fo, .slice wa ws.length wc] 29)) wa ws := SlOf.alloc HW.out _
  have hLn : ((L.length : Int) == 0) = false := beq_eq_false_iff_ne.2 (by omega)
  have hL0 : ¬ (L.length : Int) = 0 := by omega
  have hL9 : ¬ L.length = 0 := by omega
  have hL8 : ¬ L = [] := fun e => hL9 (by rw [e]; rfl)
  have hF1 := hP.f
  have hH0 := hP.h0
  have hH1 := hP.h1
  have hfar : ∀ ad, a = some ad → ad.block < w.heap.size := fun ad e => by
    have hlen := (table_len b5).1
    rcases HS.out with h | ⟨b, o, ha, hlt, _⟩
    · have := congrArg List.length h
      rw [strV_len, List.length_nil] at this
      omega
    · rw [e] at ha
      have : ad = ⟨b, o, none⟩ := Option.some.inj ha
      rw [this]; exact hlt
  have NW := fun W h => wNew_ok P hP hp hn.1 a c W h
  simp only [hfs, hhi] at NW
  have HX := Lib.hid (fun (D' : Nat → Prop) (p : Nat) (s' : CSt) (la' : Value) (lm' : List Int) (hl' : lm'.length ≤ 1000000) (x : Int) (h0 : 0 ≤ x) (h1 : x < 18446744073709551616) (W : World) (hW : Wm W D' p P a c s' la' lm') => wNext_calls D' p P hP hn.1 a c s' la' lm' hl' x h0 h1 W hW)
  have HDo := Lib.hid (fun (pa b : Nat) (l' : List Int) (k x o n : Int) h0 h1 hk W hW => arDo_calls pa b l' k x o n h0 h1 hk W hW)
  have CS := Lib.hid (fun (s : CSt) (x : Int) (l : List Int) (o : Int) (h : CI P fl fh fo s x l o) => ci_step hP hfh h)
  have C0 := Lib.hid (ci_start hP (L := fl) (H := fh) (O0 := fo) (l := L) (by omega) (by rw [hfs]; exact hFr) (by rw [hfs]; exact hL1))
  have hfr : ∀ o, CI P fl fh fo ⟨0, 0, 0, 0⟩ 0 L o → True := fun _ _ => trivial
  have OF := fun g W h => arOf_calls (some ⟨g, 0, none⟩) L.length L (by omega) (by omega) hLr W h
  have NW := Lib.hid NW
  have OF := Lib.hid OF
  have hfs' := Lib.hid hfs
  have hhi' := Lib.hid hhi
  have hmu0 : cMu P ⟨0, hi, 0, 0⟩ ≤ 399 := by
    show (P.sp - hi + P.sp + 3 + P.hi).toNat ≤ 399
    rw [hhi]; omega
  have hst0 : (⟨0, P.hi, 0, 0⟩ : CSt) = ⟨0, hi, 0, 0⟩ := by rw [hhi]
  rw [hst0] at C0
  rw [hhi] at hH0 hH1
  rw [hfs] at hF1
  have hFrf := frB_ok hFr
  have hh1 : ¬ hi < 0 := by omega
  have hh2 : ¬ P.sp < hi := by omega
  have hh3 : ¬ (40 : Int) < (cs.length : Int) := by omega
  have hw1 : IntKind.i64.wrap (1 - fs) = 1 - fs := IntWalk.i64_in _ (by omega)
  have HLl := Lib.hid hLl
  have hLb1 : 66 ≤ L.length := by omega
  have hLb2 : L.length ≤ 300 := by omega
  have HCl := Lib.hid hcl
  clear hfs hhi hLl hst0 hcl hfr
  go_enter Try.func3, Try.ntmps3
  go_wp2_with fail
  generalize (w.alloc (.cells #[.int .i64 P.t, .int .i64 P.sp, .slice a P.ss.length c, .int .i64 fs, .int .i64 fl, .int .i64 fh, .int .i64 fo, .slice wa ws.length wc] 29)) = WH at hX hb0 hs0 hw0 ⊢
  have lh := blk_lt hX
  have q0 : WH.cell? ⟨w.heap.size, 0, none⟩ = some (.int .i64 P.t) := blk_cell hX 0 _ rfl
  have q1 : WH.cell? ⟨w.heap.size, 1, none⟩ = some (.int .i64 P.sp) := blk_cell hX 1 _ rfl
  have q2 : WH.cell? ⟨w.heap.size, 2, none⟩ = some (.slice a P.ss.length c) := blk_cell hX 2 _ rfl
  have q3 : WH.cell? ⟨w.heap.size, 3, none⟩ = some (.int .i64 fs) := blk_cell hX 3 _ rfl
  have q4 : WH.cell? ⟨w.heap.size, 4, none⟩ = some (.int .i64 fl) := blk_cell hX 4 _ rfl
  have q5 : WH.cell? ⟨w.heap.size, 5, none⟩ = some (.int .i64 fh) := blk_cell hX 5 _ rfl
  have q6 : WH.cell? ⟨w.heap.size, 6, none⟩ = some (.int .i64 fo) := blk_cell hX 6 _ rfl
  have q7 : WH.cell? ⟨w.heap.size, 7, none⟩ = some (.slice wa ws.length wc) := blk_cell hX 7 _ rfl
  have HSd := Lib.hid (show SlOf WH.drew a (strV P.ss) ∧ WdsOf WH.drew wa ws from ⟨hs0.drew, SlOf.drew hw0⟩)
  have HSe := Lib.hid (fun o => (show SlOf (WH.alloc o).drew a (strV P.ss) ∧ WdsOf (WH.alloc o).drew wa ws from ⟨(hs0.alloc o).drew, SlOf.drew (SlOf.alloc hw0 o)⟩))
  have keepS : ∀ A B : World, Below WH.heap.size A B → A.cell? ⟨w.heap.size, 0, none⟩ = some (.int .i64 P.t) ∧ A.cell? ⟨w.heap.size, 1, none⟩ = some (.int .i64 P.sp) ∧ A.cell? ⟨w.heap.size, 2, none⟩ = some (.slice a P.ss.length c) ∧ A.cell? ⟨w.heap.size, 3, none⟩ = some (.int .i64 fs) ∧ A.cell? ⟨w.heap.size, 4, none⟩ = some (.int .i64 fl) ∧ A.cell? ⟨w.heap.size, 5, none⟩ = some (.int .i64 fh) ∧ A.cell? ⟨w.heap.size, 6, none⟩ = some (.int .i64 fo) ∧ A.cell? ⟨w.heap.size, 7, none⟩ = some (.slice wa ws.length wc) ∧ WH.heap.size ≤ A.heap.size → B.cell? ⟨w.heap.size, 0, none⟩ = some (.int .i64 P.t) ∧ B.cell? ⟨w.heap.size, 1, none⟩ = some (.int .i64 P.sp) ∧ B.cell? ⟨w.heap.size, 2, none⟩ = some (.slice a P.ss.length c) ∧ B.cell? ⟨w.heap.size, 3, none⟩ = some (.int .i64 fs) ∧ B.cell? ⟨w.heap.size, 4, none⟩ = some (.int .i64 fl) ∧ B.cell? ⟨w.heap.size, 5, none⟩ = some (.int .i64 fh) ∧ B.cell? ⟨w.heap.size, 6, none⟩ = some (.int .i64 fo) ∧ B.cell? ⟨w.heap.size, 7, none⟩ = some (.slice wa ws.length wc) ∧ WH.heap.size ≤ B.heap.size := fun A B hb hc => ⟨(hb.cell (p := ⟨w.heap.size, 0, none⟩) lh).trans hc.1, (hb.cell (p := ⟨w.heap.size, 1, none⟩) lh).trans hc.2.1, (hb.cell (p := ⟨w.heap.size, 2, none⟩) lh).trans hc.2.2.1, (hb.cell (p := ⟨w.heap.size, 3, none⟩) lh).trans hc.2.2.2.1, (hb.cell (p := ⟨w.heap.size, 4, none⟩) lh).trans hc.2.2.2.2.1, (hb.cell (p := ⟨w.heap.size, 5, none⟩) lh).trans hc.2.2.2.2.2.1, (hb.cell (p := ⟨w.heap.size, 6, none⟩) lh).trans hc.2.2.2.2.2.2.1, (hb.cell (p := ⟨w.heap.size, 7, none⟩) lh).trans hc.2.2.2.2.2.2.2.1, Nat.le_trans hc.2.2.2.2.2.2.2.2 hb.size⟩
  have keepC := Lib.hid (show ∀ A B : World, Below A.heap.size A B → A.cell? ⟨w.heap.size, 0, none⟩ = some (.int .i64 P.t) ∧ A.cell? ⟨w.heap.size, 1, none⟩ = some (.int .i64 P.sp) ∧ A.cell? ⟨w.heap.size, 2, none⟩ = some (.slice a P.ss.length c) ∧ A.cell? ⟨w.heap.size, 3, none⟩ = some (.int .i64 fs) ∧ A.cell? ⟨w.heap.size, 4, none⟩ = some (.int .i64 fl) ∧ A.cell? ⟨w.heap.size, 5, none⟩ = some (.int .i64 fh) ∧ A.cell? ⟨w.heap.size, 6, none⟩ = some (.int .i64 fo) ∧ A.cell? ⟨w.heap.size, 7, none⟩ = some (.slice wa ws.length wc) ∧ WH.heap.size ≤ A.heap.size → B.cell? ⟨w.heap.size, 0, none⟩ = some (.int .i64 P.t) ∧ B.cell? ⟨w.heap.size, 1, none⟩ = some (.int .i64 P.sp) ∧ B.cell? ⟨w.heap.size, 2, none⟩ = some (.slice a P.ss.length c) ∧ B.cell? ⟨w.heap.size, 3, none⟩ = some (.int .i64 fs) ∧ B.cell? ⟨w.heap.size, 4, none⟩ = some (.int .i64 fl) ∧ B.cell? ⟨w.heap.size, 5, none⟩ = some (.int .i64 fh) ∧ B.cell? ⟨w.heap.size, 6, none⟩ = some (.int .i64 fo) ∧ B.cell? ⟨w.heap.size, 7, none⟩ = some (.slice wa ws.length wc) ∧ WH.heap.size ≤ B.heap.size from fun A B hb hc => keepS A B (hb.mono hc.2.2.2.2.2.2.2.2) hc)
  have keepA := Lib.hid (show ∀ (A : World) (x0 : Obj), A.cell? ⟨w.heap.size, 0, none⟩ = some (.int .i64 P.t) ∧ A.cell? ⟨w.heap.size, 1, none⟩ = some (.int .i64 P.sp) ∧ A.cell? ⟨w.heap.size, 2, none⟩ = some (.slice a P.ss.length c) ∧ A.cell? ⟨w.heap.size, 3, none⟩ = some (.int .i64 fs) ∧ A.cell? ⟨w.heap.size, 4, none⟩ = some (.int .i64 fl) ∧ A.cell? ⟨w.heap.size, 5, none⟩ = some (.int .i64 fh) ∧ A.cell? ⟨w.heap.size, 6, none⟩ = some (.int .i64 fo) ∧ A.cell? ⟨w.heap.size, 7, none⟩ = some (.slice wa ws.length wc) ∧ WH.heap.size ≤ A.heap.size → (A.alloc x0).cell? ⟨w.heap.size, 0, none⟩ = some (.int .i64 P.t) ∧ (A.alloc x0).cell? ⟨w.heap.size, 1, none⟩ = some (.int .i64 P.sp) ∧ (A.alloc x0).cell? ⟨w.heap.size, 2, none⟩ = some (.slice a P.ss.length c) ∧ (A.alloc x0).cell? ⟨w.heap.size, 3, none⟩ = some (.int .i64 fs) ∧ (A.alloc x0).cell? ⟨w.heap.size, 4, none⟩ = some (.int .i64 fl) ∧ (A.alloc x0).cell? ⟨w.heap.size, 5, none⟩ = some (.int .i64 fh) ∧ (A.alloc x0).cell? ⟨w.heap.size, 6, none⟩ = some (.int .i64 fo) ∧ (A.alloc x0).cell? ⟨w.heap.size, 7, none⟩ = some (.slice wa ws.length wc) ∧ WH.heap.size ≤ (A.alloc x0).heap.size from fun A x0 hc => keepS A _ ((Below.refl _ _).alloc hc.2.2.2.2.2.2.2.2 _) hc)
  have keepD := Lib.hid (show WH.drew.cell? ⟨w.heap.size, 0, none⟩ = some (.int .i64 P.t) ∧ WH.drew.cell? ⟨w.heap.size, 1, none⟩ = some (.int .i64 P.sp) ∧ WH.drew.cell? ⟨w.heap.size, 2, none⟩ = some (.slice a P.ss.length c) ∧ WH.drew.cell? ⟨w.heap.size, 3, none⟩ = some (.int .i64 fs) ∧ WH.drew.cell? ⟨w.heap.size, 4, none⟩ = some (.int .i64 fl) ∧ WH.drew.cell? ⟨w.heap.size, 5, none⟩ = some (.int .i64 fh) ∧ WH.drew.cell? ⟨w.heap.size, 6, none⟩ = some (.int .i64 fo) ∧ WH.drew.cell? ⟨w.heap.size, 7, none⟩ = some (.slice wa ws.length wc) ∧ WH.heap.size ≤ WH.drew.heap.size from keepS WH _ (Below.refl _ _).drew ⟨q0, q1, q2, q3, q4, q5, q6, q7, Nat.le_refl _⟩)
  have keepE := Lib.hid (show ∀ (x0 : Obj), (WH.alloc x0).drew.cell? ⟨w.heap.size, 0, none⟩ = some (.int .i64 P.t) ∧ (WH.alloc x0).drew.cell? ⟨w.heap.size, 1, none⟩ = some (.int .i64 P.sp) ∧ (WH.alloc x0).drew.cell? ⟨w.heap.size, 2, none⟩ = some (.slice a P.ss.length c) ∧ (WH.alloc x0).drew.cell? ⟨w.heap.size, 3, none⟩ = some (.int .i64 fs) ∧ (WH.alloc x0).drew.cell? ⟨w.heap.size, 4, none⟩ = some (.int .i64 fl) ∧ (WH.alloc x0).drew.cell? ⟨w.heap.size, 5, none⟩ = some (.int .i64 fh) ∧ (WH.alloc x0).drew.cell? ⟨w.heap.size, 6, none⟩ = some (.int .i64 fo) ∧ (WH.alloc x0).drew.cell? ⟨w.heap.size, 7, none⟩ = some (.slice wa ws.length wc) ∧ WH.heap.size ≤ (WH.alloc x0).drew.heap.size from fun x0 => keepS WH _ ((Below.refl _ _).alloc (Nat.le_refl _) _).drew ⟨q0, q1, q2, q3, q4, q5, q6, q7, Nat.le_refl _⟩)
  have keepT := Lib.hid (show ∀ (A : World) (d : Nat) (v0 v1 v2 : Value), WH.heap.size ≤ d → A.cell? ⟨w.heap.size, 0, none⟩ = some (.int .i64 P.t) ∧ A.cell? ⟨w.heap.size, 1, none⟩ = some (.int .i64 P.sp) ∧ A.cell? ⟨w.heap.size, 2, none⟩ = some (.slice a P.ss.length c) ∧ A.cell? ⟨w.heap.size, 3, none⟩ = some (.int .i64 fs) ∧ A.cell? ⟨w.heap.size, 4, none⟩ = some (.int .i64 fl) ∧ A.cell? ⟨w.heap.size, 5, none⟩ = some (.int .i64 fh) ∧ A.cell? ⟨w.heap.size, 6, none⟩ = some (.int .i64 fo) ∧ A.cell? ⟨w.heap.size, 7, none⟩ = some (.slice wa ws.length wc) ∧ WH.heap.size ≤ A.heap.size → (((A.setCell ⟨d, 0, none⟩ v0).setCell ⟨d, 1, none⟩ v1).setCell ⟨d, 2, none⟩ v2).cell? ⟨w.heap.size, 0, none⟩ = some (.int .i64 P.t) ∧ (((A.setCell ⟨d, 0, none⟩ v0).setCell ⟨d, 1, none⟩ v1).setCell ⟨d, 2, none⟩ v2).cell? ⟨w.heap.size, 1, none⟩ = some (.int .i64 P.sp) ∧ (((A.setCell ⟨d, 0, none⟩ v0).setCell ⟨d, 1, none⟩ v1).setCell ⟨d, 2, none⟩ v2).cell? ⟨w.heap.size, 2, none⟩ = some (.slice a P.ss.length c) ∧ (((A.setCell ⟨d, 0, none⟩ v0).setCell ⟨d, 1, none⟩ v1).setCell ⟨d, 2, none⟩ v2).cell? ⟨w.heap.size, 3, none⟩ = some (.int .i64 fs) ∧ (((A.setCell ⟨d, 0, none⟩ v0).setCell ⟨d, 1, none⟩ v1).setCell ⟨d, 2, none⟩ v2).cell? ⟨w.heap.size, 4, none⟩ = some (.int .i64 fl) ∧ (((A.setCell ⟨d, 0, none⟩ v0).setCell ⟨d, 1, none⟩ v1).setCell ⟨d, 2, none⟩ v2).cell? ⟨w.heap.size, 5, none⟩ = some (.int .i64 fh) ∧ (((A.setCell ⟨d, 0, none⟩ v0).setCell ⟨d, 1, none⟩ v1).setCell ⟨d, 2, none⟩ v2).cell? ⟨w.heap.size, 6, none⟩ = some (.int .i64 fo) ∧ (((A.setCell ⟨d, 0, none⟩ v0).setCell ⟨d, 1, none⟩ v1).setCell ⟨d, 2, none⟩ v2).cell? ⟨w.heap.size, 7, none⟩ = some (.slice wa ws.length wc) ∧ WH.heap.size ≤ (((A.setCell ⟨d, 0, none⟩ v0).setCell ⟨d, 1, none⟩ v1).setCell ⟨d, 2, none⟩ v2).heap.size from fun A d v0 v1 v2 hd hc => keepS A _ (((Below.refl _ _).setCell hd _).setCell hd _ |>.setCell hd _) hc)
  have keepM := Lib.hid (show ∀ (A : World) (x0 x1 : Obj), WH.heap.size ≤ A.heap.size → (A.alloc x0).cell? ⟨w.heap.size, 0, none⟩ = some (.int .i64 P.t) ∧ (A.alloc x0).cell? ⟨w.heap.size, 1, none⟩ = some (.int .i64 P.sp) ∧ (A.alloc x0).cell? ⟨w.heap.size, 2, none⟩ = some (.slice a P.ss.length c) ∧ (A.alloc x0).cell? ⟨w.heap.size, 3, none⟩ = some (.int .i64 fs) ∧ (A.alloc x0).cell? ⟨w.heap.size, 4, none⟩ = some (.int .i64 fl) ∧ (A.alloc x0).cell? ⟨w.heap.size, 5, none⟩ = some (.int .i64 fh) ∧ (A.alloc x0).cell? ⟨w.heap.size, 6, none⟩ = some (.int .i64 fo) ∧ (A.alloc x0).cell? ⟨w.heap.size, 7, none⟩ = some (.slice wa ws.length wc) ∧ WH.heap.size ≤ (A.alloc x0).heap.size → (A.alloc x1).cell? ⟨w.heap.size, 0, none⟩ = some (.int .i64 P.t) ∧ (A.alloc x1).cell? ⟨w.heap.size, 1, none⟩ = some (.int .i64 P.sp) ∧ (A.alloc x1).cell? ⟨w.heap.size, 2, none⟩ = some (.slice a P.ss.length c) ∧ (A.alloc x1).cell? ⟨w.heap.size, 3, none⟩ = some (.int .i64 fs) ∧ (A.alloc x1).cell? ⟨w.heap.size, 4, none⟩ = some (.int .i64 fl) ∧ (A.alloc x1).cell? ⟨w.heap.size, 5, none⟩ = some (.int .i64 fh) ∧ (A.alloc x1).cell? ⟨w.heap.size, 6, none⟩ = some (.int .i64 fo) ∧ (A.alloc x1).cell? ⟨w.heap.size, 7, none⟩ = some (.slice wa ws.length wc) ∧ WH.heap.size ≤ (A.alloc x1).heap.size from fun A x0 x1 hle hc => keepS (A.alloc x0) _ ⟨rfl, rfl, rfl, by simp, fun k hk => by rw [Below.heap_alloc _ _ _ (by omega), Below.heap_alloc _ _ _ (by omega)]⟩ hc)
  clear keepS
  refine Code.wp_mono (Q := fun e ac W => e = Exit.normal ∧ ∃ (X : Nat) (g : Nat), ac = (?frameOfI : Nat → Nat → Act) X g ∧ (W.heap[X]? = some (.cells #[.int .i64 P.t, .int .i64 P.sp, .slice a P.ss.length c] 24 (0, 0)) ∧ WH.heap.size ≤ X ∧ Below WH.heap.size WH W ∧ RowAt W g L ∧ WH.heap.size ≤ g)) ?impI ?regI
  case regI =>
    go_region_held3 (fun A => A.cell? ⟨w.heap.size, 0, none⟩ = some (.int .i64 P.t) ∧ A.cell? ⟨w.heap.size, 1, none⟩ = some (.int .i64 P.sp) ∧ A.cell? ⟨w.heap.size, 2, none⟩ = some (.slice a P.ss.length c) ∧ A.cell? ⟨w.heap.size, 3, none⟩ = some (.int .i64 fs) ∧ A.cell? ⟨w.heap.size, 4, none⟩ = some (.int .i64 fl) ∧ A.cell? ⟨w.heap.size, 5, none⟩ = some (.int .i64 fh) ∧ A.cell? ⟨w.heap.size, 6, none⟩ = some (.int .i64 fo) ∧ A.cell? ⟨w.heap.size, 7, none⟩ = some (.slice wa ws.length wc) ∧ WH.heap.size ≤ A.heap.size) (first | (with_reducible exact keepD.out) | (with_reducible exact keepE.out _) | (with_reducible refine keepT.out _ _ _ _ _ ?_ ?_; (first | omega | (simp; omega)); assumption) | (with_reducible refine keepC.out _ _ hb5 ?_; assumption) | (with_reducible refine keepM.out _ _ _ ?_ (by assumption); first | omega | (simp; omega)) | (with_reducible exact keepA.out _ _ (by assumption)) | exact keepD.out) (first | (go_at_call 9; refine (MD.out _ (by first | with_reducible exact HSd.out.1 | with_reducible exact (HSe.out _).1) (by first | with_reducible exact HSd.out.2 | with_reducible exact (HSe.out _).2)).mono ?_; rintro e5 w5 ⟨g, rfl, hrow5, hg5, hb5⟩; have hz5 := hb5.size; (try simp at hz5); (try (have zc := fun j => hb5.cell (p := ⟨WH.heap.size, j, none⟩) (by simp); have zf := fun j => hb5.frozen (p := ⟨WH.heap.size, j, none⟩) (by simp); have zq0 := zc 0; have zq1 := zc 1; have zq2 := zc 2; have zf0 := zf 0; have zf1 := zf 1; have zf2 := zf 2; simp [go_sem] at zq0 zq1 zq2 zf0 zf1 zf2; have zl : WH.heap.size < w5.heap.size := (by omega); clear zc zf))))
    · obtain ⟨X, hX1⟩ : ∃ X, w5.heap.size = X := ⟨_, rfl⟩
      have hB4 : Below WH.heap.size WH (w5.alloc (.cells #[.int .i64 P.t, .int .i64 P.sp, .slice a P.ss.length c] 24)) := ((Below.refl _ _).drew.trans hb5).alloc hz5 _
      refine ⟨rfl, X, g, ?_, ⟨by rw [← hX1]; exact (MapKept.heap_alloc w5 _).1, by omega, hB4, hrow5.below ((Below.refl _ _).alloc (Nat.le_refl _) _), hg5⟩⟩
      rw [hX1]
    · obtain ⟨X, hX1⟩ : ∃ X, WH.heap.size = X := ⟨_, rfl⟩
      have hB3 : Below WH.heap.size WH w5 := ((Below.refl _ _).alloc (Nat.le_refl _) _).drew.trans (hb5.mono (by simp))
      have hB4 := ((hB3.setCell (p := ⟨WH.heap.size, 0, none⟩) (Nat.le_refl _) (.int .i64 P.t)).setCell (p := ⟨WH.heap.size, 1, none⟩) (Nat.le_refl _) (.int .i64 P.sp)).setCell (p := ⟨WH.heap.size, 2, none⟩) (Nat.le_refl _) (.slice a P.ss.length c)
      refine ⟨rfl, X, g, ?_, ⟨by rw [← hX1]; exact blk_eq (blk_set (blk_set (blk_set (blk_below (blk_drew (MapKept.heap_alloc WH _).1) hb5) 0 _) 1 _) 2 _) rfl, by omega, hB4, blk_off (blk_off (blk_off hrow5 0 _ (by simp at hg5; omega)) 1 _ (by simp at hg5; omega)) 2 _ (by simp at hg5; omega), (by simp at hg5; omega)⟩⟩
      rw [hX1]
  case impI =>
    rintro e ac W6 ⟨rfl, X, g, rfl, G6, hX6, hb6, hr6, hg6⟩
    have hb06 : Below w.heap.size w W6 := Below.then hb0 hb6 hb0.size
    have H6 := blk_below hX hb6
    have lH6 := blk_lt H6
    have lG6 := blk_lt G6
    have lR6 : g < W6.heap.size := (Array.getElem?_eq_some_iff.1 hr6).1
    have x1 : W6.cell? ⟨X, 1, none⟩ = some (.int .i64 P.sp) := blk_cell G6 1 _ rfl
    have y3 : W6.cell? ⟨w.heap.size, 3, none⟩ = some (.int .i64 fs) := blk_cell H6 3 _ rfl
    clear q0 q1 q2 q3 q4 q5 q6 q7 keepC keepA keepD keepE keepT keepM HSd HSe hs0 hw0
    go_wp2_with fail
    refine (OF.out g _ hr6.wds).mono ?_
    rintro e8 w8 ⟨rfl, hA8, hb8⟩
    have H8 := blk_below H6 hb8
    have G8 := blk_below G6 hb8
    have hb08 : Below w.heap.size w w8 := Below.then hb06 hb8 hb06.size
    have hw6 : w.heap.size ≤ W6.heap.size := hb06.size
    generalize W6.heap.size = bb at hA8 lH6 lG6 lR6 hw6 ⊢
    clear hr6 hb8 hb06 H6 G6 x1 y3
    have x0 : w8.cell? ⟨X, 0, none⟩ = some (.int .i64 P.t) := blk_cell G8 0 _ rfl
    have x1 : w8.cell? ⟨X, 1, none⟩ = some (.int .i64 P.sp) := blk_cell G8 1 _ rfl
    have x2 : w8.cell? ⟨X, 2, none⟩ = some (.slice a P.ss.length c) := blk_cell G8 2 _ rfl
    have lX8 := blk_lt G8
    go_wp2_with fail
    refine (NW.out _ (HS.out.below hb08)).mono ?_
    rintro e10 w10 ⟨p, rfl, hp10, hM10, hb10⟩
    have H10 := blk_below H8 hb10
    have hA10 := hA8.below hb10
    have hb010 : Below w.heap.size w w10 := Below.then hb08 hb10 hb08.size
    have l8a := hA8.pb
    have l8b := hA8.bb
    have hz10 := hb10.size
    have hw8 : w.heap.size ≤ w8.heap.size := hb08.size
    clear H8 G8 hA8 hb10 x0 x1 x2 lX8 hb08
    have HM10 := Lib.hid hM10
    have HA10 := Lib.hid hA10
    clear hM10 hA10
    go_wp2_with (first | (go_at_call 13; go_in))
    go_loopw [14, 15, 16] (fun wv sv nv wr => ∃ (n : Nat) (sm : Int) (s' : CSt) (x : Int) (l' : List Int) (la' : Value) (lm' : List Int) (D' : Nat → Prop) (o : Int), wv = .int .u64 x ∧ sv = .int .i64 sm ∧ nv = .int .i64 n ∧ sm = o - fo ∧ n + cMu P s' ≤ 399 ∧ 0 ≤ x ∧ x < 18446744073709551616 ∧ lm'.length ≤ n ∧ Wm wr D' p P a c s' la' lm' ∧ Ar wr (bb + 1) bb l' ∧ CI P fl fh fo s' x l' o ∧ (∀ k, D' k → w8.heap.size ≤ k) ∧ Only (fun k => w8.heap.size ≤ k ∨ k = bb) w10 wr) (fun _ _ nv _ => 2000 - (intOf nv).toNat)
    case atStart => exact ⟨0, 0, ⟨0, hi, 0, 0⟩, 0, L, _, [], _, fo, rfl, rfl, rfl, by omega, by omega, by omega, by omega, by simp, HM10.out, HA10.out, C0.out, fun k hk => hk.1, Only.refl _ _⟩
    case round =>
      obtain ⟨n, sm, s', x, l', la', lm', D', o, rfl, rfl, rfl, hsm, hmu, x0, x1, hlm', hM, hAr, hCI, hDD, hO⟩ := hrel
      have hn : n ≤ 399 := by omega
      have n1 : (n : Int) < 2000 := by omega
      have hDb : ¬ D' bb := fun hk => by have := hDD bb hk; omega
      have hDpa : ¬ D' (bb + 1) := fun hk => by have := hDD _ hk; omega
      have hX := HX.out D' p s' la' lm' (by omega) x x0 x1 wr hM
      have hacc := cNext_acc hP hM.inv (ans := x) ⟨x0, x1⟩
      have her := (cNext_inv hM.inv (ans := x) ⟨x0, x1⟩).er
      obtain ⟨st1, st2⟩ := CS.out s' x l' o hCI
      have hlen' := hCI.len
      have hCfr := hCI.fr
      have hCge := hCI.ge
      have hzr := hO.size
      cases his : (cNext P s' x).is with
      | false =>
        rw [his] at hX
        obtain ⟨hpl, hlo, hhi2⟩ := st1 his
        clear st2
        have H11 := hO.blk (show ¬ (w8.heap.size ≤ w.heap.size ∨ w.heap.size = bb) by omega) H10
        have hbr : Below w.heap.size w wr := hb010.trans (hO.below hb010.size fun k hk => by omega)
        have hlr : w.heap.size < wr.heap.size := blk_lt H11
        generalize cNext P s' x = r at hX her hacc hpl hlo hhi2
        rw [hfs'.out, hhi'.out] at hlo
        rw [hhi'.out] at hhi2
        have hfo2 := hCfr
        rw [hfs'.out] at hfo2
        have hl1 : 1 < l'.length := by have := hP.t1; have := hP.s32; omega
        have hvr := hAr.rng l'[1] (List.getElem_mem _)
        have hve : l'.getD 1 0 = l'[1] := by rw [List.getD_eq_getElem?_getD, List.getElem?_eq_getElem hl1]; rfl
        rw [hve] at hlo
        have LD := Lib.hid (fun W h => arLoad_calls (bb + 1) bb l' 1 hl1 W h)
        have FO := fun W => rfOfFront_calls l'[1] hvr.1 hvr.2 W
        generalize l'[1] = v at LD FO hlo hvr hve
        have HXX := Lib.hid hX
        have HArr := Lib.hid hAr
        have HDD := Lib.hid hDD
        have HB := Lib.hid hbr
        have HH := Lib.hid H11
        clear hX hAr hM his hacc hO hCI hDD hbr H11 HX CS NW OF HDo hve hvr
        by_cases hfo : hi < fo
        · have herr := hhi2 hfo
          have FO := Lib.hid FO
          unfold accV at HXX
          go_wp2_with fail
          refine HXX.out.mono ?_
          rintro e1 w1 ⟨rfl, hO1, la1, hM1⟩
          obtain ⟨nx1, mb1, _⟩ := hM1.mb
          rw [hpl, herr] at mb1
          have hb1 : Below w.heap.size wr w1 := hO1.below (by omega) fun k hk => by have := HDD.out k hk; omega
          have H1 := blk_below' HH.out hO1 (fun hk => by have := HDD.out _ hk; omega)
          have hA1 := HArr.out.only hO1 hDpa hDb
          clear hM1 hO1 HXX
          have hlt1 := blk_lt H1
          go_wp2_with fail
          refine (wOut_calls p P a c nx1 la1 true 240 (fun e => by cases e) _ (blk_alloc mb1 _)).mono ?_
          rintro e2 w2 ⟨rfl, hb2⟩
          have hbX : Below w.heap.size w w2 := (HB.out.trans hb1).trans (((Below.refl _ _).alloc (by omega) _).trans (hb2.mono (by simp; omega)))
          have H2 := blk_below (blk_alloc H1 _) hb2
          have hA2 := (hA1.alloc _).below hb2
          clear hb2 mb1 H1 hA1 hb1
          have hlt2 := blk_lt H2
          go_wp2_with fail
          refine (LD.out _ hA2).mono ?_
          rintro e3 w3 ⟨rfl, hb3⟩
          have hbY := hbX.trans (hb3.mono (by omega))
          have H3 := blk_below H2 hb3
          clear hb3 hbX H2 hA2
          have hlt3 := blk_lt H3
          go_wp2_with fail
          refine (FO.out _).mono ?_
          rintro e4 w4 ⟨rfl, hb4⟩
          have hbZ := hbY.trans (hb4.mono (by omega))
          have H4 := blk_below H3 hb4
          clear hb4 hbY H3
          have y6 : w4.cell? ⟨w.heap.size, 6, none⟩ = some (.int .i64 fo) := blk_cell H4 6 _ rfl
          have hlt4 := blk_lt H4
          clear H4
          go_wp2_with (first | (go_at_call 13; go_in) | (go_at_call 10; refine (WK.out _).mono ?_; rintro e7 w7 ⟨rfl, hb7⟩; have hz7 := hb7.size; (try simp at hz7)))
          go_ret
          exact ⟨rfl, hbZ.trans (((Below.refl _ _).alloc (by omega) _).trans (hb7.mono (by simp; omega)))⟩
        · obtain ⟨herr, hv, hoh⟩ := hlo (by omega)
          have hfn : frB (1 - fs) o hi 0 = true := by
            have := frB_ok hfo2
            exact frB_mk (by omega) (by omega) (by omega) (by omega) (by omega)
          obtain ⟨v1, v2, v3, v4, v5⟩ := frV_fw hfn
          rw [hv] at FO
          rw [v2, v3, v4, v5] at FO
          have FO := Lib.hid FO
          have hw3 : IntKind.i64.wrap (fo + (o - fo)) = o := by rw [IntWalk.i64_in _ (by have := frB_ok hfo2; omega)]; omega
          subst hsm
          unfold accV at HXX
          go_wp2_with fail
          refine HXX.out.mono ?_
          rintro e1 w1 ⟨rfl, hO1, la1, hM1⟩
          obtain ⟨nx1, mb1, _⟩ := hM1.mb
          rw [hpl, herr] at mb1
          have hb1 : Below w.heap.size wr w1 := hO1.below (by omega) fun k hk => by have := HDD.out k hk; omega
          have H1 := blk_below' HH.out hO1 (fun hk => by have := HDD.out _ hk; omega)
          have hA1 := HArr.out.only hO1 hDpa hDb
          clear hM1 hO1 HXX
          have hlt1 := blk_lt H1
          go_wp2_with fail
          refine (wOut_calls p P a c nx1 la1 true 0 (fun e => by cases e) _ (blk_alloc mb1 _)).mono ?_
          rintro e2 w2 ⟨rfl, hb2⟩
          have hbX : Below w.heap.size w w2 := (HB.out.trans hb1).trans (((Below.refl _ _).alloc (by omega) _).trans (hb2.mono (by simp; omega)))
          have H2 := blk_below (blk_alloc H1 _) hb2
          have hA2 := (hA1.alloc _).below hb2
          clear hb2 mb1 H1 hA1 hb1
          have hlt2 := blk_lt H2
          go_wp2_with fail
          refine (LD.out _ hA2).mono ?_
          rintro e3 w3 ⟨rfl, hb3⟩
          have hbY := hbX.trans (hb3.mono (by omega))
          have H3 := blk_below H2 hb3
          clear hb3 hbX H2 hA2
          have hlt3 := blk_lt H3
          go_wp2_with fail
          refine (FO.out _).mono ?_
          rintro e4 w4 ⟨rfl, hb4⟩
          have hbZ := hbY.trans (hb4.mono (by omega))
          have H4 := blk_below H3 hb4
          clear hb4 hbY H3
          have y6 : w4.cell? ⟨w.heap.size, 6, none⟩ = some (.int .i64 fo) := blk_cell H4 6 _ rfl
          have hlt4 := blk_lt H4
          clear H4
          go_wp2_with (first | (go_at_call 13; go_in) | (go_at_call 10; refine (WK.out _).mono ?_; rintro e7 w7 ⟨rfl, hb7⟩; have hz7 := hb7.size; (try simp at hz7)))
          go_ret
          exact ⟨rfl, hbZ.trans (((Below.refl _ _).alloc (by omega) _).trans (hb7.mono (by simp; omega)))⟩
      | true =>
        subst hsm
        rw [his] at hX
        have hac := hacc his
        obtain ⟨hl1v, hCI2, hmu2⟩ := st2 his (n : Int) cs
        clear st1 st2
        have hcdn : (if s'.pl = 6 then lm' else lm' ++ [x]).length ≤ n + 1 := by
          split
          · omega
          · rw [List.length_append, List.length_singleton]; omega
        rw [hfs'.out, hhi'.out] at hCI2
        rw [hfs'.out] at hl1v hCfr
        have hl1 : 1 < l'.length := by have := hP.t1; have := hP.s32; omega
        have hfin := clms_le (hi := hi) (n := (n : Int)) cs o hCfr
        have hl2r : ∀ y ∈ l'.set 1 (frV fs fl fh (clms hi fl fh n o cs)), 0 ≤ y ∧ y < 18446744073709551616 := rng_set hAr.rng 1 (frV_range hfin.2.1)
        have hdr := cDo_rng hac hl2r
        have hDoc := fun W hW => HDo.out (bb + 1) bb (l'.set 1 (frV fs fl fh (clms hi fl fh n o cs))) (cNext P s' x).k (cNext P s' x).a (cNext P s' x).o (cNext P s' x).n (by have := hac.at0; omega) (by rw [List.length_set]; have := hac.at1; omega) (by
          rcases hac.kind with ⟨h1, h2, h3⟩ | ⟨h1, h2, h3⟩ | ⟨h1, _, _, h2, h3⟩
          · exact .inl ⟨h1, h2, h3⟩
          · exact .inr (.inl ⟨h1, h2, by omega, by omega⟩)
          · exact .inr (.inr ⟨h1, h2, h3⟩)) W hW
        generalize cNext P s' x = r at hX her hacc hCI2 hmu2 hdr hDoc hac
        unfold accV at hX hDoc
        obtain ⟨d1, d2⟩ : ∃ d, acDo (l'.set 1 (frV fs fl fh (clms hi fl fh n o cs))) r.k r.a r.o r.n = d := ⟨_, rfl⟩
        rw [d2] at hCI2 hdr hDoc
        obtain ⟨y, l2⟩ := d1
        dsimp only at hCI2 hdr hDoc
        have hdr2 := hdr.2
        have hbr : Below w.heap.size w wr := hb010.trans (hO.below hb010.size fun k hk => by omega)
        have hbrz := hbr.size
        have hwd : IntKind.i64.wrap (1 - fs) = 1 - fs := IntWalk.i64_in _ (by omega)
        have HXX := Lib.hid hX
        have HDC := Lib.hid hDoc
        have HArr := Lib.hid hAr
        have HDD := Lib.hid hDD
        have HOO := Lib.hid hO
        have HB := Lib.hid hbr
        have HCI := Lib.hid hCI2
        have HL1 := Lib.hid hl1v
        have HFR := Lib.hid hCfr
        clear hX hAr hM his hacc hO hCI hDD hbr hDoc d2 hdr hl2r hac hCI2 hl1v hCfr hfin her
        go_wp2_with fail
        refine HXX.out.mono ?_
        rintro e1 w1 ⟨rfl, hO1, la1, hM1⟩
        have hz1 := hO1.size
        have hwA : ∃ WA, w1.alloc (.cells #[.int .i64 r.k, .int .i64 r.a, .int .u64 r.o, .int .u64 r.n] 44) = WA := ⟨_, rfl⟩
        obtain ⟨WA, hwA⟩ := hwA
        have hbA : Below w1.heap.size w1 WA := by rw [← hwA]; exact (Below.refl _ _).alloc (Nat.le_refl _) _
        have hzA : WA.heap.size = w1.heap.size + 1 := by rw [← hwA]; simp
        have hxA : WA.heap[w1.heap.size]? = some (.cells #[.int .i64 r.k, .int .i64 r.a, .int .u64 r.o, .int .u64 r.n] 44 (0, 0)) := by rw [← hwA]; exact (MapKept.heap_alloc w1 _).1
        have hAA : Ar WA (bb + 1) bb l' := (HArr.out.only hO1 hDpa hDb).below hbA
        have hMA := hM1.below hbA
        have hOA : Only (fun k => w8.heap.size ≤ k ∨ k = bb) w10 WA := (HOO.out.trans2 hO1 fun k hk hk' => .inl (HDD.out k hk')).then hbA
        have hbWA : Below w.heap.size w WA := (HB.out.trans (hO1.below (by omega) fun k hk => by have := HDD.out k hk; omega)).trans (hbA.mono (by omega))
        have HAA := Lib.hid hAA
        have HMA := Lib.hid hMA
        have HOA := Lib.hid hOA
        have HBA := Lib.hid hbWA
        have HXA := Lib.hid hxA
        clear hM1 hO1 HXX hbA hAA hMA hOA hbWA hxA HArr HOO HB
        go_wp2_with fail
        clear hwA
        go_loopw [15, 19] (fun sv iv wr2 => ∃ (k : Nat), k ≤ cs.length ∧ iv = .int .i64 k ∧ sv = .int .i64 (clms hi fl fh n o (cs.take k) - fo) ∧ Ar wr2 (bb + 1) bb (l'.set 1 (frV fs fl fh (clms hi fl fh n o (cs.take k)))) ∧ Only (fun j => j = bb) WA wr2) (fun _ iv _ => cs.length - (intOf iv).toNat)
        case atStart => exact ⟨0, Nat.zero_le _, rfl, rfl, by rw [List.take_zero]; show Ar WA (bb + 1) bb (l'.set 1 (frV fs fl fh o)); rw [set_same1 HL1.out hl1]; exact HAA.out, Only.refl _ _⟩
        case round =>
          obtain ⟨k, hk, rfl, rfl, hArk, hOk⟩ := hrel
          have hz2r := hOk.size
          by_cases hlt : k < cs.length
          · obtain ⟨cb, co, rfl, hcb, hc1, hc2⟩ := HCl.out.at k hlt
            have hokc := clms_le (hi := hi) (n := (n : Int)) (cs.take k) o HFR.out
            have hsn : clms hi fl fh n o (cs.take (k + 1)) = clm hi fl fh n (clms hi fl fh n o (cs.take k)) cs[k] := by rw [List.take_succ_eq_append_getElem hlt, clms_snoc]
            have hbk : Below w.heap.size w wr := HBA.out.trans (hOk.below (by have := HBA.out.size; omega) fun j hj => by omega)
            replace hc1 := (hbk.cell (p := ⟨cb, co + k * 2, none⟩) hcb).trans hc1
            replace hc2 := (hbk.cell (p := ⟨cb, co + k * 2 + 1, none⟩) hcb).trans hc2
            have hbkz := hbk.size
            generalize cs[k] = cz at hc1 hc2 hsn
            obtain ⟨c1, c2⟩ := cz
            dsimp only at hc1 hc2
            generalize clms hi fl fh n o (cs.take k) = oc at hArk hokc hsn ⊢
            obtain ⟨hok1, hokf, hok3, hok4⟩ := hokc
            have LDk := fun W h => arLoad_calls (bb + 1) bb (l'.set 1 (frV fs fl fh oc)) 1 (by rw [List.length_set]; exact hl1) W h
            simp only [List.getElem_set_self] at LDk
            have FOk := fun W => rfOfFront_calls (frV fs fl fh oc) (frV_range hokf).1 (frV_range hokf).2 W
            obtain ⟨v1, v2, v3, v4, v5⟩ := frV_fw hokf
            rw [v2, v3, v4, v5] at FOk
            have hfb := frB_ok hokf
            have hws : IntKind.i64.wrap (hi - oc) = hi - oc := IntWalk.i64_in _ (by omega)
            have hkl : (k : Int) < (cs.length : Int) := by omega
            have hk0 : (0 : Int) ≤ (k : Int) := by omega
            have LDk := Lib.hid LDk
            have FOk := Lib.hid FOk
            have HAk := Lib.hid hArk
            have HOk := Lib.hid hOk
            clear hArk hOk hbk v1 v2 v3 v4 v5
            go_wp2_with fail
            refine (LDk.out _ HAk.out).mono ?_
            rintro e4 w4 ⟨rfl, hb4⟩
            have hA4 := HAk.out.below hb4
            have hO4 := HOk.out.then hb4
            have hz4 := hb4.size
            replace hc1 := (hb4.cell (p := ⟨cb, co + k * 2, none⟩) (by show cb < _; omega)).trans hc1
            replace hc2 := (hb4.cell (p := ⟨cb, co + k * 2 + 1, none⟩) (by show cb < _; omega)).trans hc2
            clear hb4
            go_wp2_with fail
            refine (FOk.out _).mono ?_
            rintro e5 w5 ⟨rfl, hb5⟩
            have hwG : ∃ WG, w5.alloc (.cells #[.int .i64 fs, .int .i64 fl, .int .i64 fh, .int .i64 oc] 26) = WG := ⟨_, rfl⟩
            obtain ⟨WG, hwG⟩ := hwG
            have hbG : Below w5.heap.size w5 WG := by rw [← hwG]; exact (Below.refl _ _).alloc (Nat.le_refl _) _
            have hzG : WG.heap.size = w5.heap.size + 1 := by rw [← hwG]; simp
            have hz5 := hb5.size
            have hxG : WG.heap[w5.heap.size]? = some (.cells #[.int .i64 fs, .int .i64 fl, .int .i64 fh, .int .i64 oc] 26 (0, 0)) := by rw [← hwG]; exact (MapKept.heap_alloc w5 _).1
            have hAG := (hA4.below hb5).below hbG
            have hOG := (hO4.then hb5).then hbG
            replace hc1 := (hbG.cell (p := ⟨cb, co + k * 2, none⟩) (by show cb < _; omega)).trans ((hb5.cell (p := ⟨cb, co + k * 2, none⟩) (by show cb < _; omega)).trans hc1)
            replace hc2 := (hbG.cell (p := ⟨cb, co + k * 2 + 1, none⟩) (by show cb < _; omega)).trans ((hb5.cell (p := ⟨cb, co + k * 2 + 1, none⟩) (by show cb < _; omega)).trans hc2)
            have g0 : WG.cell? ⟨w5.heap.size, 0, none⟩ = some (.int .i64 fs) := blk_cell hxG 0 _ rfl
            have g1 : WG.cell? ⟨w5.heap.size, 1, none⟩ = some (.int .i64 fl) := blk_cell hxG 1 _ rfl
            have g2 : WG.cell? ⟨w5.heap.size, 2, none⟩ = some (.int .i64 fh) := blk_cell hxG 2 _ rfl
            have g3 : WG.cell? ⟨w5.heap.size, 3, none⟩ = some (.int .i64 oc) := blk_cell hxG 3 _ rfl
            have HAG := Lib.hid hAG
            have HOG := Lib.hid hOG
            have hcG : cb < WG.heap.size := by omega
            clear hA4 hO4 hb5 hbG hxG hAG hOG
            go_wp2_with fail
            clear hwG
            by_cases hcn : c1 = (n : Int)
            · subst hcn
              have hcn1 : ((n : Int) != (n : Int)) = false := by simp
              by_cases hc3 : hi - oc < c2
              · have hse : clms hi fl fh n o (cs.take (k + 1)) = oc := by rw [hsn]; unfold clm; rw [if_neg (by dsimp only; omega)]
                go_quiet (fail)
                rename_i nq
                have hbD : Below WG.heap.size WG (WG.drewN nq) := Below.drewN' (Below.refl _ _) _
                have HAD := Lib.hid (HAG.out.drewN nq)
                have HOD := Lib.hid (HOG.out.drewN nq)
                go_wp2
                go_roundw
                case rel => exact ⟨k + 1, Nat.succ_le_of_lt hlt, by go_num, by rw [hse], by rw [hse]; exact HAD.out, HOD.out⟩
                case measure => simp [intOf]; omega
              · go_quiet (fail)
                rename_i nq
                have hbD : Below WG.heap.size WG (WG.drewN nq) := Below.drewN' (Below.refl _ _) _
                have HAD := Lib.hid (HAG.out.drewN nq)
                have HOD := Lib.hid (HOG.out.drewN nq)
                replace g0 := (hbD.cell (p := ⟨w5.heap.size, 0, none⟩) (by show w5.heap.size < _; omega)).trans g0
                replace g1 := (hbD.cell (p := ⟨w5.heap.size, 1, none⟩) (by show w5.heap.size < _; omega)).trans g1
                replace g2 := (hbD.cell (p := ⟨w5.heap.size, 2, none⟩) (by show w5.heap.size < _; omega)).trans g2
                replace g3 := (hbD.cell (p := ⟨w5.heap.size, 3, none⟩) (by show w5.heap.size < _; omega)).trans g3
                replace hc1 := (hbD.cell (p := ⟨cb, co + k * 2, none⟩) (by show cb < _; omega)).trans hc1
                replace hc2 := (hbD.cell (p := ⟨cb, co + k * 2 + 1, none⟩) (by show cb < _; omega)).trans hc2
                have hzD := hbD.size
                generalize WG.drewN nq = WD at HAD HOD g0 g1 g2 g3 hc1 hc2 hzD ⊢
                clear hbD HAG HOG hc1
                go_wp2_with fail
                have hwdl : w5.heap.size < WD.heap.size ∧ cb < WD.heap.size := ⟨by omega, by omega⟩
                have keepS : ∀ A B : World, Below WD.heap.size A B → A.cell? ⟨w5.heap.size, 0, none⟩ = some (.int .i64 fs) ∧ A.cell? ⟨w5.heap.size, 1, none⟩ = some (.int .i64 fl) ∧ A.cell? ⟨w5.heap.size, 2, none⟩ = some (.int .i64 fh) ∧ A.cell? ⟨w5.heap.size, 3, none⟩ = some (.int .i64 oc) ∧ A.cell? ⟨cb, co + k * 2 + 1, none⟩ = some (.int .i64 c2) ∧ WD.heap.size ≤ A.heap.size → B.cell? ⟨w5.heap.size, 0, none⟩ = some (.int .i64 fs) ∧ B.cell? ⟨w5.heap.size, 1, none⟩ = some (.int .i64 fl) ∧ B.cell? ⟨w5.heap.size, 2, none⟩ = some (.int .i64 fh) ∧ B.cell? ⟨w5.heap.size, 3, none⟩ = some (.int .i64 oc) ∧ B.cell? ⟨cb, co + k * 2 + 1, none⟩ = some (.int .i64 c2) ∧ WD.heap.size ≤ B.heap.size := fun A B hb hc => ⟨(hb.cell (p := ⟨w5.heap.size, 0, none⟩) hwdl.1).trans hc.1, (hb.cell (p := ⟨w5.heap.size, 1, none⟩) hwdl.1).trans hc.2.1, (hb.cell (p := ⟨w5.heap.size, 2, none⟩) hwdl.1).trans hc.2.2.1, (hb.cell (p := ⟨w5.heap.size, 3, none⟩) hwdl.1).trans hc.2.2.2.1, (hb.cell (p := ⟨cb, co + k * 2 + 1, none⟩) hwdl.2).trans hc.2.2.2.2.1, Nat.le_trans hc.2.2.2.2.2 hb.size⟩
                have keepC := Lib.hid (show ∀ A B : World, Below A.heap.size A B → A.cell? ⟨w5.heap.size, 0, none⟩ = some (.int .i64 fs) ∧ A.cell? ⟨w5.heap.size, 1, none⟩ = some (.int .i64 fl) ∧ A.cell? ⟨w5.heap.size, 2, none⟩ = some (.int .i64 fh) ∧ A.cell? ⟨w5.heap.size, 3, none⟩ = some (.int .i64 oc) ∧ A.cell? ⟨cb, co + k * 2 + 1, none⟩ = some (.int .i64 c2) ∧ WD.heap.size ≤ A.heap.size → B.cell? ⟨w5.heap.size, 0, none⟩ = some (.int .i64 fs) ∧ B.cell? ⟨w5.heap.size, 1, none⟩ = some (.int .i64 fl) ∧ B.cell? ⟨w5.heap.size, 2, none⟩ = some (.int .i64 fh) ∧ B.cell? ⟨w5.heap.size, 3, none⟩ = some (.int .i64 oc) ∧ B.cell? ⟨cb, co + k * 2 + 1, none⟩ = some (.int .i64 c2) ∧ WD.heap.size ≤ B.heap.size from fun A B hb hc => keepS A B (hb.mono hc.2.2.2.2.2) hc)
                have keepA := Lib.hid (show ∀ (A : World) (x0 : Obj), A.cell? ⟨w5.heap.size, 0, none⟩ = some (.int .i64 fs) ∧ A.cell? ⟨w5.heap.size, 1, none⟩ = some (.int .i64 fl) ∧ A.cell? ⟨w5.heap.size, 2, none⟩ = some (.int .i64 fh) ∧ A.cell? ⟨w5.heap.size, 3, none⟩ = some (.int .i64 oc) ∧ A.cell? ⟨cb, co + k * 2 + 1, none⟩ = some (.int .i64 c2) ∧ WD.heap.size ≤ A.heap.size → (A.alloc x0).cell? ⟨w5.heap.size, 0, none⟩ = some (.int .i64 fs) ∧ (A.alloc x0).cell? ⟨w5.heap.size, 1, none⟩ = some (.int .i64 fl) ∧ (A.alloc x0).cell? ⟨w5.heap.size, 2, none⟩ = some (.int .i64 fh) ∧ (A.alloc x0).cell? ⟨w5.heap.size, 3, none⟩ = some (.int .i64 oc) ∧ (A.alloc x0).cell? ⟨cb, co + k * 2 + 1, none⟩ = some (.int .i64 c2) ∧ WD.heap.size ≤ (A.alloc x0).heap.size from fun A x0 hc => keepS A _ ((Below.refl _ _).alloc hc.2.2.2.2.2 _) hc)
                have keepD := Lib.hid (show WD.drew.cell? ⟨w5.heap.size, 0, none⟩ = some (.int .i64 fs) ∧ WD.drew.cell? ⟨w5.heap.size, 1, none⟩ = some (.int .i64 fl) ∧ WD.drew.cell? ⟨w5.heap.size, 2, none⟩ = some (.int .i64 fh) ∧ WD.drew.cell? ⟨w5.heap.size, 3, none⟩ = some (.int .i64 oc) ∧ WD.drew.cell? ⟨cb, co + k * 2 + 1, none⟩ = some (.int .i64 c2) ∧ WD.heap.size ≤ WD.drew.heap.size from keepS WD _ (Below.refl _ _).drew ⟨g0, g1, g2, g3, hc2, Nat.le_refl _⟩)
                have keepE := Lib.hid (show ∀ (x0 : Obj), (WD.alloc x0).drew.cell? ⟨w5.heap.size, 0, none⟩ = some (.int .i64 fs) ∧ (WD.alloc x0).drew.cell? ⟨w5.heap.size, 1, none⟩ = some (.int .i64 fl) ∧ (WD.alloc x0).drew.cell? ⟨w5.heap.size, 2, none⟩ = some (.int .i64 fh) ∧ (WD.alloc x0).drew.cell? ⟨w5.heap.size, 3, none⟩ = some (.int .i64 oc) ∧ (WD.alloc x0).drew.cell? ⟨cb, co + k * 2 + 1, none⟩ = some (.int .i64 c2) ∧ WD.heap.size ≤ (WD.alloc x0).drew.heap.size from fun x0 => keepS WD _ ((Below.refl _ _).alloc (Nat.le_refl _) _).drew ⟨g0, g1, g2, g3, hc2, Nat.le_refl _⟩)
                have keepT := Lib.hid (show ∀ (A : World) (d : Nat) (v0 v1 v2 v3 : Value), WD.heap.size ≤ d → A.cell? ⟨w5.heap.size, 0, none⟩ = some (.int .i64 fs) ∧ A.cell? ⟨w5.heap.size, 1, none⟩ = some (.int .i64 fl) ∧ A.cell? ⟨w5.heap.size, 2, none⟩ = some (.int .i64 fh) ∧ A.cell? ⟨w5.heap.size, 3, none⟩ = some (.int .i64 oc) ∧ A.cell? ⟨cb, co + k * 2 + 1, none⟩ = some (.int .i64 c2) ∧ WD.heap.size ≤ A.heap.size → ((((A.setCell ⟨d, 0, none⟩ v0).setCell ⟨d, 1, none⟩ v1).setCell ⟨d, 2, none⟩ v2).setCell ⟨d, 3, none⟩ v3).cell? ⟨w5.heap.size, 0, none⟩ = some (.int .i64 fs) ∧ ((((A.setCell ⟨d, 0, none⟩ v0).setCell ⟨d, 1, none⟩ v1).setCell ⟨d, 2, none⟩ v2).setCell ⟨d, 3, none⟩ v3).cell? ⟨w5.heap.size, 1, none⟩ = some (.int .i64 fl) ∧ ((((A.setCell ⟨d, 0, none⟩ v0).setCell ⟨d, 1, none⟩ v1).setCell ⟨d, 2, none⟩ v2).setCell ⟨d, 3, none⟩ v3).cell? ⟨w5.heap.size, 2, none⟩ = some (.int .i64 fh) ∧ ((((A.setCell ⟨d, 0, none⟩ v0).setCell ⟨d, 1, none⟩ v1).setCell ⟨d, 2, none⟩ v2).setCell ⟨d, 3, none⟩ v3).cell? ⟨w5.heap.size, 3, none⟩ = some (.int .i64 oc) ∧ ((((A.setCell ⟨d, 0, none⟩ v0).setCell ⟨d, 1, none⟩ v1).setCell ⟨d, 2, none⟩ v2).setCell ⟨d, 3, none⟩ v3).cell? ⟨cb, co + k * 2 + 1, none⟩ = some (.int .i64 c2) ∧ WD.heap.size ≤ ((((A.setCell ⟨d, 0, none⟩ v0).setCell ⟨d, 1, none⟩ v1).setCell ⟨d, 2, none⟩ v2).setCell ⟨d, 3, none⟩ v3).heap.size from fun A d v0 v1 v2 v3 hd hc => keepS A _ ((((Below.refl _ _).setCell hd _).setCell hd _ |>.setCell hd _).setCell hd _) hc)
                have keepM := Lib.hid (show ∀ (A : World) (x0 x1 : Obj), WD.heap.size ≤ A.heap.size → (A.alloc x0).cell? ⟨w5.heap.size, 0, none⟩ = some (.int .i64 fs) ∧ (A.alloc x0).cell? ⟨w5.heap.size, 1, none⟩ = some (.int .i64 fl) ∧ (A.alloc x0).cell? ⟨w5.heap.size, 2, none⟩ = some (.int .i64 fh) ∧ (A.alloc x0).cell? ⟨w5.heap.size, 3, none⟩ = some (.int .i64 oc) ∧ (A.alloc x0).cell? ⟨cb, co + k * 2 + 1, none⟩ = some (.int .i64 c2) ∧ WD.heap.size ≤ (A.alloc x0).heap.size → (A.alloc x1).cell? ⟨w5.heap.size, 0, none⟩ = some (.int .i64 fs) ∧ (A.alloc x1).cell? ⟨w5.heap.size, 1, none⟩ = some (.int .i64 fl) ∧ (A.alloc x1).cell? ⟨w5.heap.size, 2, none⟩ = some (.int .i64 fh) ∧ (A.alloc x1).cell? ⟨w5.heap.size, 3, none⟩ = some (.int .i64 oc) ∧ (A.alloc x1).cell? ⟨cb, co + k * 2 + 1, none⟩ = some (.int .i64 c2) ∧ WD.heap.size ≤ (A.alloc x1).heap.size from fun A x0 x1 hle hc => keepS (A.alloc x0) _ ⟨rfl, rfl, rfl, by simp, fun k hk => by rw [Below.heap_alloc _ _ _ (by omega), Below.heap_alloc _ _ _ (by omega)]⟩ hc)
                clear keepS
                cases hgd : clmB fl fh oc c2 with
                | false =>
                  have hse : clms hi fl fh n o (cs.take (k + 1)) = oc := by
                    rw [hsn]; unfold clm
                    rw [if_neg]
                    rintro ⟨_, _, ha, hb⟩
                    unfold clmB at hgd
                    rw [decide_eq_true ha, decide_eq_true hb] at hgd
                    cases hgd
                  have CL := fun W => rfClaim_no fs fl fh oc c2 hokf hgd W
                  have CL := Lib.hid CL
                  refine Code.wp_mono (Q := fun e ac W => e = Exit.normal ∧ ∃ (X7 : Nat) (E : Int), ac = (?frameOfC0 : Nat → Int → Act) X7 E ∧ (W.heap[X7]? = some (.cells #[.int .i64 0, .int .i64 0, .int .i64 0, .int .i64 0] 26 (0, 0)) ∧ WD.heap.size ≤ X7 ∧ Below WD.heap.size WD W ∧ E ≠ 0)) ?impC0 ?regC0
                  case regC0 =>
                    go_region_held3 (fun A => A.cell? ⟨w5.heap.size, 0, none⟩ = some (.int .i64 fs) ∧ A.cell? ⟨w5.heap.size, 1, none⟩ = some (.int .i64 fl) ∧ A.cell? ⟨w5.heap.size, 2, none⟩ = some (.int .i64 fh) ∧ A.cell? ⟨w5.heap.size, 3, none⟩ = some (.int .i64 oc) ∧ A.cell? ⟨cb, co + k * 2 + 1, none⟩ = some (.int .i64 c2) ∧ WD.heap.size ≤ A.heap.size) (first | (with_reducible exact keepD.out) | (with_reducible exact keepE.out _) | (with_reducible refine keepT.out _ _ _ _ _ _ ?_ ?_; (first | omega | (simp; omega)); assumption) | (with_reducible refine keepC.out _ _ hb6 ?_; assumption) | (with_reducible refine keepM.out _ _ _ ?_ (by assumption); first | omega | (simp; omega)) | (with_reducible exact keepA.out _ _ (by assumption)) | exact keepD.out) (first | (go_at_call 17; refine (CL.out _).mono ?_; rintro e6 w6 ⟨⟨E, hE, rfl⟩, hb6⟩; have hz6 := hb6.size; (try simp at hz6); (try (have zc := fun j => hb6.cell (p := ⟨WD.heap.size, j, none⟩) (by simp); have zf := fun j => hb6.frozen (p := ⟨WD.heap.size, j, none⟩) (by simp); have zq0 := zc 0; have zq1 := zc 1; have zq2 := zc 2; have zq3 := zc 3; have zf0 := zf 0; have zf1 := zf 1; have zf2 := zf 2; have zf3 := zf 3; simp [go_sem] at zq0 zq1 zq2 zq3 zf0 zf1 zf2 zf3; have zl : WD.heap.size < w6.heap.size := (by omega); clear zc zf))))
                    · obtain ⟨X, hX1⟩ : ∃ X, w6.heap.size = X := ⟨_, rfl⟩
                      have hB4 : Below WD.heap.size WD (w6.alloc (.cells #[.int .i64 0, .int .i64 0, .int .i64 0, .int .i64 0] 26)) := ((Below.refl _ _).drew.trans hb6).alloc hz6 _
                      refine ⟨rfl, X, E, ?_, ⟨by rw [← hX1]; exact (MapKept.heap_alloc w6 _).1, by omega, hB4, hE⟩⟩
                      rw [hX1]
                    · obtain ⟨X, hX1⟩ : ∃ X, WD.heap.size = X := ⟨_, rfl⟩
                      have hB3 : Below WD.heap.size WD w6 := ((Below.refl _ _).alloc (Nat.le_refl _) _).drew.trans (hb6.mono (by simp))
                      have hB4 := (((hB3.setCell (p := ⟨WD.heap.size, 0, none⟩) (Nat.le_refl _) (.int .i64 0)).setCell (p := ⟨WD.heap.size, 1, none⟩) (Nat.le_refl _) (.int .i64 0)).setCell (p := ⟨WD.heap.size, 2, none⟩) (Nat.le_refl _) (.int .i64 0)).setCell (p := ⟨WD.heap.size, 3, none⟩) (Nat.le_refl _) (.int .i64 0)
                      refine ⟨rfl, X, E, ?_, ⟨by rw [← hX1]; exact blk_eq (blk_set (blk_set (blk_set (blk_set (blk_below (blk_drew (MapKept.heap_alloc WD _).1) hb6) 0 _) 1 _) 2 _) 3 _) rfl, by omega, hB4, hE⟩⟩
                      rw [hX1]
                  case impC0 =>
                    rintro e ac W7 ⟨rfl, X7, E, rfl, G7, hX7, hb7, hE⟩
                    have hE1 : (E == 0) = false := beq_eq_false_iff_ne.2 hE
                    have HA7 := Lib.hid (HAD.out.below hb7)
                    have HO7 := Lib.hid (HOD.out.then hb7)
                    clear hb7 G7
                    go_wp2
                    go_roundw
                    case rel => exact ⟨k + 1, Nat.succ_le_of_lt hlt, by go_num, by rw [hse], by rw [hse]; exact HA7.out, HO7.out⟩
                    case measure => simp [intOf]; omega
                | true =>
                  have hgd2 : 1 ≤ c2 ∧ fl + oc + c2 ≤ fh := by
                    unfold clmB at hgd
                    rw [Bool.and_eq_true, decide_eq_true_eq, decide_eq_true_eq] at hgd
                    exact hgd
                  have hse : clms hi fl fh n o (cs.take (k + 1)) = oc + c2 := by
                    rw [hsn]; unfold clm
                    rw [if_pos ⟨rfl, by dsimp only; omega, hgd2.1, hgd2.2⟩]
                  have CL := fun W => rfClaim_ok fs fl fh oc c2 hokf hgd W
                  have CL := Lib.hid CL
                  refine Code.wp_mono (Q := fun e ac W => e = Exit.normal ∧ ∃ (X7 : Nat), ac = (?frameOfC1 : Nat → Act) X7 ∧ (W.heap[X7]? = some (.cells #[.int .i64 fs, .int .i64 fl, .int .i64 fh, .int .i64 (oc + c2)] 26 (0, 0)) ∧ WD.heap.size ≤ X7 ∧ Below WD.heap.size WD W)) ?impC1 ?regC1
                  case regC1 =>
                    go_region_held3 (fun A => A.cell? ⟨w5.heap.size, 0, none⟩ = some (.int .i64 fs) ∧ A.cell? ⟨w5.heap.size, 1, none⟩ = some (.int .i64 fl) ∧ A.cell? ⟨w5.heap.size, 2, none⟩ = some (.int .i64 fh) ∧ A.cell? ⟨w5.heap.size, 3, none⟩ = some (.int .i64 oc) ∧ A.cell? ⟨cb, co + k * 2 + 1, none⟩ = some (.int .i64 c2) ∧ WD.heap.size ≤ A.heap.size) (first | (with_reducible exact keepD.out) | (with_reducible exact keepE.out _) | (with_reducible refine keepT.out _ _ _ _ _ _ ?_ ?_; (first | omega | (simp; omega)); assumption) | (with_reducible refine keepC.out _ _ hb6 ?_; assumption) | (with_reducible refine keepM.out _ _ _ ?_ (by assumption); first | omega | (simp; omega)) | (with_reducible exact keepA.out _ _ (by assumption)) | exact keepD.out) (first | (go_at_call 17; refine (CL.out _).mono ?_; rintro e6 w6 ⟨rfl, hb6⟩; have hz6 := hb6.size; (try simp at hz6); (try (have zc := fun j => hb6.cell (p := ⟨WD.heap.size, j, none⟩) (by simp); have zf := fun j => hb6.frozen (p := ⟨WD.heap.size, j, none⟩) (by simp); have zq0 := zc 0; have zq1 := zc 1; have zq2 := zc 2; have zq3 := zc 3; have zf0 := zf 0; have zf1 := zf 1; have zf2 := zf 2; have zf3 := zf 3; simp [go_sem] at zq0 zq1 zq2 zq3 zf0 zf1 zf2 zf3; have zl : WD.heap.size < w6.heap.size := (by omega); clear zc zf))))
                    · obtain ⟨X, hX1⟩ : ∃ X, w6.heap.size = X := ⟨_, rfl⟩
                      have hB4 : Below WD.heap.size WD (w6.alloc (.cells #[.int .i64 fs, .int .i64 fl, .int .i64 fh, .int .i64 (oc + c2)] 26)) := ((Below.refl _ _).drew.trans hb6).alloc hz6 _
                      refine ⟨rfl, X, ?_, ⟨by rw [← hX1]; exact (MapKept.heap_alloc w6 _).1, by omega, hB4⟩⟩
                      rw [hX1]
                    · obtain ⟨X, hX1⟩ : ∃ X, WD.heap.size = X := ⟨_, rfl⟩
                      have hB3 : Below WD.heap.size WD w6 := ((Below.refl _ _).alloc (Nat.le_refl _) _).drew.trans (hb6.mono (by simp))
                      have hB4 := (((hB3.setCell (p := ⟨WD.heap.size, 0, none⟩) (Nat.le_refl _) (.int .i64 fs)).setCell (p := ⟨WD.heap.size, 1, none⟩) (Nat.le_refl _) (.int .i64 fl)).setCell (p := ⟨WD.heap.size, 2, none⟩) (Nat.le_refl _) (.int .i64 fh)).setCell (p := ⟨WD.heap.size, 3, none⟩) (Nat.le_refl _) (.int .i64 (oc + c2))
                      refine ⟨rfl, X, ?_, ⟨by rw [← hX1]; exact blk_eq (blk_set (blk_set (blk_set (blk_set (blk_below (blk_drew (MapKept.heap_alloc WD _).1) hb6) 0 _) 1 _) 2 _) 3 _) rfl, by omega, hB4⟩⟩
                      rw [hX1]
                  case impC1 =>
                    rintro e ac W7 ⟨rfl, X7, rfl, G7, hX7, hb7⟩
                    have hfn : frB fs fl fh (oc + c2) = true := frB_mk hfb.1 hfb.2.1 hfb.2.2.1 (by omega) (by omega)
                    have FRk := fun W => rfFrontW_calls fs fl fh (oc + c2) W
                    unfold frW frE at FRk
                    rw [if_pos hfn, if_pos hfn] at FRk
                    have hfr := frV_range hfn
                    have FRk := Lib.hid FRk
                    have k0 : W7.cell? ⟨X7, 0, none⟩ = some (.int .i64 fs) := blk_cell G7 0 _ rfl
                    have k1 : W7.cell? ⟨X7, 1, none⟩ = some (.int .i64 fl) := blk_cell G7 1 _ rfl
                    have k2 : W7.cell? ⟨X7, 2, none⟩ = some (.int .i64 fh) := blk_cell G7 2 _ rfl
                    have k3 : W7.cell? ⟨X7, 3, none⟩ = some (.int .i64 (oc + c2)) := blk_cell G7 3 _ rfl
                    have hA7 := HAD.out.below hb7
                    have hO7 := HOD.out.then hb7
                    have hO7' : Only (fun j => j = bb) WD W7 := Only.of hb7
                    have hw9 : IntKind.i64.wrap (oc - fo + c2) = oc + c2 - fo := by rw [IntWalk.i64_in _ (by omega)]; omega
                    clear hb7 G7
                    go_wp2_with fail
                    refine (FRk.out _).mono ?_
                    rintro e8 w10' ⟨rfl, hb8⟩
                    have hA8 := hA7.below hb8
                    have hO8 := hO7.then hb8
                    have hO8' := hO7'.then hb8
                    clear k0 k1 k2 k3 hA7 hO7 hO7' hb8
                    go_wp2_with fail
                    refine (arStore_calls (bb + 1) bb _ 1 (by rw [List.length_set]; exact hl1) _ _ hA8).mono ?_
                    rintro e9 w9 ⟨rfl, hb9⟩
                    have hA9 := (hA8.set 1 _ hfr).below (hb9.mono (by simp))
                    rw [List.set_set] at hA9
                    have hO9 : Only (fun j => j = bb) WA w9 := (hO8.setCell (p := ⟨bb, 1, none⟩) (.inl rfl) (.int .u64 (frV fs fl fh (oc + c2)))).then (hb9.mono (by simp))
                    have hO9' : Only (fun j => j = bb) WD w9 := (hO8'.setCell (p := ⟨bb, 1, none⟩) (.inl rfl) (.int .u64 (frV fs fl fh (oc + c2)))).then (hb9.mono (by simp))
                    replace hc2 := (hO9'.cell (p := ⟨cb, co + k * 2 + 1, none⟩) (by show cb < _; omega) (show ¬ cb = bb by omega)).trans hc2
                    have HA9 := Lib.hid hA9
                    have HO9 := Lib.hid hO9
                    clear hA9 hO9 hO9' hb9 hA8 hO8 hO8'
                    go_wp2
                    go_roundw
                    case rel => exact ⟨k + 1, Nat.succ_le_of_lt hlt, by go_num, by rw [hse], by rw [hse]; exact HA9.out, HO9.out⟩
                    case measure => simp [intOf]; omega
            · have hcn1 : (c1 != (n : Int)) = true := by simp [hcn]
              have hse : clms hi fl fh n o (cs.take (k + 1)) = oc := by rw [hsn]; unfold clm; rw [if_neg (by dsimp only; exact fun h => hcn h.1)]
              go_quiet (fail)
              rename_i nq
              have hbD : Below WG.heap.size WG (WG.drewN nq) := Below.drewN' (Below.refl _ _) _
              have HAD := Lib.hid (HAG.out.drewN nq)
              have HOD := Lib.hid (HOG.out.drewN nq)
              go_wp2
              go_roundw
              case rel => exact ⟨k + 1, Nat.succ_le_of_lt hlt, by go_num, by rw [hse], by rw [hse]; exact HAD.out, HOD.out⟩
              case measure => simp [intOf]; omega
          · obtain rfl : k = cs.length := by omega
            rw [List.take_length] at hArk ⊢
            have hxr := hOk.blk (show ¬ w1.heap.size = bb by omega) HXA.out
            have u0 : wr.cell? ⟨w1.heap.size, 0, none⟩ = some (.int .i64 r.k) := blk_cell hxr 0 _ rfl
            have u1 : wr.cell? ⟨w1.heap.size, 1, none⟩ = some (.int .i64 r.a) := blk_cell hxr 1 _ rfl
            have u2 : wr.cell? ⟨w1.heap.size, 2, none⟩ = some (.int .u64 r.o) := blk_cell hxr 2 _ rfl
            have u3 : wr.cell? ⟨w1.heap.size, 3, none⟩ = some (.int .u64 r.n) := blk_cell hxr 3 _ rfl
            have lxr := blk_lt hxr
            have hkl : ¬ (cs.length : Int) < (cs.length : Int) := by omega
            have HAk := Lib.hid hArk
            have HOk := Lib.hid hOk
            clear hArk hOk hxr
            go_wp2_with fail
            refine (HDC.out _ HAk.out).mono ?_
            rintro e2 w2 ⟨rfl, hO2, hA2⟩
            have hO3 := HOk.out.trans hO2
            have hM2 := HMA.out.only hO3 (fun k hk e => by
              subst e
              rcases hk.1 with h | h
              · exact hDb h
              · omega) (fun ad e => by have := hfar ad e; omega)
            have hO4 : Only (fun k => w8.heap.size ≤ k ∨ k = bb) w10 w2 := HOA.out.trans2 hO3 (fun k _ hk => .inr hk)
            have HM2 := Lib.hid hM2
            have HO4 := Lib.hid hO4
            have HA2 := Lib.hid hA2
            clear hM2 hO4 hA2 hO3 hO2
            go_wp2
            refine ⟨?_, ?measure⟩; (repeat apply Exists.intro); refine ⟨?rel, rfl⟩
            case rel => exact ⟨n + 1, _, r.st, y, l2, la1, _, _, _, rfl, rfl, by go_num, rfl, by omega, hdr2.1, hdr2.2, hcdn, HM2.out, HA2.out, HCI.out, fun k hk => by
              rcases hk.1 with h | h
              · exact HDD.out k h
              · have := HOA.out.size; omega, HO4.out⟩
            case measure => simp [intOf]; omega
end Go.Proofs.Ytafenndokmccoaa
