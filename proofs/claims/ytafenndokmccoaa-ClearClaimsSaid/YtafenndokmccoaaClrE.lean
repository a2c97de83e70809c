/- The layer 'wipe': a machine in memory; asked, made, told. -/
import Derived.Test.YtafenndokmccoaaClrD
namespace Go.Proofs.Ytafenndokmccoaa
open Go.RowKit
set_option linter.unusedVariables false
set_option linter.unusedSimpArgs false

/-- what comes of answers -/
def cRun (P : CPar) (l : List Int) : CSt := l.foldl (fun s x => (cNext P s x).st) ⟨0, P.hi, 0, 0⟩
theorem cRun_snoc (P : CPar) (l : List Int) (x : Int) : cRun P (l ++ [x]) = (cNext P (cRun P l) x).st := by simp [cRun]
/-- a machine stands at block p; all its blocks are in D -/
structure Wm (W : World) (D : Nat → Prop) (p : Nat) (P : CPar) (a : Option Addr) (c : Nat) (s : CSt) (la : Value) (l : List Int) : Prop where
  mb : ∃ nx, MB W p P a c nx la (s.pl == 6) s.err ∧ NxP W D p la.ownBlock s nx
  row : WRow W la l
  rg : ∀ g, la.ownBlock = some g → D g ∧ g ≠ p
  inv : CInv P s
  z : s.pl = 0 → s.at_ = P.hi
  dp : D p
  dl : ∀ k, D k → k < W.heap.size
  sh : SlOf W a (strV P.ss)
  far : ∀ ad, a = some ad → ¬ D ad.block ∧ ad.block < W.heap.size
  run : s = cRun P l
  rng : ∀ x ∈ l, 0 ≤ x ∧ x < 18446744073709551616
theorem Wm.pb {W : World} {D : Nat → Prop} {p : Nat} {P : CPar} {a : Option Addr} {c : Nat} {s : CSt} {la : Value} {l : List Int} (h : Wm W D p P a c s la l) : p < W.heap.size := h.dl p h.dp
theorem Wm.only {W W' : World} {D S : Nat → Prop} {p : Nat} {P : CPar} {a : Option Addr} {c : Nat} {s : CSt} {la : Value} {l : List Int} (h : Wm W D p P a c s la l) (hb : Only S W W') (hs : ∀ k, D k → ¬ S k) (ha : ∀ ad, a = some ad → ¬ S ad.block) : Wm W' D p P a c s la l := by
  obtain ⟨nx, h1, h2⟩ := h.mb
  exact ⟨⟨nx, hb.blk (hs p h.dp) h1, h2.only hb fun k _ _ hk => hs k hk⟩, owns_only h.row hb fun g hg => hs g (h.rg g hg).1, h.rg, h.inv, h.z, h.dp, fun k hk => Nat.lt_of_lt_of_le (h.dl k hk) hb.size, h.sh.only hb ha, fun ad e => ⟨(h.far ad e).1, Nat.lt_of_lt_of_le (h.far ad e).2 hb.size⟩, h.run, h.rng⟩
theorem Wm.below {W W' : World} {D : Nat → Prop} {p : Nat} {P : CPar} {a : Option Addr} {c : Nat} {s : CSt} {la : Value} {l : List Int} (h : Wm W D p P a c s la l) (hb : Below W.heap.size W W') : Wm W' D p P a c s la l :=
  h.only (S := fun _ => False) (Only.of hb) (fun _ _ x => x) (fun _ _ x => x)
theorem NxTail.wm {D : Nat → Prop} {p : Nat} {P : CPar} {a : Option Addr} {c : Nat} {s st : CSt} {la : Value} {l : List Int} {ans : Int} {w w' : World} (h : Wm w D p P a c s la l) (ht : NxTail D p P a c la (l ++ [ans]) w st w') (hst : st = (cNext P s ans).st) (hinv : CInv P st) (hz : st.pl ≠ 0) (h0 : 0 ≤ ans ∧ ans < 18446744073709551616) :
    Only D w w' ∧ ∃ la', Wm w' (fun k => (D k ∨ w.heap.size ≤ k) ∧ k < w'.heap.size) p P a c st la' (l ++ [ans]) := by
  obtain ⟨h1, nx', la', h2, h3, h4, h5⟩ := ht
  have hO : Only D w w' := h1.mono fun k _ hk => by
    rcases hk with hk | hk
    · rw [hk]; exact h.dp
    · exact (h.rg k hk).1
  refine ⟨hO, la', ⟨nx', h2, h3.mono fun k hk h' => ⟨h', hk⟩⟩, h4, fun g hg => ?_, hinv, fun e => absurd e hz, ⟨.inl h.dp, Nat.lt_of_lt_of_le h.pb hO.size⟩, fun k hk => hk.2, h.sh.only hO fun ad e => (h.far ad e).1, fun ad e => ⟨fun hk => ?_, Nat.lt_of_lt_of_le (h.far ad e).2 hO.size⟩, ?_, ?_⟩
  · obtain ⟨g1, g2⟩ := h5 g hg
    refine ⟨⟨?_, (World.ownsRow.lt h4 g hg).2⟩, g1⟩
    rcases g2 with g2 | g2
    · exact .inl (h.rg g g2).1
    · exact .inr g2
  · rcases hk.1 with hk | hk
    · exact (h.far ad e).1 hk
    · have := (h.far ad e).2; omega
  · rw [cRun_snoc, ← h.run]; exact hst
  · intro x hx
    rcases List.mem_append.1 hx with hx | hx
    · exact h.rng x hx
    · rw [List.mem_singleton.1 hx]; exact h0

set_option maxRecDepth 100000 in
theorem wNext_idle (p : Nat) (P : CPar) (a : Option Addr) (c : Nat) (la : Value) (ov : Bool) (er ans : Int) (w : World) (h : MB w p P a c .nilFunc la ov er) :
    Calls Try.prog 14 #[.pointer (some ⟨p, 0, none⟩), .int .u64 ans] w fun e w' => e = .returned (.tuple #[accV 0 0 0 0, .bool false]) ∧ Below w.heap.size w w' := by
  have q7 : w.cell? ⟨p, 7, none⟩ = some .nilFunc := blk_cell h 7 _ rfl
  have lp := blk_lt h
  clear h
  have hN := fun W => wNil_eq W
  unfold accV
  go_enter Try.func14, Try.ntmps14
  go_wp2
  refine bodyPost_ret (v := .tuple #[.agg #[.int .i64 0, .int .i64 0, .int .u64 0, .int .u64 0], .bool false]) (by simp [results, Try.results14, go_sem, World.cell?_setCell_same', cell_off, *]) rfl ⟨rfl, by (repeat (first | exact Below.refl _ _ | (with_reducible assumption) | refine Below.drew ?_ | refine Below.drewN' ?_ _ | refine Below.alloc ?_ (by first | omega | (simp; done) | (simp; omega)) _ | refine Below.setCell ?_ (by first | omega | (simp; done) | (simp; omega)) _ | refine Below.then ?_ hb9 (by first | omega | (simp; done) | (simp; omega)) | refine Below.then ?_ hb8 (by first | omega | (simp; done) | (simp; omega)) | refine Below.then ?_ hb7 (by first | omega | (simp; done) | (simp; omega)) | refine Below.then ?_ hb6 (by first | omega | (simp; done) | (simp; omega)) | refine Below.then ?_ hb5 (by first | omega | (simp; done) | (simp; omega)) | refine Below.then ?_ hb4 (by first | omega | (simp; done) | (simp; omega)) | refine Below.then ?_ hb3 (by first | omega | (simp; done) | (simp; omega)) | refine Below.then ?_ hb2 (by first | omega | (simp; done) | (simp; omega)) | refine Below.then ?_ hb1 (by first | omega | (simp; done) | (simp; omega))))⟩
theorem wNext_zero (p : Nat) (xs : Array Value) (ans : Int) (w : World) (hx : xs[7]? = some .nilFunc) (h : w.heap[p]? = some (.cells xs 74 (0, 0))) :
    Calls Try.prog 14 #[.pointer (some ⟨p, 0, none⟩), .int .u64 ans] w fun e w' => e = .returned (.tuple #[accV 0 0 0 0, .bool false]) ∧ Below w.heap.size w w' := by
  have q7 : w.cell? ⟨p, 7, none⟩ = some .nilFunc := blk_cell h 7 _ hx
  have lp := blk_lt h
  clear h hx
  have hN := fun W => wNil_eq W
  unfold accV
  go_enter Try.func14, Try.ntmps14
  go_wp2
  refine bodyPost_ret (v := .tuple #[.agg #[.int .i64 0, .int .i64 0, .int .u64 0, .int .u64 0], .bool false]) (by simp [results, Try.results14, go_sem, World.cell?_setCell_same', cell_off, *]) rfl ⟨rfl, by (repeat (first | exact Below.refl _ _ | (with_reducible assumption) | refine Below.drew ?_ | refine Below.drewN' ?_ _ | refine Below.alloc ?_ (by first | omega | (simp; done) | (simp; omega)) _ | refine Below.setCell ?_ (by first | omega | (simp; done) | (simp; omega)) _ | refine Below.then ?_ hb9 (by first | omega | (simp; done) | (simp; omega)) | refine Below.then ?_ hb8 (by first | omega | (simp; done) | (simp; omega)) | refine Below.then ?_ hb7 (by first | omega | (simp; done) | (simp; omega)) | refine Below.then ?_ hb6 (by first | omega | (simp; done) | (simp; omega)) | refine Below.then ?_ hb5 (by first | omega | (simp; done) | (simp; omega)) | refine Below.then ?_ hb4 (by first | omega | (simp; done) | (simp; omega)) | refine Below.then ?_ hb3 (by first | omega | (simp; done) | (simp; omega)) | refine Below.then ?_ hb2 (by first | omega | (simp; done) | (simp; omega)) | refine Below.then ?_ hb1 (by first | omega | (simp; done) | (simp; omega))))⟩
theorem wNext_nil (ans : Int) (w : World) :
    Calls Try.prog 14 #[.pointer none, .int .u64 ans] w fun e w' => e = .returned (.tuple #[accV 0 0 0 0, .bool false]) ∧ Below w.heap.size w w' := by
  unfold accV
  go_enter Try.func14, Try.ntmps14
  go_wp2
  refine bodyPost_ret (v := .tuple #[.agg #[.int .i64 0, .int .i64 0, .int .u64 0, .int .u64 0], .bool false]) (by simp [results, Try.results14, go_sem, World.cell?_setCell_same', cell_off, *]) rfl ⟨rfl, by (repeat (first | exact Below.refl _ _ | (with_reducible assumption) | refine Below.drew ?_ | refine Below.drewN' ?_ _ | refine Below.alloc ?_ (by first | omega | (simp; done) | (simp; omega)) _ | refine Below.setCell ?_ (by first | omega | (simp; done) | (simp; omega)) _ | refine Below.then ?_ hb9 (by first | omega | (simp; done) | (simp; omega)) | refine Below.then ?_ hb8 (by first | omega | (simp; done) | (simp; omega)) | refine Below.then ?_ hb7 (by first | omega | (simp; done) | (simp; omega)) | refine Below.then ?_ hb6 (by first | omega | (simp; done) | (simp; omega)) | refine Below.then ?_ hb5 (by first | omega | (simp; done) | (simp; omega)) | refine Below.then ?_ hb4 (by first | omega | (simp; done) | (simp; omega)) | refine Below.then ?_ hb3 (by first | omega | (simp; done) | (simp; omega)) | refine Below.then ?_ hb2 (by first | omega | (simp; done) | (simp; omega)) | refine Below.then ?_ hb1 (by first | omega | (simp; done) | (simp; omega))))⟩

theorem cNext_pl {P : CPar} {s : CSt} {ans : Int} (hs : CInv P s) (h : s.pl ≠ 6) : (cNext P s ans).st.pl ≠ 0 := by
  have hw : ∀ s x, (cWipe P s x).st.pl ≠ 0 := fun s x => by unfold cWipe; split <;> simp
  have hk : ∀ s x, (cWalk P s x).st.pl ≠ 0 := fun s x => by unfold cWalk; split; exact hw _ _; simp
  have ht : ∀ s x, (cTurn P s x).st.pl ≠ 0 := fun s x => by unfold cTurn cEnd; split <;> simp
  have hle := hs.le
  obtain ⟨pl, at_, was, err⟩ := s
  have : pl = 0 ∨ pl = 1 ∨ pl = 2 ∨ pl = 3 ∨ pl = 4 ∨ pl = 5 ∨ pl = 6 := by simp at hle; omega
  rcases this with rfl | rfl | rfl | rfl | rfl | rfl | rfl
  · exact hk _ _
  · show (if cObj P at_ ans = true then _ else _ : CRes).st.pl ≠ 0
    split
    · simp
    · exact hk _ _
  · exact hk _ _
  · exact hw _ _
  · exact ht _ _
  · show (if ans = was then _ else _ : CRes).st.pl ≠ 0
    split
    · simp [cEnd]
    · exact ht _ _
  · exact absurd rfl h

theorem wNext_calls (D : Nat → Prop) (p : Nat) (P : CPar) (hP : CPOk P) (hn : P.ss.length ≤ maxLen) (a : Option Addr) (c : Nat) (s : CSt) (la : Value) (l : List Int) (hl : l.length ≤ 1000000) (ans : Int) (h0 : 0 ≤ ans) (h1 : ans < 18446744073709551616) (w : World) (h : Wm w D p P a c s la l) :
    Calls Try.prog 14 #[.pointer (some ⟨p, 0, none⟩), .int .u64 ans] w fun e w' =>
      e = .returned (.tuple #[accV (cNext P s ans).k (cNext P s ans).a (cNext P s ans).o (cNext P s ans).n, .bool (cNext P s ans).is]) ∧ Only D w w' ∧ ∃ la', Wm w' (fun k => (D k ∨ w.heap.size ≤ k) ∧ k < w'.heap.size) p P a c (cNext P s ans).st la' (if s.pl = 6 then l else l ++ [ans]) := by
  have hle := h.inv.le
  have hinv := cNext_inv (ans := ans) h.inv ⟨h0, h1⟩
  have hS : ∀ W, Only (fun k => k = p ∨ la.ownBlock = some k) w W → SlOf W a (strV P.ss) := fun W hO => h.sh.only hO fun ad e hk => by
    rcases hk with hk | hk
    · exact (h.far ad e).1 (by rw [hk]; exact h.dp)
    · exact (h.far ad e).1 (h.rg _ hk).1
  have hD : ∀ W, Only (fun k => k = p ∨ la.ownBlock = some k) w W → ∀ k, D k → k < W.heap.size := fun W hO k hk => Nat.lt_of_lt_of_le (h.dl k hk) hO.size
  have hB : ∀ W, Only (fun k => k = p ∨ la.ownBlock = some k) w W → ∀ k o, Cb w D p la.ownBlock k o → W.heap[k]? = some o := fun W hO k o hc => hO.blk (fun hk => by
    rcases hk with hk | hk
    · exact hc.np hk
    · exact hc.nr hk) hc.blk
  have hrn : ∀ (la' : Value) (W : World) k o, (∀ g, la'.ownBlock = some g → g < W.heap.size ∧ g ≠ p ∧ (la.ownBlock = some g ∨ w.heap.size < g)) → Cb w D p la.ownBlock k o → la'.ownBlock ≠ some k := fun la' W k o hg hc e => by
    obtain ⟨_, _, h1 | h1⟩ := hg k e
    · exact hc.nr h1
    · have := blk_lt hc.blk; omega
  have hpl0 := cNext_pl (ans := ans) h.inv
  have hz := h.z
  have her := h.inv.er
  have hw0 := h.inv.w0
  have hw1 := h.inv.w1
  have hw3 := h.inv.w3
  have hwa := h.inv.wa
  obtain ⟨nx, hmb, hnx⟩ := h.mb
  obtain ⟨pl, at_, was, err⟩ := s
  have hpl : pl = 0 ∨ pl = 1 ∨ pl = 2 ∨ pl = 3 ∨ pl = 4 ∨ pl = 5 ∨ pl = 6 := by simp at hle; omega
  have fin : pl ≠ 6 → (Calls Try.prog 14 #[.pointer (some ⟨p, 0, none⟩), .int .u64 ans] w fun e w' => e = .returned (.tuple #[accV (cNext P ⟨pl, at_, was, err⟩ ans).k (cNext P ⟨pl, at_, was, err⟩ ans).a (cNext P ⟨pl, at_, was, err⟩ ans).o (cNext P ⟨pl, at_, was, err⟩ ans).n, .bool (cNext P ⟨pl, at_, was, err⟩ ans).is]) ∧ NxTail D p P a c la (l ++ [ans]) w (cNext P ⟨pl, at_, was, err⟩ ans).st w') →
      Calls Try.prog 14 #[.pointer (some ⟨p, 0, none⟩), .int .u64 ans] w fun e w' => e = .returned (.tuple #[accV (cNext P ⟨pl, at_, was, err⟩ ans).k (cNext P ⟨pl, at_, was, err⟩ ans).a (cNext P ⟨pl, at_, was, err⟩ ans).o (cNext P ⟨pl, at_, was, err⟩ ans).n, .bool (cNext P ⟨pl, at_, was, err⟩ ans).is]) ∧ Only D w w' ∧ ∃ la', Wm w' (fun k => (D k ∨ w.heap.size ≤ k) ∧ k < w'.heap.size) p P a c (cNext P ⟨pl, at_, was, err⟩ ans).st la' (if pl = 6 then l else l ++ [ans]) := fun h6 H => by
    refine H.mono ?_
    rintro e w' ⟨he, ht⟩
    rw [if_neg h6]
    exact ⟨he, NxTail.wm h ht rfl hinv (hpl0 h6) ⟨h0, h1⟩⟩
  rcases hpl with rfl | rfl | rfl | rfl | rfl | rfl | rfl
  · have er0 : err = 0 := her (by simp)
    subst er0
    have eh : at_ = P.hi := hz rfl
    subst eh
    refine fin (by decide) ?_
    have e1 : nx = nxBegin p := hnx
    subst e1
    exact wNextBegin D p P a c la l hl ans _ w hmb h.row (fun g hg => (h.rg g hg).2) h.dl fun W la' hO hM hg => wBegin_calls D p la'.ownBlock P hP a c _ la' ⟨0, P.hi, was, 0⟩ rfl ans W hM (hD W hO) (fun g e => (hg g e).1)
  · have er0 : err = 0 := her (by simp)
    subst er0
    obtain ⟨w10, w11⟩ := hw1 rfl
    refine fin (by decide) ?_
    obtain ⟨pm, pa, rfl, cm, ca⟩ := hnx
    exact wNextWalk1 D p P a c pm pa la l hl ans _ w hmb h.row (fun g hg => (h.rg g hg).2) h.dl fun W la' hO hM hg => wWalk1_calls D p la'.ownBlock P hP a c _ la' ⟨1, at_, was, 0⟩ rfl hn pm pa at_ ans w10 w11 h0 h1 W hM (hD W hO) (fun g e => (hg g e).1) (hB W hO _ _ cm) (hB W hO _ _ ca) cm.d ca.d (hrn la' W _ _ hg cm) (hrn la' W _ _ hg ca) cm.np ca.np (hS W hO)
  · have er0 : err = 0 := her (by simp)
    subst er0
    obtain ⟨w00, w01⟩ := hw0 (.inr rfl)
    dsimp only at w00 w01
    refine fin (by decide) ?_
    obtain ⟨po, pm, pa, pn, x, n, rfl, co, cm, ca, cn, hxn⟩ := hnx
    exact wNextStore1 D p P a c po la l hl ans _ w hmb h.row (fun g hg => (h.rg g hg).2) h.dl fun W la' hO hM hg => wStore1a_calls D p la'.ownBlock P hP a c _ la' ⟨2, at_, was, 0⟩ rfl po pm pa pn x n at_ hxn w00 (by omega) ans W hM (hD W hO) (fun g e => (hg g e).1) (hB W hO _ _ co) (hB W hO _ _ cm) (hB W hO _ _ ca) (hB W hO _ _ cn)
  · have er0 : err = 0 := her (by simp)
    subst er0
    obtain ⟨w30, w31⟩ := hw3 rfl
    dsimp only at w30 w31
    refine fin (by decide) ?_
    obtain ⟨po, pm, pa, x, rfl, co, cm, ca, hx⟩ := hnx
    exact wNextStore1 D p P a c po la l hl ans _ w hmb h.row (fun g hg => (h.rg g hg).2) h.dl fun W la' hO hM hg => wStore1b_calls D p la'.ownBlock P hP a c _ la' ⟨3, at_, was, 0⟩ rfl po pm pa x at_ hx (by omega) (by omega) ans W hM (hD W hO) (fun g e => (hg g e).1) (hB W hO _ _ co) (hB W hO _ _ cm) (hB W hO _ _ ca)
  · have er0 : err = 0 := her (by simp)
    subst er0
    refine fin (by decide) ?_
    have e1 : nx = nxTurn p := hnx
    subst e1
    exact wNextTurn D p P a c la l hl ans _ w hmb h.row (fun g hg => (h.rg g hg).2) h.dl fun W la' hO hM hg => wTurn_calls D p la'.ownBlock P hP a c _ la' ⟨4, at_, was, 0⟩ rfl ans h0 h1 W hM (hD W hO) (fun g e => (hg g e).1)
  · have er0 : err = 0 := her (by simp)
    subst er0
    refine fin (by decide) ?_
    obtain ⟨pw, pe, pm, rfl, cw, ce, cm⟩ := hnx
    exact wNextTurn2 D p P a c pw pe pm la l hl ans _ w hmb h.row (fun g hg => (h.rg g hg).2) h.dl fun W la' hO hM hg => wTurn2_calls D p la'.ownBlock P hP a c _ la' ⟨5, at_, was, 0⟩ rfl pw pe pm was ans h0 h1 W hM (hD W hO) (fun g e => (hg g e).1) (hB W hO _ _ cw) (hB W hO _ _ ce) (hB W hO _ _ cm)
  · have e1 : nx = .nilFunc := hnx
    subst e1
    refine (wNext_idle p P a c la _ err ans w hmb).mono ?_
    rintro e w' ⟨rfl, hb⟩
    rw [if_pos rfl]
    have hw' := h.below hb
    have hD' : ∀ k, D k → (D k ∨ w.heap.size ≤ k) ∧ k < w'.heap.size := fun k hk => ⟨.inl hk, hw'.dl k hk⟩
    obtain ⟨nx, h1, h2⟩ := hw'.mb
    exact ⟨rfl, Only.of hb, la, ⟨nx, h1, h2.mono fun k _ hk => hD' k hk⟩, hw'.row, fun g hg => ⟨hD' g (h.rg g hg).1, (h.rg g hg).2⟩, hw'.inv, hw'.z, hD' p h.dp, fun k hk => hk.2, hw'.sh, fun ad e => ⟨fun hk => by
      rcases hk.1 with hk | hk
      · exact (h.far ad e).1 hk
      · have := (h.far ad e).2; omega, (hw'.far ad e).2⟩, hw'.run, hw'.rng⟩

theorem wOut_calls (p : Nat) (P : CPar) (a : Option Addr) (c : Nat) (nx la : Value) (ov : Bool) (er : Int) (he : ov = false → er = 0) (w : World) (h : MB w p P a c nx la ov er) :
    Calls Try.prog 21 #[.pointer (some ⟨p, 0, none⟩)] w fun e w' => e = .returned (.tuple #[.int .i64 er, .bool ov]) ∧ Below w.heap.size w w' := by
  have q9 : w.cell? ⟨p, 9, none⟩ = some (.bool ov) := blk_cell h 9 _ rfl
  have q10 : w.cell? ⟨p, 10, none⟩ = some (.int .i64 er) := blk_cell h 10 _ rfl
  have lp := blk_lt h
  clear h
  cases ov with
  | false =>
    obtain rfl := he rfl
    go_enter Try.func21, Try.ntmps21
    go_wp2
    go_ret2
    exact ⟨rfl, by (repeat (first | exact Below.refl _ _ | (with_reducible assumption) | refine Below.drew ?_ | refine Below.drewN' ?_ _ | refine Below.alloc ?_ (by first | omega | (simp; done) | (simp; omega)) _ | refine Below.setCell ?_ (by first | omega | (simp; done) | (simp; omega)) _ | refine Below.then ?_ hb9 (by first | omega | (simp; done) | (simp; omega)) | refine Below.then ?_ hb8 (by first | omega | (simp; done) | (simp; omega)) | refine Below.then ?_ hb7 (by first | omega | (simp; done) | (simp; omega)) | refine Below.then ?_ hb6 (by first | omega | (simp; done) | (simp; omega)) | refine Below.then ?_ hb5 (by first | omega | (simp; done) | (simp; omega)) | refine Below.then ?_ hb4 (by first | omega | (simp; done) | (simp; omega)) | refine Below.then ?_ hb3 (by first | omega | (simp; done) | (simp; omega)) | refine Below.then ?_ hb2 (by first | omega | (simp; done) | (simp; omega)) | refine Below.then ?_ hb1 (by first | omega | (simp; done) | (simp; omega))))⟩
  | true =>
    clear he
    go_enter Try.func21, Try.ntmps21
    go_wp2
    go_ret2
    exact ⟨rfl, by (repeat (first | exact Below.refl _ _ | (with_reducible assumption) | refine Below.drew ?_ | refine Below.drewN' ?_ _ | refine Below.alloc ?_ (by first | omega | (simp; done) | (simp; omega)) _ | refine Below.setCell ?_ (by first | omega | (simp; done) | (simp; omega)) _ | refine Below.then ?_ hb9 (by first | omega | (simp; done) | (simp; omega)) | refine Below.then ?_ hb8 (by first | omega | (simp; done) | (simp; omega)) | refine Below.then ?_ hb7 (by first | omega | (simp; done) | (simp; omega)) | refine Below.then ?_ hb6 (by first | omega | (simp; done) | (simp; omega)) | refine Below.then ?_ hb5 (by first | omega | (simp; done) | (simp; omega)) | refine Below.then ?_ hb4 (by first | omega | (simp; done) | (simp; omega)) | refine Below.then ?_ hb3 (by first | omega | (simp; done) | (simp; omega)) | refine Below.then ?_ hb2 (by first | omega | (simp; done) | (simp; omega)) | refine Below.then ?_ hb1 (by first | omega | (simp; done) | (simp; omega))))⟩
theorem wOut_zero (p : Nat) (xs : Array Value) (w : World) (hx : xs[9]? = some (.bool false)) (h : w.heap[p]? = some (.cells xs 74 (0, 0))) :
    Calls Try.prog 21 #[.pointer (some ⟨p, 0, none⟩)] w fun e w' => e = .returned (.tuple #[.int .i64 0, .bool false]) ∧ Below w.heap.size w w' := by
  have q9 : w.cell? ⟨p, 9, none⟩ = some (.bool false) := blk_cell h 9 _ hx
  have lp := blk_lt h
  clear h hx
  go_enter Try.func21, Try.ntmps21
  go_wp2
  go_ret2
  exact ⟨rfl, by (repeat (first | exact Below.refl _ _ | (with_reducible assumption) | refine Below.drew ?_ | refine Below.drewN' ?_ _ | refine Below.alloc ?_ (by first | omega | (simp; done) | (simp; omega)) _ | refine Below.setCell ?_ (by first | omega | (simp; done) | (simp; omega)) _ | refine Below.then ?_ hb9 (by first | omega | (simp; done) | (simp; omega)) | refine Below.then ?_ hb8 (by first | omega | (simp; done) | (simp; omega)) | refine Below.then ?_ hb7 (by first | omega | (simp; done) | (simp; omega)) | refine Below.then ?_ hb6 (by first | omega | (simp; done) | (simp; omega)) | refine Below.then ?_ hb5 (by first | omega | (simp; done) | (simp; omega)) | refine Below.then ?_ hb4 (by first | omega | (simp; done) | (simp; omega)) | refine Below.then ?_ hb3 (by first | omega | (simp; done) | (simp; omega)) | refine Below.then ?_ hb2 (by first | omega | (simp; done) | (simp; omega)) | refine Below.then ?_ hb1 (by first | omega | (simp; done) | (simp; omega))))⟩
theorem wOut_nil (w : World) :
    Calls Try.prog 21 #[.pointer none] w fun e w' => e = .returned (.tuple #[.int .i64 0, .bool false]) ∧ Below w.heap.size w w' := by
  go_enter Try.func21, Try.ntmps21
  go_wp2
  go_ret2
  exact ⟨rfl, by (repeat (first | exact Below.refl _ _ | (with_reducible assumption) | refine Below.drew ?_ | refine Below.drewN' ?_ _ | refine Below.alloc ?_ (by first | omega | (simp; done) | (simp; omega)) _ | refine Below.setCell ?_ (by first | omega | (simp; done) | (simp; omega)) _ | refine Below.then ?_ hb9 (by first | omega | (simp; done) | (simp; omega)) | refine Below.then ?_ hb8 (by first | omega | (simp; done) | (simp; omega)) | refine Below.then ?_ hb7 (by first | omega | (simp; done) | (simp; omega)) | refine Below.then ?_ hb6 (by first | omega | (simp; done) | (simp; omega)) | refine Below.then ?_ hb5 (by first | omega | (simp; done) | (simp; omega)) | refine Below.then ?_ hb4 (by first | omega | (simp; done) | (simp; omega)) | refine Below.then ?_ hb3 (by first | omega | (simp; done) | (simp; omega)) | refine Below.then ?_ hb2 (by first | omega | (simp; done) | (simp; omega)) | refine Below.then ?_ hb1 (by first | omega | (simp; done) | (simp; omega))))⟩
theorem wCopy_nil (w : World) :
    Calls Try.prog 27 #[.pointer none] w fun e w' => e = .returned (.pointer none) ∧ Below w.heap.size w w' := by
  go_enter Try.func27, Try.ntmps27
  go_wp2
  go_ret
  exact ⟨rfl, by (repeat (first | exact Below.refl _ _ | (with_reducible assumption) | refine Below.drew ?_ | refine Below.drewN' ?_ _ | refine Below.alloc ?_ (by first | omega | (simp; done) | (simp; omega)) _ | refine Below.setCell ?_ (by first | omega | (simp; done) | (simp; omega)) _ | refine Below.then ?_ hb9 (by first | omega | (simp; done) | (simp; omega)) | refine Below.then ?_ hb8 (by first | omega | (simp; done) | (simp; omega)) | refine Below.then ?_ hb7 (by first | omega | (simp; done) | (simp; omega)) | refine Below.then ?_ hb6 (by first | omega | (simp; done) | (simp; omega)) | refine Below.then ?_ hb5 (by first | omega | (simp; done) | (simp; omega)) | refine Below.then ?_ hb4 (by first | omega | (simp; done) | (simp; omega)) | refine Below.then ?_ hb3 (by first | omega | (simp; done) | (simp; omega)) | refine Below.then ?_ hb2 (by first | omega | (simp; done) | (simp; omega)) | refine Below.then ?_ hb1 (by first | omega | (simp; done) | (simp; omega))))⟩
def mostV (sp : Int) (b : Bool) : Int := if b = true then 3 * sp + 2 else 0
theorem wMost_calls (t sp : Int) (a : Option Addr) (c : Nat) (ss : List ByteArray) (hn : ss.length ≤ maxLen) (w : World) (h : SlOf w a (strV ss)) :
    Calls Try.prog 24 #[.agg #[.int .i64 t, .int .i64 sp, .slice a ss.length c]] w fun e w' => e = .returned (.tuple #[.int .i64 (mostV sp (planB t sp ss)), .int .i64 (planE t sp ss)]) ∧ Below w.heap.size w w' := by
  have HC := fun W h => layCheck_calls t sp a c ss hn W h
  have HS := Lib.hid h
  unfold planE mostV
  unfold planE at HC
  cases hp : planB t sp ss with
  | false =>
    rw [hp] at HC
    simp only [Bool.false_eq_true, if_false] at HC ⊢
    have HC := Lib.hid HC
    clear hp h
    go_enter Try.func24, Try.ntmps24
    go_wp2_with fail
    refine (HC.out _ (HS.out.alloc _)).mono ?_; rintro e1 w1 ⟨rfl, hb1⟩; have hz1 := hb1.size; (try simp at hz1)
    go_wp2
    go_ret2
    exact ⟨rfl, by (repeat (first | exact Below.refl _ _ | (with_reducible assumption) | refine Below.drew ?_ | refine Below.drewN' ?_ _ | refine Below.alloc ?_ (by first | omega | (simp; done) | (simp; omega)) _ | refine Below.setCell ?_ (by first | omega | (simp; done) | (simp; omega)) _ | refine Below.then ?_ hb9 (by first | omega | (simp; done) | (simp; omega)) | refine Below.then ?_ hb8 (by first | omega | (simp; done) | (simp; omega)) | refine Below.then ?_ hb7 (by first | omega | (simp; done) | (simp; omega)) | refine Below.then ?_ hb6 (by first | omega | (simp; done) | (simp; omega)) | refine Below.then ?_ hb5 (by first | omega | (simp; done) | (simp; omega)) | refine Below.then ?_ hb4 (by first | omega | (simp; done) | (simp; omega)) | refine Below.then ?_ hb3 (by first | omega | (simp; done) | (simp; omega)) | refine Below.then ?_ hb2 (by first | omega | (simp; done) | (simp; omega)) | refine Below.then ?_ hb1 (by first | omega | (simp; done) | (simp; omega))))⟩
  | true =>
    rw [hp] at HC
    simp only [if_true] at HC ⊢
    obtain ⟨_, _, b3, b4, _⟩ := plan_ok hp
    have HC := Lib.hid HC
    clear hp h
    go_enter Try.func24, Try.ntmps24
    go_wp2_with fail
    refine (HC.out _ (HS.out.alloc _)).mono ?_; rintro e1 w1 ⟨rfl, hb1⟩; obtain ⟨hc1, hf1⟩ := bcell hb1; have hz1 := hb1.size; (try simp at hz1)
    have q1 := hc1 w.heap.size 1 (by first | omega | (simp; done) | (simp; omega)); simp [go_sem] at q1
    go_wp2
    go_ret2
    exact ⟨rfl, by (repeat (first | exact Below.refl _ _ | (with_reducible assumption) | refine Below.drew ?_ | refine Below.drewN' ?_ _ | refine Below.alloc ?_ (by first | omega | (simp; done) | (simp; omega)) _ | refine Below.setCell ?_ (by first | omega | (simp; done) | (simp; omega)) _ | refine Below.then ?_ hb9 (by first | omega | (simp; done) | (simp; omega)) | refine Below.then ?_ hb8 (by first | omega | (simp; done) | (simp; omega)) | refine Below.then ?_ hb7 (by first | omega | (simp; done) | (simp; omega)) | refine Below.then ?_ hb6 (by first | omega | (simp; done) | (simp; omega)) | refine Below.then ?_ hb5 (by first | omega | (simp; done) | (simp; omega)) | refine Below.then ?_ hb4 (by first | omega | (simp; done) | (simp; omega)) | refine Below.then ?_ hb3 (by first | omega | (simp; done) | (simp; omega)) | refine Below.then ?_ hb2 (by first | omega | (simp; done) | (simp; omega)) | refine Below.then ?_ hb1 (by first | omega | (simp; done) | (simp; omega))))⟩
end Go.Proofs.Ytafenndokmccoaa
