/- The law of layer 'wipe': claims among a machine's accesses, for all inputs; a slice of pairs that comes in. -/
import Derived.Test.YtafenndokmccoaaClrY
import Derived.Test.YtafenndokmccoaaLiftKit2
namespace Go.Proofs.Ytafenndokmccoaa
open Go.RowKit
set_option linter.unusedVariables false
set_option linter.unusedSimpArgs false
theorem listOf {α : Type} (R : Nat → α → Prop) : ∀ (n : Nat), (∀ i, i < n → ∃ z, R i z) → ∃ zs : List α, zs.length = n ∧ ∀ i z, zs[i]? = some z → R i z
  | 0, _ => ⟨[], rfl, fun i z h => by simp at h⟩
  | n + 1, h => by
    obtain ⟨zs, hl, hz⟩ := listOf R n (fun i hi => h i (by omega))
    obtain ⟨y, hy⟩ := h n (by omega)
    refine ⟨zs ++ [y], by simp [hl], fun i z hiz => ?_⟩
    by_cases hi : i < n
    · rw [List.getElem?_append_left (by omega)] at hiz
      exact hz i z hiz
    · rw [List.getElem?_append_right (by omega)] at hiz
      have e : i - zs.length = 0 := by
        rcases Nat.eq_zero_or_pos (i - zs.length) with h0 | h0
        · exact h0
        · rw [List.getElem?_eq_none (by simp; omega)] at hiz; cases hiz
      rw [e] at hiz
      simp at hiz
      subst hiz
      have : i = n := by omega
      rw [this]; exact hy

theorem cellsOfPair : Try.prog.cellsOf 51 = 2 := by kernel_rfl
theorem cellsOfOne : Try.prog.cellsOf 3 = 1 := by kernel_rfl
section
variable {H : Type} {enc : TypeId × Value → H} {w : World} {base : Nat} {spare : Nat → Bool} {held : Bool}
set_option maxRecDepth 100000 in
theorem rd_pair {fuel : Nat} {cs : List Value} {x : DataW H × List MemPlace} (h : DataW.trod enc Try.prog w base spare held fuel 51 cs = some x) : ∃ z : Int × Int, cs = [.int .i64 z.1, .int .i64 z.2] ∧ (Lit.int .i64 z.1).wf = true ∧ (Lit.int .i64 z.2).wf = true := by
  obtain ⟨n, hl, hf⟩ := rd_array Try.underlying51 h
  rw [cellsOfPair] at hl
  obtain ⟨q0, q1, rfl⟩ := list2 hl
  obtain ⟨_, g0⟩ := hf 0 (by decide)
  obtain ⟨_, g1⟩ := hf 1 (by decide)
  rw [cellsOfOne] at g0 g1
  simp only [Nat.reduceMul, List.drop_zero, List.drop_succ_cons, List.take_succ_cons, List.take_zero] at g0 g1
  obtain ⟨x0, e0, w0⟩ := rd_int Try.underlying3 g0
  obtain ⟨x1, e1, w1⟩ := rd_int Try.underlying3 g1
  simp only [List.cons.injEq, and_true] at e0 e1
  subst e0 e1
  exact ⟨(x0, x1), rfl, w0, w1⟩
/-- a slice of pairs of numbers that came in -/
theorem rd_sl51 {fuel : Nat} {cs : List Value} {x : DataW H × List MemPlace} (_ : spare = fun _ => true) (h : DataW.trod enc Try.prog w base spare held fuel 30 cs = some x) :
    ∃ (a : Option Addr) (c : Nat) (zs : List (Int × Int)), cs = [.slice a zs.length c] ∧ (zs.length ≤ maxLen ∧ zs.length ≤ c) ∧ ClOf w a zs ∧ ∀ z ∈ zs, (Lit.int .i64 z.1).wf = true ∧ (Lit.int .i64 z.2).wf = true := by
  rcases DataW.trod_slice Try.underlying30 h with ⟨hcs, _⟩ | ⟨a, len, cap, elems, rest, n, _, hcs, _, hb, hl, hm, hlen, hel, _, _⟩
  · exact ⟨none, 0, [], hcs, by simp, .inl rfl, by simp⟩
  · have each : ∀ i, i < len → ∃ z : Int × Int, ((Lit.int .i64 z.1).wf = true ∧ (Lit.int .i64 z.2).wf = true) ∧ w.cell? (a.add (i * 2)) = some (.int .i64 z.1) ∧ w.cell? (a.add (i * 2 + 1)) = some (.int .i64 z.2) := by
      intro i hi
      have h1 := hel i hi
      rw [List.getElem?_eq_getElem (by omega)] at h1
      obtain ⟨cs', hc1, hc2⟩ := Option.bind_eq_some_iff.1 h1
      rw [cellsOfPair] at hc1
      obtain ⟨_, hcl, hat⟩ := World.cells?_some hc1
      obtain ⟨z, rfl, hz⟩ := rd_pair hc2
      have a0 := hat 0 (by decide)
      have a1 := hat 1 (by decide)
      refine ⟨z, hz, ?_, ?_⟩
      · have e : (some (Value.int .i64 z.1)) = w.cell? (a.add (i * 2)) := by
          rw [show (some (Value.int .i64 z.1)) = [Value.int .i64 z.1, Value.int .i64 z.2][0]? from rfl, ← a0]
          congr 1
          try (simp only [Addr.add]; repeat' split; all_goals first | (simp_all; done) | (simp_all; omega) | skip)
        exact e.symm
      · have e : (some (Value.int .i64 z.2)) = w.cell? (a.add (i * 2 + 1)) := by
          rw [show (some (Value.int .i64 z.2)) = [Value.int .i64 z.1, Value.int .i64 z.2][1]? from rfl, ← a1]
          congr 1
          try (simp only [Addr.add]; repeat' split; all_goals first | (simp_all; done) | (simp_all; omega) | skip)
        exact e.symm
    obtain ⟨zs, hzl, hz⟩ := listOf _ len each
    subst hzl
    refine ⟨some a, cap, zs, hcs, ⟨by unfold maxLen at hm ⊢; omega, hl⟩, ?_, fun z hzm => ?_⟩
    · by_cases h0 : zs = []
      · exact .inl h0
      · have hpos : 0 < zs.length := List.length_pos_iff.2 h0
        have h1 := (hz 0 _ (List.getElem?_eq_getElem hpos)).2.1
        obtain ⟨b, o, s⟩ := a
        have hs : s = none := by
          cases s with
          | none => rfl
          | some y =>
            exfalso
            simp only [World.cell?, Addr.add] at h1
            split at h1
            · simp at h1
            · cases h1
        subst hs
        have hbl : b < w.heap.size := by
          rcases Nat.lt_or_ge b w.heap.size with hlt | hge
          · exact hlt
          · exfalso
            have e : w.heap[b]? = none := Array.getElem?_eq_none hge
            simp [World.cell?, Addr.add, e] at h1
        have hadd : ∀ i, (⟨b, o, none⟩ : Addr).add i = ⟨b, o + i, none⟩ := fun i => by
          simp only [Addr.add]
          split
          · rename_i h0'; subst h0'; rfl
          · rfl
        refine .inr ⟨b, o, rfl, hbl, fun i hi => ?_⟩
        have := (hz i _ (List.getElem?_eq_getElem hi)).2
        rw [hadd, hadd] at this
        exact this
    · obtain ⟨i, hi, rfl⟩ := List.mem_iff_getElem.1 hzm
      exact (hz i _ (List.getElem?_eq_getElem hi)).1
end
theorem clearClaims_walk (w : World) (t : Int) (_wt : (Lit.int .i64 t).wf = true) (sp : Int) (_wsp : (Lit.int .i64 sp).wf = true) (a : Option Addr) (c : Nat) (ss : List ByteArray) (hnc : ss.length ≤ maxLen ∧ ss.length ≤ c) (h : SlOf w a (strV ss)) (hs : ∀ s ∈ ss, s.size ≤ maxLen)
    (s : Int) (_ws : (Lit.int .i64 s).wf = true) (l : Int) (_wl : (Lit.int .i64 l).wf = true) (fh : Int) (_wh : (Lit.int .i64 fh).wf = true) (fo : Int) (_wo : (Lit.int .i64 fo).wf = true)
    (wa : Option Addr) (wc : Nat) (ws : List Int) (hwc : ws.length ≤ maxLen ∧ ws.length ≤ wc ∧ (wa = none → wc = 0)) (hw : WdsOf w wa ws) (hwr : ∀ z ∈ ws, (Lit.int .u64 z).wf = true) (hi : Int) (_whi : (Lit.int .i64 hi).wf = true)
    (ca : Option Addr) (cc : Nat) (cs : List (Int × Int)) (hcc : cs.length ≤ maxLen ∧ cs.length ≤ cc) (hcl : ClOf w ca cs) (hcw : ∀ z ∈ cs, (Lit.int .i64 z.1).wf = true ∧ (Lit.int .i64 z.2).wf = true) :
    Calls Try.prog 3 #[.agg #[.int .i64 t, .int .i64 sp, .slice a ss.length c, .int .i64 s, .int .i64 l, .int .i64 fh, .int .i64 fo, .slice wa ws.length wc], .int .i64 hi, .slice ca cs.length cc] w fun e w' => e = .returned (.bool true) ∧ Below w.heap.size w w' := by
  have hF : Fit ss := ⟨hnc.1, hs⟩
  have hR : ∀ x ∈ ws, 0 ≤ x ∧ x < 18446744073709551616 := fun z hz => wf_u64 (hwr z hz)
  cases hm : mdB t sp ss s l fh fo ws.length with
  | false => exact claims_no ⟨t, sp, ss, 0, 0⟩ a c hF s l fh fo wa wc ws hi ca cc cs hm w h
  | true =>
    by_cases ho : hi < 0 ∨ (¬ hi < 0 ∧ (sp < hi ∨ (¬ sp < hi ∧ (40 : Int) < (cs.length : Int))))
    · exact claims_out ⟨t, sp, ss, 0, 0⟩ a c hF s l fh fo wa wc ws hwc.2.2 hR hm hi ca cc cs ho w h hw hcl
    · have hm' := hm
      unfold mdB at hm'
      simp only [Bool.and_eq_true, decide_eq_true_eq] at hm'
      obtain ⟨⟨⟨⟨⟨-, hp⟩, h100⟩, -⟩, hFr⟩, hfh⟩ := hm'
      obtain ⟨b1, b2, b3, b4, _⟩ := plan_ok hp
      have hs01 := (frB_ok hFr).1
      have hP : CPOk ⟨t, sp, ss, s, hi⟩ := ⟨b1, b2, b3, b4, by dsimp only; omega, by dsimp only; omega, by dsimp only; omega⟩
      exact claims_in ⟨t, sp, ss, s, hi⟩ a c hF s l fh fo wa wc ws hwc.2.2 hR hm hi ca cc cs hP rfl rfl (by omega) hcw w h hw hcl
end Go.Proofs.Ytafenndokmccoaa
