/- slices.Grow of nil, and slices.Concat of two lists of words. -/
import Derived.Test.YtiodkcecpnomcaaObjG
import Derived.Lib.AppendZerosOnto
import Derived.Laws.AppendOwnNone
namespace Go.Proofs.Ytiodkcecpnomcaa
open Go.RowKit
set_option linter.unusedVariables false
set_option linter.unusedSimpArgs false

set_option maxRecDepth 100000 in
set_option maxHeartbeats 1600000 in
theorem grow_calls (n : Nat) (h1 : 1 ≤ n) (h2 : n ≤ 1000) (w : World) : Calls Try.prog 67 #[.slice none 0 0, .int .i64 (n : Int)] w fun e w' =>
    ∃ G, e = .returned (.slice (some ⟨w.heap.size, 0, none⟩) 0 G) ∧ w'.ownsRow w.heap.size 50 1 (.slice (some ⟨w.heap.size, 0, none⟩) 0 G) 0 [] ∧ Below w.heap.size w w' := by
  obtain ⟨i0, hi0, hi0z, hi0s, hi0b⟩ := info_parts infoU64
  have hold : (Builtin.firstCells i0.size 0 (.slice none 0 0)).run Try.prog w.drew = .ok #[] w.drew := run_firstCells_none w.drew i0.size 0 0 0
  have hrz : ∀ ty, (Builtin.append_ #[25, 3] ty #[.slice none 0 0, .int .i64 (n : Int)]).run Try.prog w =
      .ok (.slice (some ⟨w.heap.size, 0, none⟩) n (grownCap w n 0 50)) (w.drew.alloc (.cells (#[] ++ Builtin.zeroCells (Value.int .u64 0).cells n ++ Builtin.zeroCells (Value.int .u64 0).cells (grownCap w n 0 50 - n)) 50)) := fun ty => by
    have h := Lib.run_append_grow_zeros w 25 3 ty 50 i0 (.int .u64 0) .i64 .i64 Try.underlying25 Try.underlying3 hi0 hi0z none 0 0 [] hold n (by omega) (by omega) (by omega) (by omega) (by rw [hi0b]; omega) (by rw [Nat.zero_add]; exact growslice_fits (by omega) (by rw [hi0b]; omega))
    rw [Nat.zero_add] at h
    exact h
  have hGn : n ≤ grownCap w n 0 50 := grownCap_ge w _ _ _
  have hGm : grownCap w n 0 50 ≤ maxLen := grownCap_le_maxLen w n 0 _ (by unfold maxLen; omega)
  generalize grownCap w n 0 50 = G at hrz hGn hGm
  have hsz : (#[] ++ Builtin.zeroCells (Value.int .u64 0).cells n ++ Builtin.zeroCells (Value.int .u64 0).cells (G - n)).size = G * 1 := by
    rw [Array.size_append, Array.size_append, size_zeroCells, size_zeroCells]
    have e : (Value.int .u64 0).cells.size = 1 := rfl
    rw [e]
    simp
    omega
  generalize #[] ++ Builtin.zeroCells (Value.int .u64 0).cells n ++ Builtin.zeroCells (Value.int .u64 0).cells (G - n) = cs at hrz hsz
  have hG63 : G ≤ 9223372036854775807 := by unfold maxLen at hGm; omega
  clear hold hi0 hi0z hi0s hi0b
  have hown : (w.drew.alloc (.cells cs 50)).ownsRow w.heap.size 50 1 (.slice (some ⟨w.heap.size, 0, none⟩) 0 G) 0 [] :=
    ⟨rfl, .inr ⟨w.heap.size, G, cs, rfl, Nat.le_refl _, (MapKept.heap_alloc w.drew _).1, by omega, hGm, hsz, by simp⟩⟩
  have HOW := Lib.hid hown
  clear hown hsz hGm
  go_enter Try.func67, Try.ntmps67
  go_wp2_with (at_builtin; refine Lib.wpList_append_run _ rfl _ _ _ _ rfl _ _ rfl rfl _ _ (hrz _) ?_)
  go_ret
  exact ⟨G, rfl, HOW.out, (Below.refl _ _).drew.alloc (Nat.le_refl _) _⟩

theorem add_nospot (b o j : Nat) : (⟨b, o, none⟩ : Addr).add j = ⟨b, o + j, none⟩ := by unfold Addr.add; split <;> simp_all
/-- where a list of words lies, or that it is nil -/
theorem wds_cases {W : World} {a : Option Addr} {l : List Int} (h : WdsOf W a l) : l = [] ∨ ∃ b o, a = some ⟨b, o, none⟩ ∧ b < W.heap.size ∧ ∀ (j : Nat) (u : Value), (l.map (fun x => Value.int .u64 x))[j]? = some u → W.cell? ((⟨b, o, none⟩ : Addr).add j) = some u := by
  rcases h with h | ⟨b, o, rfl, hb, hc⟩
  · exact .inl (by simpa using h)
  · refine .inr ⟨b, o, rfl, hb, fun j u hj => ?_⟩
    obtain ⟨hjl, rfl⟩ := List.getElem?_eq_some_iff.1 hj
    rw [add_nospot]
    exact hc j hjl

set_option maxRecDepth 100000 in
set_option maxHeartbeats 3200000 in
theorem concat2_calls (g : Nat) (x y : Int) (b1 c1 : Nat) (a2 : Option Addr) (c2 : Nat) (l2 : List Int) (h8 : l2.length ≤ 20) (hn2 : a2 = none → l2.length = 0 ∧ c2 = 0) (w : World)
    (q0 : w.cell? ⟨g, 0, none⟩ = some (.slice (some ⟨b1, 0, none⟩) 2 c1)) (q1 : w.cell? ⟨g, 1, none⟩ = some (.slice a2 l2.length c2)) (h1 : WdsOf w (some ⟨b1, 0, none⟩) [x, y]) (h2 : WdsOf w a2 l2) :
    Calls Try.prog 42 #[.slice (some ⟨g, 0, none⟩) 2 2] w fun e w' => ∃ fa fc, e = .returned (.slice fa (2 + l2.length) fc) ∧ w'.ownsRow w.heap.size 50 1 (.slice fa (2 + l2.length) fc) (2 + l2.length) ((x :: y :: l2).map (fun x => Value.int .u64 x)) ∧ Below w.heap.size w w' := by
  have hg : g < w.heap.size := World.block_lt_of_cell? w _ q0
  obtain ⟨i0, hi0, hi0z, hi0s, hi0b⟩ := info_parts infoU64
  have G := fun W => grow_calls (2 + l2.length) (by omega) (by omega) W
  simp only [Int.natCast_add, Int.cast_ofNat_Int] at G
  have G := Lib.hid G
  have W1 := Lib.hid h1
  have W2 := Lib.hid h2
  clear h1 h2
  go_enter Try.func42, Try.ntmps42
  go_wp2_with fail
  go_loopw [3, 11] (fun sz iv wr => ((iv = .int .i64 0 ∧ sz = .int .i64 0) ∨ (iv = .int .i64 1 ∧ sz = .int .i64 2) ∨ (iv = .int .i64 2 ∧ sz = .int .i64 (2 + (l2.length : Int)))) ∧ w = wr) (fun _ iv _ => 2 - (intOf iv).toNat)
  case atStart => exact ⟨.inl ⟨rfl, rfl⟩, rfl⟩
  case round =>
    obtain ⟨hc, rfl⟩ := hrel
    rcases hc with ⟨rfl, rfl⟩ | ⟨rfl, rfl⟩ | ⟨rfl, rfl⟩
    · go_wp2_with fail
      go_roundw
      case rel => exact ⟨.inr (.inl ⟨rfl, rfl⟩), trivial⟩
      case measure => simp [intOf]
    · go_wp2_with fail
      go_roundw
      case rel => exact ⟨.inr (.inr ⟨rfl, rfl⟩), trivial⟩
      case measure => simp [intOf]
    · go_wp2_with fail
      refine (G.out _).mono ?_
      rintro e1 w1 ⟨gc, rfl, how1, hb1⟩
      have hz1 := hb1.size
      have HO := Lib.hid how1
      clear how1
      go_wp2_with fail
      go_loopw [6, 27] (fun out iv wr => ((iv = .int .i64 0 ∧ wr.ownsRow w.heap.size 50 1 out 0 []) ∨ (iv = .int .i64 1 ∧ wr.ownsRow w.heap.size 50 1 out 2 ([x, y].map (fun x => Value.int .u64 x))) ∨ (iv = .int .i64 2 ∧ wr.ownsRow w.heap.size 50 1 out (2 + l2.length) ((x :: y :: l2).map (fun x => Value.int .u64 x)))) ∧ Below w.heap.size w wr) (fun _ iv _ => 2 - (intOf iv).toNat)
      case atStart => exact ⟨.inl ⟨rfl, HO.out⟩, hb1⟩
      case round =>
        obtain ⟨hc, hBr⟩ := hrel
        have hzr := hBr.size
        have r0 := (hBr.cell (p := ⟨g, 0, none⟩) hg).trans q0
        have r1 := (hBr.cell (p := ⟨g, 1, none⟩) hg).trans q1
        rcases hc with ⟨rfl, hown⟩ | ⟨rfl, hown⟩ | ⟨rfl, hown⟩
        · obtain ⟨gf, gfc, rfl⟩ := owns_slice hown
          obtain ⟨bb, oo, eb, hbb, hnews⟩ : ∃ b o, some (⟨b1, 0, none⟩ : Addr) = some ⟨b, o, none⟩ ∧ b < wr.heap.size ∧ ∀ (j : Nat) (u : Value), ([x, y].map (fun x => Value.int .u64 x))[j]? = some u → wr.cell? ((⟨b, o, none⟩ : Addr).add j) = some u := by
            rcases wds_cases (show WdsOf wr (some ⟨b1, 0, none⟩) [x, y] from SlOf.below W1.out hBr) with h | h
            · cases h
            · exact h
          obtain ⟨rfl, rfl⟩ : b1 = bb ∧ 0 = oo := by simpa using eb
          go_wp2_with (at_builtin; go_loud (refine wpList_append_own _ rfl _ _ 25 rfl w.heap.size 50 i0 (.int .u64 0) 1 8 Try.underlying25 hi0 hi0z hi0s hi0b rfl (by decide) _ _ _ rfl hown ⟨b1, 0, none⟩ 2 c1 ([x, y].map (fun x => Value.int .u64 x)) rfl rfl hnews (fun u hu => by obtain ⟨x, _, rfl⟩ := List.mem_map.1 hu; rfl) (by unfold maxLen; omega) (by omega) (by omega) ?_; intro v' w3 hown' hgrow hnil))
          have hB3 : Below w.heap.size w w3 := hBr.grown hgrow hzr (fun j ej => (hown.lt j ej).1)
          go_roundw
          case rel => exact ⟨.inr (.inl ⟨rfl, hown'⟩), hB3⟩
          case measure => simp [intOf]
        · obtain ⟨gf, gfc, rfl⟩ := owns_slice hown
          rcases wds_cases (show WdsOf wr a2 l2 from SlOf.below W2.out hBr) with rfl | ⟨b2, o2, rfl, hbb, hnews⟩
          · cases a2 with
            | none =>
              obtain ⟨-, rfl⟩ := hn2 rfl
              go_wp2_with (at_builtin; go_loud (refine wpList_append_own_none rfl _ _ 25 rfl w.heap.size 50 i0 1 Try.underlying25 hi0 _ _ _ rfl hown rfl ?_))
              go_roundw
              case rel => exact ⟨_, _, _, .inr (.inr ⟨rfl, hown⟩), rfl, rfl, rfl⟩
              case measure => simp [intOf]
            | some ad =>
              go_wp2_with (at_builtin; go_loud (refine wpList_append_own _ rfl _ _ 25 rfl w.heap.size 50 i0 (.int .u64 0) 1 8 Try.underlying25 hi0 hi0z hi0s hi0b rfl (by decide) _ _ _ rfl hown ad 0 c2 (([] : List Int).map (fun x => Value.int .u64 x)) rfl rfl (fun j u hj => by simp at hj) (fun u hu => by obtain ⟨x, _, rfl⟩ := List.mem_map.1 hu; rfl) (by unfold maxLen; omega) (by omega) (by omega) ?_; intro v' w3 hown' hgrow hnil))
              have hB3 : Below w.heap.size w w3 := hBr.grown hgrow hzr (fun j ej => (hown.lt j ej).1)
              go_roundw
              case rel => first | exact ⟨.inr (.inr ⟨rfl, hown'⟩), hB3⟩ | exact ⟨_, _, _, ⟨.inr (.inr ⟨rfl, hown'⟩), hB3⟩, rfl, rfl, rfl⟩
              case measure => simp [intOf]
          · go_wp2_with (at_builtin; go_loud (refine wpList_append_own _ rfl _ _ 25 rfl w.heap.size 50 i0 (.int .u64 0) 1 8 Try.underlying25 hi0 hi0z hi0s hi0b rfl (by decide) _ _ _ rfl hown ⟨b2, o2, none⟩ l2.length c2 (l2.map (fun x => Value.int .u64 x)) rfl (by simp) hnews (fun u hu => by obtain ⟨x, _, rfl⟩ := List.mem_map.1 hu; rfl) (by unfold maxLen; omega) (by omega) (by omega) ?_; intro v' w3 hown' hgrow hnil))
            have hB3 : Below w.heap.size w w3 := hBr.grown hgrow hzr (fun j ej => (hown.lt j ej).1)
            go_roundw
            case rel => exact ⟨.inr (.inr ⟨rfl, hown'⟩), hB3⟩
            case measure => simp [intOf]
        · obtain ⟨gf, gfc, rfl⟩ := owns_slice hown
          go_wp2
          go_ret
          exact ⟨gf, gfc, rfl, hown, hBr⟩
end Go.Proofs.Ytiodkcecpnomcaa
