/- The statement WordSeals: words sealed, and plain, and addresses. -/
import Derived.Test.YtflomobdaagekaaDoorWordL
namespace Go.Proofs.YtflomobdaagekaaDoor
open Go.RowKit Go.Proofs.YtflomobdaagekaaDoorW.PrintWords
set_option linter.unusedVariables false
set_option linter.unusedSimpArgs false

theorem seal_f {x : Int} (h0 : 0 ≤ x) (h1 : x < 18446744073709551616) : Go.Proofs.YtflomobdaagekaaDoorQ.WordB.word_Seal.f x = some (if wdK x ≠ 0 ∧ wdK x ≠ 4 then (x - x % 2 + 1, 0) else (0, 2)) := by
  unfold Go.Proofs.YtflomobdaagekaaDoorQ.WordB.word_Seal.f Go.Proofs.YtflomobdaagekaaDoorQ.WordA.word_Seal.f
  have e1 : Go.Proofs.YtflomobdaagekaaDoorQ.WordA.word_of.f x = some (lookB x, wdK x) := by unfold Go.Proofs.YtflomobdaagekaaDoorQ.WordA.word_of.f; rw [if_pos h0, if_pos h1]
  rw [e1]
  simp only [Option.bind_some, Go.Proofs.YtflomobdaagekaaDoorQ.WordA.word_look_full.f]
  by_cases k : wdK x = 0
  · simp [k]
  · by_cases k4 : wdK x = 4
    · simp [k4]
    · simp [k, k4, or_one_u64 x h0 h1]
theorem strip_f {x : Int} (h0 : 0 ≤ x) (h1 : x < 18446744073709551616) : Go.Proofs.YtflomobdaagekaaDoorQ.WordB.word_Strip.f x = some (if wdK x ≠ 0 ∧ wdK x ≠ 4 then (x - x % 2, 0) else (0, 2)) := by
  unfold Go.Proofs.YtflomobdaagekaaDoorQ.WordB.word_Strip.f Go.Proofs.YtflomobdaagekaaDoorQ.WordA.word_Strip.f
  have e1 : Go.Proofs.YtflomobdaagekaaDoorQ.WordA.word_of.f x = some (lookB x, wdK x) := by unfold Go.Proofs.YtflomobdaagekaaDoorQ.WordA.word_of.f; rw [if_pos h0, if_pos h1]
  have hpl : Go.Proofs.YtflomobdaagekaaDoorQ.WordA.word_bits_plain.f x = some (wEven x) := by unfold Go.Proofs.YtflomobdaagekaaDoorQ.WordA.word_bits_plain.f; rw [if_pos h0, if_pos h1]
  rw [e1]
  simp only [Option.bind_some, Go.Proofs.YtflomobdaagekaaDoorQ.WordA.word_look_full.f]
  by_cases k : wdK x = 0
  · simp [k]
  · by_cases k4 : wdK x = 4
    · simp [k4]
    · have lb : lookB x = x := by simp [lookB, k]
      simp [k, k4, lb, hpl, wEven]
theorem addr_f {x : Int} (h0 : 0 ≤ x) (h1 : x < 18446744073709551616) : Go.Proofs.YtflomobdaagekaaDoorQ.WordB.word_Address.f x = some (if wdK x = 2 then (x / 8, true) else (0, false)) := by
  unfold Go.Proofs.YtflomobdaagekaaDoorQ.WordB.word_Address.f Go.Proofs.YtflomobdaagekaaDoorQ.WordA.word_Address.f
  have e1 : Go.Proofs.YtflomobdaagekaaDoorQ.WordA.word_of.f x = some (lookB x, wdK x) := by unfold Go.Proofs.YtflomobdaagekaaDoorQ.WordA.word_of.f; rw [if_pos h0, if_pos h1]
  have hhe : Go.Proofs.YtflomobdaagekaaDoorQ.WordA.word_bits_held.f x = some (x / 8) := by unfold Go.Proofs.YtflomobdaagekaaDoorQ.WordA.word_bits_held.f; rw [if_pos h0, if_pos h1]
  rw [e1]
  by_cases k : wdK x = 2
  · have lb : lookB x = x := by simp [lookB, k]
    have b := wdK_two k h0
    have w1 : wrap64 (x / 8) = x / 8 := w64 (by omega) (by omega)
    simp [k, lb, Go.Proofs.YtflomobdaagekaaDoorQ.WordA.word_look_value.f, hhe, w1]
  · simp [k]
theorem tmod_two {x : Int} (h0 : 0 ≤ x) : Int.tmod x 2 = x % 2 := Int.tmod_eq_emod_of_nonneg h0
theorem sealed_kind {x : Int} (hk : wdK x ≠ 0) (h4 : wdK x ≠ 4) : wdK (x - x % 2 + 1) = wdK x := by
  have hx : x ≠ 2 := fun e => h4 (by rw [e]; decide)
  have e : wEven (x - x % 2 + 1) = wEven x := by unfold wEven; omega
  unfold wdK
  rw [e, if_neg (by omega), if_neg hx]

open Go.Proofs.YtflomobdaagekaaDoorQ.WordB in
theorem wordSeals_law (l : List Int) (hl : l.length ≤ 60) (hw : ∀ x ∈ l, (Lit.int .u64 x).wf = true) : ∀ (d k i : Nat), l.length - i = d → i ≤ l.length → 2 * d + 1 ≤ k → lapidarylaw01_WordSeals.l0 k l (i : Int) = some true := by
  intro d
  induction d with
  | zero =>
    intro k i hd hi hk
    obtain ⟨k, rfl⟩ : ∃ m, k = m + 1 := ⟨k - 1, by omega⟩
    simp only [lapidarylaw01_WordSeals.l0]
    rw [if_neg (by omega), law01_works]
    rfl
  | succ d ih =>
    intro k i hd hi hk
    obtain ⟨k, rfl⟩ : ∃ m, k = m + 2 := ⟨k - 2, by omega⟩
    have hlt : i < l.length := by omega
    have hx := hw l[i] (List.getElem_mem hlt)
    obtain ⟨h0, h1⟩ := wf_u64 hx
    obtain ⟨_, o2⟩ := of_u64 hx
    have hwi : wrap64 ((i : Int) + 1) = (i : Int) + 1 := w64 (by omega) (by omega)
    have hih : lapidarylaw01_WordSeals.l0 k l ((i : Int) + 1) = some true := ih k (i + 1) (by omega) (by omega) (by omega)
    have hadr : lapidaryref01_Address.f l[i] = some (if wdK l[i] = 2 then l[i] / 8 else 0) := by
      unfold lapidaryref01_Address.f
      rw [o2]
      by_cases k2 : wdK l[i] = 2
      · simp [k2, wdV_two k2 h0]
      · simp [k2]
    have hhold : lapidaryref01_Holds.f l[i] = some (decide (wdK l[i] ≠ 0 ∧ wdK l[i] ≠ 4)) := by
      unfold lapidaryref01_Holds.f
      rw [o2]
      simp only [Option.bind_some]
      rcases wdK_cases l[i] with q | q | q | q | q <;> simp [q]
    have t2 := tmod_two h0
    have hseal : lapidaryref01_Seal.f l[i] = some (l[i] - l[i] % 2 + 1) := by
      unfold lapidaryref01_Seal.f
      have e1 : IntKind.u64.wrap (l[i] - l[i] % 2) = l[i] - l[i] % 2 := wrapU (by omega) (by omega)
      rw [t2, e1, wrapU (by omega) (by omega)]
    have hstrip : lapidaryref01_Strip.f l[i] = some (l[i] - l[i] % 2) := by
      unfold lapidaryref01_Strip.f
      rw [t2, wrapU (by omega) (by omega)]
    simp only [lapidarylaw01_WordSeals.l0]
    rw [if_pos (by omega), if_pos (by omega), rd_get l i hlt, seal_f h0 h1, strip_f h0 h1, addr_f h0 h1, hadr]
    simp only [Option.bind_some]
    have hx51 : (if wdK l[i] = 2 then (l[i] / 8, true) else ((0 : Int), false)).1 = (if wdK l[i] = 2 then l[i] / 8 else 0) := by split <;> rfl
    rw [if_pos hx51]
    have hflag : ((if wdK l[i] = 2 then (l[i] / 8, true) else ((0 : Int), false)).2 != (decide ((if wdK l[i] = 2 then (l[i] / 8, true) else ((0 : Int), false)).1 > 0))) = false := by
      by_cases k2 : wdK l[i] = 2
      · have b := wdK_two k2 h0
        rw [if_pos k2]
        simp; omega
      · rw [if_neg k2]; rfl
    rw [hflag]
    simp only [lapidarylaw01_WordSeals.j1]
    rw [if_neg (by decide), hhold]
    simp only [Option.bind_some]
    by_cases hf : wdK l[i] ≠ 0 ∧ wdK l[i] ≠ 4
    · have hsk := sealed_kind hf.1 hf.2
      have s0 : 0 ≤ l[i] - l[i] % 2 + 1 := by omega
      have s1 : l[i] - l[i] % 2 + 1 < 18446744073709551616 := by omega
      rw [if_pos (by simpa using hf), if_pos hf, if_pos hf]
      simp only
      rw [strip_f s0 s1, hsk, if_pos hf, hseal]
      simp only [Option.bind_some, if_true]
      rw [hstrip]
      simp only [Option.bind_some, if_true]
      have e : l[i] - l[i] % 2 + 1 - (l[i] - l[i] % 2 + 1) % 2 = l[i] - l[i] % 2 := by omega
      rw [if_pos e, if_neg (by omega)]
      simp [lapidarylaw01_num.f, wrap64, hwi, hih]
    · rw [if_neg (by simpa using hf), if_neg hf, if_neg hf]
      simp [lapidarylaw01_num.f, hwi, hih]

open Go.Proofs.YtflomobdaagekaaDoorQ.WordB in
theorem wordSeals_pure (l : List Int) (hw : ∀ x ∈ l, (Lit.int .u64 x).wf = true) : ∃ k, lapidarylaw01_WordSeals.f k l = some true := by
  by_cases hl : (l.length : Int) > 60
  · exact ⟨0, by unfold lapidarylaw01_WordSeals.f; rw [if_pos hl, law01_works]; rfl⟩
  · exact ⟨2 * l.length + 1, by unfold lapidarylaw01_WordSeals.f; rw [if_neg hl]; exact wordSeals_law l (by omega) hw l.length _ 0 (by omega) (by omega) (by omega)⟩
theorem wordSeals_walk (w : World) (a : Option Addr) (c : Nat) (zs : List Int) (hl : zs.length ≤ maxLen ∧ zs.length ≤ c) (hs : SlOf w a (zs.map (.int .u64))) (hw : ∀ z ∈ zs, (Lit.int .u64 z).wf = true) (hT : WOk w) :
    Calls Tryd.prog 9 #[.slice a zs.length c] w fun e w' => e = .returned (.bool true) ∧ Below w.heap.size w w' := by
  obtain ⟨k, hk⟩ := wordSeals_pure zs hw
  exact Go.Proofs.YtflomobdaagekaaDoorQ.WordB.lapidarylaw01_WordSeals.calls k a c zs true w (kd_u64 hl.1 hs) hl.2 hk hT

end Go.Proofs.YtflomobdaagekaaDoor
