/- The reference of layer 'shape': the table of a text. -/
import Derived.Test.YtcdfhceohjhogaaDoorPieces
import Derived.Test.YtcdfhceohjhogaaDoorShapeRef2
import Derived.OwnWalk
namespace Go.Proofs.YtcdfhceohjhogaaDoor
open Go.RowKit
attribute [local go_sem] Oper.semAt_some

def pieceIn (s : ByteArray) (b k : Nat) : List UInt8 := (s.data.toList.drop b).take (k - b)
def ReadInv (s : ByteArray) (k b : Nat) (l : List (List UInt8)) : Prop :=
  (∀ x ∈ l, x ≠ []) ∧ l.length ≤ k ∧ ((k ≤ s.size ∧ b ≤ k ∧ (∀ c ∈ pieceIn s b k, c ≠ 32) ∧ piecesOf s = l ++ splitSp (s.data.toList.drop b)) ∨ (k = s.size + 1 ∧ b = k ∧ l = piecesOf s))
theorem inv_start (s : ByteArray) : ReadInv s 0 0 [] := ⟨by simp, by simp, .inl ⟨by omega, by omega, by simp [pieceIn], by simp [piecesOf]⟩⟩
theorem inv_skip {s : ByteArray} {k b : Nat} {l : List (List UInt8)} (h : ReadInv s k b l) (hk : k < s.size) (hc : s[k] ≠ 32) : ReadInv s (k + 1) b l := by
  obtain ⟨h1, h2, ⟨_, h3, h4, h5⟩ | ⟨h3, _⟩⟩ := h
  · refine ⟨h1, by omega, .inl ⟨by omega, by omega, ?_, h5⟩⟩
    intro c hm
    have e : pieceIn s b (k + 1) = pieceIn s b k ++ [s[k]] := by
      unfold pieceIn
      rw [show k + 1 - b = (k - b) + 1 from by omega, List.take_succ_eq_append_getElem (by simp; omega)]
      congr 2
      simp only [List.getElem_drop]
      have : b + (k - b) = k := by omega
      simp only [this]
      rfl
    rw [e] at hm
    rcases List.mem_append.1 hm with hm | hm
    · exact h4 c hm
    · obtain rfl : c = s[k] := by simpa using hm
      exact hc
  · omega
theorem inv_cut {s : ByteArray} {k b : Nat} {l : List (List UInt8)} (h : ReadInv s k b l) (hk : k ≤ s.size) (hc : ∀ h : k < s.size, s[k] = 32) :
    b ≤ k ∧ (pieceIn s b k = [] → readB s = false) ∧ (pieceIn s b k ≠ [] → ReadInv s (k + 1) (k + 1) (l ++ [pieceIn s b k])) := by
  obtain ⟨h1, h2, ⟨_, h3, h4, h5⟩ | ⟨h3, _⟩⟩ := h
  · have hsp : ∃ r, piecesOf s = l ++ pieceIn s b k :: r ∧ (k < s.size → r = splitSp (s.data.toList.drop (k + 1))) ∧ (k = s.size → r = []) := by
      by_cases hlt : k < s.size
      · refine ⟨splitSp (s.data.toList.drop (k + 1)), ?_, fun _ => rfl, fun e => by omega⟩
        rw [h5]
        congr 1
        have e1 : s.data.toList.drop b = pieceIn s b k ++ 32 :: s.data.toList.drop (k + 1) := by
          unfold pieceIn
          conv => lhs; rw [← List.take_append_drop (k - b) (s.data.toList.drop b)]
          congr 1
          rw [List.drop_drop, show b + (k - b) = k from by omega, List.drop_eq_getElem_cons (by simpa using hlt)]
          congr 1
          exact hc hlt
        rw [e1, splitSp_cut _ _ h4]
      · refine ⟨[], ?_, fun e => by omega, fun _ => rfl⟩
        rw [h5]
        congr 1
        have e1 : s.data.toList.drop b = pieceIn s b k := by
          unfold pieceIn
          rw [List.take_of_length_le (by simp; omega)]
        rw [e1]
        exact splitSp_end _ h4
    obtain ⟨r, hr, hr1, hr2⟩ := hsp
    refine ⟨h3, fun e => ?_, fun hne => ⟨?_, by simp; omega, ?_⟩⟩
    · cases hb : readB s with
      | false => rfl
      | true =>
        exfalso
        unfold readB at hb
        simp only [Bool.and_eq_true, decide_eq_true_eq] at hb
        exact hb.1.1 [] (by rw [hr, e]; simp) rfl
    · intro x hx
      rcases List.mem_append.1 hx with hx | hx
      · exact h1 x hx
      · obtain rfl : x = pieceIn s b k := by simpa using hx
        exact hne
    · by_cases hlt : k < s.size
      · refine .inl ⟨by omega, by omega, by simp [pieceIn], ?_⟩
        rw [hr, hr1 hlt]; simp
      · refine .inr ⟨by omega, rfl, ?_⟩
        rw [hr, hr2 (by omega)]
  · omega
theorem inv_end {s : ByteArray} {k b : Nat} {l : List (List UInt8)} (h : ReadInv s k b l) (hk : s.size < k) : l = piecesOf s ∧ readB s = tableB ((piecesOf s).map unDash) ∧ l.length ≤ s.size + 1 := by
  obtain ⟨h1, h2, ⟨h3, _⟩ | ⟨h3, _, h4⟩⟩ := h
  · omega
  · refine ⟨h4, ?_, by omega⟩
    unfold readB
    cases ht : tableB ((piecesOf s).map unDash) with
    | false => simp
    | true =>
      have := table_len ht
      simp only [List.length_map] at this
      simp only [Bool.and_true, decide_eq_true_eq]
      exact ⟨fun x hx => h1 x (h4 ▸ hx), this.2⟩

theorem piece_extract (s : ByteArray) (b k : Nat) : s.extract b k = ⟨(pieceIn s b k).toArray⟩ := by
  have h : (s.extract b k).data = (pieceIn s b k).toArray := by
    apply Array.ext'
    simp [pieceIn, List.extract_eq_take_drop]
  exact congrArg ByteArray.mk h

set_option maxRecDepth 100000 in
set_option maxHeartbeats 3200000 in
theorem refRead_calls (s : ByteArray) (hs : s.size ≤ maxLen) (w : World) :
    Calls Tryd.prog 45 #[.string s] w fun e w' => ∃ a c, e = .returned (.tuple #[.slice a (readL s).length c, .int .i64 (readE s)]) ∧ SlOf w' a (strV (readL s)) ∧ Below w.heap.size w w' := by
  obtain ⟨i0, hi, hi0, hi1, hi2⟩ := info_parts infoShape
  unfold maxLen at hs
  by_cases h200 : 200 < s.size
  · have hr : readB s = false := by
      cases h : readB s with
      | false => rfl
      | true => have := read_small s h; omega
    have e1 : readL s = [] := by unfold readL; rw [hr]; rfl
    have e2 : readE s = 2 := by unfold readE; rw [hr]; rfl
    rw [e1, e2]
    clear e1 e2 hr
    go_enter Tryd.func45, Tryd.ntmps45
    go_wp2
    go_ret2
    exact ⟨none, 0, rfl, .inl rfl, by (repeat (first | exact Below.refl _ _ | (with_reducible assumption) | refine Below.drew ?_ | refine Below.drewN' ?_ _ | refine Below.alloc ?_ (by first | omega | (simp; done) | (simp; omega)) _ | refine Below.setCell ?_ (by first | omega | (simp; done) | (simp; omega)) _ | refine Below.then ?_ hb9 (by first | omega | (simp; done) | (simp; omega)) | refine Below.then ?_ hb8 (by first | omega | (simp; done) | (simp; omega)) | refine Below.then ?_ hb7 (by first | omega | (simp; done) | (simp; omega)) | refine Below.then ?_ hb6 (by first | omega | (simp; done) | (simp; omega)) | refine Below.then ?_ hb5 (by first | omega | (simp; done) | (simp; omega)) | refine Below.then ?_ hb4 (by first | omega | (simp; done) | (simp; omega)) | refine Below.then ?_ hb3 (by first | omega | (simp; done) | (simp; omega)) | refine Below.then ?_ hb2 (by first | omega | (simp; done) | (simp; omega)) | refine Below.then ?_ hb1 (by first | omega | (simp; done) | (simp; omega))))⟩
  · go_enter Tryd.func45, Tryd.ntmps45
    go_wp2
    go_loopw [4, 5, 6, 7] (fun out b i x wr => ∃ (k bb : Nat) (l : List (List UInt8)), k ≤ s.size + 1 ∧ i = .int .i64 k ∧ b = .int .i64 bb ∧ Hid (ReadInv s k bb l) ∧ Below w.heap.size w wr ∧ wr.ownsRow w.heap.size 45 1 out l.length ((l.map unDash).map Value.string)) (fun _ _ i _ _ => s.size + 1 - (intOf i).toNat)
    case atStart => exact ⟨0, 0, [], by omega, rfl, rfl, Lib.hid (inv_start s), by (repeat (first | exact Below.refl _ _ | (with_reducible assumption) | refine Below.drew ?_ | refine Below.drewN' ?_ _ | refine Below.alloc ?_ (by first | omega | (simp; done) | (simp; omega)) _ | refine Below.setCell ?_ (by first | omega | (simp; done) | (simp; omega)) _ | refine Below.then ?_ hb9 (by first | omega | (simp; done) | (simp; omega)) | refine Below.then ?_ hb8 (by first | omega | (simp; done) | (simp; omega)) | refine Below.then ?_ hb7 (by first | omega | (simp; done) | (simp; omega)) | refine Below.then ?_ hb6 (by first | omega | (simp; done) | (simp; omega)) | refine Below.then ?_ hb5 (by first | omega | (simp; done) | (simp; omega)) | refine Below.then ?_ hb4 (by first | omega | (simp; done) | (simp; omega)) | refine Below.then ?_ hb3 (by first | omega | (simp; done) | (simp; omega)) | refine Below.then ?_ hb2 (by first | omega | (simp; done) | (simp; omega)) | refine Below.then ?_ hb1 (by first | omega | (simp; done) | (simp; omega)))), World.ownsRow_nil _ _ _ _⟩
    case round =>
      obtain ⟨k, bb, l, hk, rfl, rfl, hI, hBe, hown⟩ := hrel
      have hzB := hBe.size
      by_cases hle : k ≤ s.size
      · by_cases hlt : k < s.size
        · by_cases hc : s[k] = 32
          · have hcc : ((s[k].toNat : Int) != 32) = false := by rw [hc]; rfl
            obtain ⟨hbk, hbad, hgood⟩ := inv_cut hI.out hle (fun _ => hc)
            clear hc
            obtain ⟨a', c', rfl⟩ := ownsRow_val hown
            have hex := piece_extract s bb k
            have hll := hI.out.2.1
            generalize pieceIn s bb k = x at hbad hgood hex
            clear hI
            by_cases hx : x = []
            · have hr := hbad hx
              have e1 : readL s = [] := by unfold readL; rw [hr]; rfl
              have e2 : readE s = 2 := by unfold readE; rw [hr]; rfl
              subst hx
              have HE1 := Lib.hid e1
              have HE2 := Lib.hid e2
              clear hbad hgood e1 e2 hr
              go_wp2
              go_ret2
              exact ⟨none, 0, by rw [HE1.out, HE2.out]; rfl, by rw [HE1.out]; exact .inl rfl, by (repeat (first | exact Below.refl _ _ | (with_reducible assumption) | refine Below.drew ?_ | refine Below.drewN' ?_ _ | refine Below.alloc ?_ (by first | omega | (simp; done) | (simp; omega)) _ | refine Below.setCell ?_ (by first | omega | (simp; done) | (simp; omega)) _ | refine Below.then ?_ hb9 (by first | omega | (simp; done) | (simp; omega)) | refine Below.then ?_ hb8 (by first | omega | (simp; done) | (simp; omega)) | refine Below.then ?_ hb7 (by first | omega | (simp; done) | (simp; omega)) | refine Below.then ?_ hb6 (by first | omega | (simp; done) | (simp; omega)) | refine Below.then ?_ hb5 (by first | omega | (simp; done) | (simp; omega)) | refine Below.then ?_ hb4 (by first | omega | (simp; done) | (simp; omega)) | refine Below.then ?_ hb3 (by first | omega | (simp; done) | (simp; omega)) | refine Below.then ?_ hb2 (by first | omega | (simp; done) | (simp; omega)) | refine Below.then ?_ hb1 (by first | omega | (simp; done) | (simp; omega))))⟩
            · have HG' := Lib.hid (hgood hx)
              have hml : ((l ++ [x]).map unDash).map Value.string = (l.map unDash).map Value.string ++ [.string (unDash x)] := by simp
              have HM := Lib.hid hml
              have hne : x.isEmpty = false := by simpa using hx
              clear hbad hgood hml
              by_cases hd : x = [45]
              · subst hd
                have e : unDash [45] = ⟨#[]⟩ := by simp [unDash]
                rw [e] at HM
                clear e
                go_wp2_with (at_builtin; go_loud (refine wpList_append_own _ rfl _ _ 44 rfl w.heap.size 45 i0 (.string ByteArray.empty) 1 16 Tryd.underlying44 hi hi0 hi1 hi2 rfl (by decide) _ _ _ rfl (hown.alloc _) ⟨wr.heap.size, 0, none⟩ 1 1 [.string ⟨#[]⟩] rfl rfl (cell_one_new _ _ _) (fun x hx => by simp at hx; subst hx; rfl) (by unfold maxLen; omega) (by omega) (by simp; omega) ?_; intro v' w3 hown' hgrow hnil))
                have hB3 := (hBe.alloc (by omega) _).grown hgrow (by simp; omega) (fun j ej => (hown.lt j ej).1)
                go_roundw
                case rel => exact ⟨k + 1, k + 1, _, by omega, by go_num, by go_num, HG', hB3, by rw [HM.out, List.length_append]; exact hown'⟩
                case measure => simp [intOf]; omega
              · have e : unDash x = ⟨x.toArray⟩ := by simp [unDash, hd]
                have hdd : (x == [45]) = false := by simpa using hd
                rw [e] at HM
                clear e
                go_wp2_with (at_builtin; go_loud (refine wpList_append_own _ rfl _ _ 44 rfl w.heap.size 45 i0 (.string ByteArray.empty) 1 16 Tryd.underlying44 hi hi0 hi1 hi2 rfl (by decide) _ _ _ rfl (hown.alloc _) ⟨wr.heap.size, 0, none⟩ 1 1 [.string ⟨x.toArray⟩] rfl rfl (cell_one_new _ _ _) (fun x hx => by simp at hx; subst hx; rfl) (by unfold maxLen; omega) (by omega) (by simp; omega) ?_; intro v' w3 hown' hgrow hnil))
                have hB3 := (hBe.alloc (by omega) _).grown hgrow (by simp; omega) (fun j ej => (hown.lt j ej).1)
                go_roundw
                case rel => exact ⟨k + 1, k + 1, _, by omega, by go_num, by go_num, HG', hB3, by rw [HM.out, List.length_append]; exact hown'⟩
                case measure => simp [intOf]; omega
          · have HN := Lib.hid (inv_skip hI.out hlt hc)
            have hcc : ((s[k].toNat : Int) != 32) = true := by simp; intro e; exact hc (UInt8.toNat_inj.1 (by have : (32 : UInt8).toNat = 32 := rfl; omega))
            clear hI hc
            go_wp2
            go_roundw
            case rel => exact ⟨k + 1, bb, l, by omega, by go_num, rfl, HN, hBe, hown⟩
            case measure => simp [intOf]; omega
        · obtain rfl : k = s.size := by omega
          obtain ⟨hbk, hbad, hgood⟩ := inv_cut hI.out hle (fun h => by omega)
          obtain ⟨a', c', rfl⟩ := ownsRow_val hown
          have hex := piece_extract s bb s.size
          have hll := hI.out.2.1
          generalize pieceIn s bb s.size = x at hbad hgood hex
          clear hI
          by_cases hx : x = []
          · have hr := hbad hx
            have e1 : readL s = [] := by unfold readL; rw [hr]; rfl
            have e2 : readE s = 2 := by unfold readE; rw [hr]; rfl
            subst hx
            have HE1 := Lib.hid e1
            have HE2 := Lib.hid e2
            clear hbad hgood e1 e2 hr
            go_wp2
            go_ret2
            exact ⟨none, 0, by rw [HE1.out, HE2.out]; rfl, by rw [HE1.out]; exact .inl rfl, by (repeat (first | exact Below.refl _ _ | (with_reducible assumption) | refine Below.drew ?_ | refine Below.drewN' ?_ _ | refine Below.alloc ?_ (by first | omega | (simp; done) | (simp; omega)) _ | refine Below.setCell ?_ (by first | omega | (simp; done) | (simp; omega)) _ | refine Below.then ?_ hb9 (by first | omega | (simp; done) | (simp; omega)) | refine Below.then ?_ hb8 (by first | omega | (simp; done) | (simp; omega)) | refine Below.then ?_ hb7 (by first | omega | (simp; done) | (simp; omega)) | refine Below.then ?_ hb6 (by first | omega | (simp; done) | (simp; omega)) | refine Below.then ?_ hb5 (by first | omega | (simp; done) | (simp; omega)) | refine Below.then ?_ hb4 (by first | omega | (simp; done) | (simp; omega)) | refine Below.then ?_ hb3 (by first | omega | (simp; done) | (simp; omega)) | refine Below.then ?_ hb2 (by first | omega | (simp; done) | (simp; omega)) | refine Below.then ?_ hb1 (by first | omega | (simp; done) | (simp; omega))))⟩
          · have HG' := Lib.hid (hgood hx)
            have hml : ((l ++ [x]).map unDash).map Value.string = (l.map unDash).map Value.string ++ [.string (unDash x)] := by simp
            have HM := Lib.hid hml
            have hne : x.isEmpty = false := by simpa using hx
            clear hbad hgood hml
            by_cases hd : x = [45]
            · subst hd
              have e : unDash [45] = ⟨#[]⟩ := by simp [unDash]
              rw [e] at HM
              clear e
              go_wp2_with (at_builtin; go_loud (refine wpList_append_own _ rfl _ _ 44 rfl w.heap.size 45 i0 (.string ByteArray.empty) 1 16 Tryd.underlying44 hi hi0 hi1 hi2 rfl (by decide) _ _ _ rfl (hown.alloc _) ⟨wr.heap.size, 0, none⟩ 1 1 [.string ⟨#[]⟩] rfl rfl (cell_one_new _ _ _) (fun x hx => by simp at hx; subst hx; rfl) (by unfold maxLen; omega) (by omega) (by simp; omega) ?_; intro v' w3 hown' hgrow hnil))
              have hB3 := (hBe.alloc (by omega) _).grown hgrow (by simp; omega) (fun j ej => (hown.lt j ej).1)
              go_roundw
              case rel => exact ⟨s.size + 1, s.size + 1, _, by omega, rfl, rfl, HG', hB3, by rw [HM.out, List.length_append]; exact hown'⟩
              case measure => simp [intOf]
            · have e : unDash x = ⟨x.toArray⟩ := by simp [unDash, hd]
              have hdd : (x == [45]) = false := by simpa using hd
              rw [e] at HM
              clear e
              go_wp2_with (at_builtin; go_loud (refine wpList_append_own _ rfl _ _ 44 rfl w.heap.size 45 i0 (.string ByteArray.empty) 1 16 Tryd.underlying44 hi hi0 hi1 hi2 rfl (by decide) _ _ _ rfl (hown.alloc _) ⟨wr.heap.size, 0, none⟩ 1 1 [.string ⟨x.toArray⟩] rfl rfl (cell_one_new _ _ _) (fun x hx => by simp at hx; subst hx; rfl) (by unfold maxLen; omega) (by omega) (by simp; omega) ?_; intro v' w3 hown' hgrow hnil))
              have hB3 := (hBe.alloc (by omega) _).grown hgrow (by simp; omega) (fun j ej => (hown.lt j ej).1)
              go_roundw
              case rel => exact ⟨s.size + 1, s.size + 1, _, by omega, rfl, rfl, HG', hB3, by rw [HM.out, List.length_append]; exact hown'⟩
              case measure => simp [intOf]
      · obtain ⟨rfl, hrt, hll⟩ := inv_end hI.out (by omega)
        obtain rfl : k = s.size + 1 := by omega
        obtain ⟨a', c', rfl⟩ := ownsRow_val hown
        have hsl : SlOf wr a' (strV ((piecesOf s).map unDash)) := slOf_owns hown
        have hpl : (piecesOf s).length = ((piecesOf s).map unDash).length := by simp
        have hfit : Fit ((piecesOf s).map unDash) := by
          refine ⟨by simp; unfold maxLen; omega, fun x hx => ?_⟩
          obtain ⟨y, hy, rfl⟩ := List.mem_map.1 hx
          have h1 := split_le _ y hy
          have h2 : s.data.toList.length = s.size := by simp
          unfold unDash maxLen
          split
          · exact Nat.zero_le _
          · show y.toArray.size ≤ _
            rw [List.size_toArray]; omega
        have hrc := fun w h => refRight_calls a' c' ((piecesOf s).map unDash) hfit w h
        rw [← hpl] at hrc
        have HS := Lib.hid hsl
        cases ht : tableB ((piecesOf s).map unDash) with
        | true =>
          rw [ht] at hrt hrc
          have e2 : readE s = 0 := by simp [readE, hrt]
          have e3 : readL s = (piecesOf s).map unDash := by simp [readL, hrt]
          have HC := Lib.hid hrc
          have HE2 := Lib.hid e2
          have HE3 := Lib.hid e3
          clear hI hrt hrc ht e2 e3 hpl hsl hfit hown
          go_wp2_with fail
          refine (HC.out _ HS.out).mono ?_; rintro e1 w1 ⟨rfl, hb1⟩; have hz1 := hb1.size; (try simp at hz1)
          go_wp2
          go_ret2
          exact ⟨a', c', by rw [HE3.out, HE2.out, List.length_map]; rfl, by rw [HE3.out]; exact HS.out.below hb1, Below.then hBe hb1 hBe.size⟩
        | false =>
          rw [ht] at hrt hrc
          have e2 : readE s = 2 := by simp [readE, hrt]
          have e3 : readL s = [] := by simp [readL, hrt]
          have HC := Lib.hid hrc
          have HE2 := Lib.hid e2
          have HE3 := Lib.hid e3
          clear hI hrt hrc ht e2 e3 hpl hsl hfit hown
          go_wp2_with fail
          refine (HC.out _ HS.out).mono ?_; rintro e1 w1 ⟨rfl, hb1⟩; have hz1 := hb1.size; (try simp at hz1)
          go_wp2
          go_ret2
          exact ⟨none, 0, by rw [HE3.out, HE2.out]; rfl, by rw [HE3.out]; exact .inl rfl, Below.then hBe hb1 hBe.size⟩

end Go.Proofs.YtcdfhceohjhogaaDoor
