/- The layer 'word': its kinds, and what a word is. -/
import Derived.Test.YtafenndokmccoaaWd
import Derived.LoopTactic
import Derived.Lib.QuoteBits
import Derived.Deep.MidRow
namespace Go.Proofs.Ytafenndokmccoaa
open Go.RowKit
set_option linter.unusedVariables false
set_option linter.unusedSimpArgs false

theorem wrap_u64_small (n : Nat) (h : n < 18446744073709551616) : IntKind.u64.wrap (n : Int) = (n : Int) := by
  have e : (n : Int) % 2 ^ 64 = n := Int.emod_eq_of_lt (by omega) (by omega)
  simp only [IntKind.wrap, IntKind.bits, IntKind.signed, e]
  rw [if_neg]
  simp
theorem andNot_one_u64 (x : Int) (h0 : 0 ≤ x) (h1 : x < 18446744073709551616) : bits .andNot .u64 x 1 = x - x % 2 := by
  obtain ⟨i, rfl⟩ := Int.eq_ofNat_of_zero_le h0
  have h : bits .andNot .u64 (i : Int) 1 = ((i / 2 * 2 : Nat) : Int) := by
    show IntKind.u64.wrap ((BitVec.ofInt 64 (i : Int) &&& ~~~BitVec.ofInt 64 ((1 : Nat) : Int)).toNat : Int) = _
    rw [BitVec.toNat_and, BitVec.toNat_not, ofInt_u64 i (by omega), ofInt_u64 1 (by omega)]
    have e : 2 ^ 64 - 1 - 1 = 18446744073709551614 := by decide
    rw [e, nat_hi64_1, Nat.mod_eq_of_lt (by omega)]
    exact wrap_u64_small _ (by omega)
  rw [h]
  omega
theorem or_one_u64 (x : Int) (h0 : 0 ≤ x) (h1 : x < 18446744073709551616) : bits .or .u64 x 1 = x - x % 2 + 1 := by
  obtain ⟨i, rfl⟩ := Int.eq_ofNat_of_zero_le h0
  have h : bits .or .u64 (i : Int) 1 = ((i / 2 * 2 + 1 : Nat) : Int) := by
    show IntKind.u64.wrap ((BitVec.ofInt 64 (i : Int) ||| BitVec.ofInt 64 ((1 : Nat) : Int)).toNat : Int) = _
    rw [BitVec.toNat_or, ofInt_u64 i (by omega), ofInt_u64 1 (by omega), Lib.or_one_nat]
    exact wrap_u64_small _ (by omega)
  rw [h]
  omega

theorem wplain_calls (x : Int) (h0 : 0 ≤ x) (h1 : x < 18446744073709551616) (w : World) :
    Calls Try.prog 132 #[.int .u64 x] w fun e w' => e = .returned (.int .u64 (wEven x)) ∧ w = w' := by
  have hb := andNot_one_u64 x h0 h1
  go_enter Try.func132, Try.ntmps132
  go_wp2
  go_ret
  exact ⟨rfl, rfl⟩

theorem wheld_calls (x : Int) (h0 : 0 ≤ x) (h1 : x < 18446744073709551616) (w : World) :
    Calls Try.prog 149 #[.int .u64 x] w fun e w' => e = .returned (.int .u64 (x / 8)) ∧ w = w' := by
  go_enter Try.func149, Try.ntmps149
  go_wp2
  go_ret
  exact ⟨rfl, rfl⟩

/-- the rows of kinds, as they are built -/
def rowsV : Array Value := #[.string ⟨#[98, 97, 100]⟩, .func (.func 152) #[] #[], .int .i64 0, .int .i64 0, .nilFunc,
  .string ⟨#[110, 117, 108, 108]⟩, .func (.func 153) #[] #[], .int .i64 0, .int .i64 0, .func (.func 154) #[] #[],
  .string ⟨#[]⟩, .func (.func 155) #[] #[], .int .i64 1, .int .i64 16777215, .func (.func 156) #[] #[],
  .string ⟨#[]⟩, .func (.func 157) #[] #[], .int .i64 (-576460752303423488), .int .i64 576460752303423487, .func (.func 158) #[] #[],
  .string ⟨#[101, 109, 112, 116, 121]⟩, .func (.func 159) #[] #[], .int .i64 0, .int .i64 0, .func (.func 160) #[] #[]]

theorem info_row5 : (Try.prog.info? 215).map (·.size) = some 25 := by kernel_rfl
theorem rowsV_size : rowsV.size = 25 := by simp [rowsV]
theorem rowsV_one : rowsV.all (·.oneCell') = true := by simp [rowsV, Value.oneCell']
theorem below_cells {B : Nat} {a : World} (b : Nat) (hb : B ≤ b) : ∀ (vs : List Value) (o : Nat) {w : World}, Below B a w → Below B a (w.setCells b o vs)
  | [], _, _, h => h
  | v :: r, o, _, h => below_cells b hb r (o + 1) (h.setCell (p := ⟨b, o, none⟩) hb v)
theorem there_new (w : World) (cs : Array Value) (t : TypeId) (n : Nat) (hn : n ≤ cs.size) : (w.alloc (.cells cs t (0, 0))).there w.heap.size 0 n := by
  intro j hj
  have hb : (w.alloc (.cells cs t (0, 0))).heap[w.heap.size]? = some (.cells cs t (0, 0)) := (MapKept.heap_alloc w _).1
  constructor
  · simp only [World.cell?, hb]; simp; omega
  · simp only [World.frozen?, hb]; simp

theorem results_cell {P : Program} {fn : Func} {t : Tmp} {ty : TypeId} {tmps : Array Value} {w : World} {a : Addr} {v : Value} (h : fn.results = #[.cell t ty]) (hp : tmps.getD t undef = .pointer (some a))
    (hl : (loadVar ty a).run P w = .ok v w) : (results fn tmps).run P w = .ok v w := by
  simp [results, h]
  rw [Array.getD_eq_getD_getElem?] at hp
  have ha : (asAddr (.pointer (some a))).run P w = .ok a w := rfl
  simp only [hp, ha]
  exact hl

set_option maxRecDepth 100000 in
set_option maxHeartbeats 1600000 in
theorem rows_calls (w : World) : Calls Try.prog 135 #[] w fun e w' => e = .returned (.agg rowsV) ∧ Below w.heap.size w w' := by
  go_enter Try.func135, Try.ntmps135
  go_wp2_with ((refine wpList_store_mid ?g 215 (.tmp 0) (.tmp 6) ?ho w.heap.size 0 rowsV ?hx ?hy ?ht ?hi rowsV_one ?rest); (case g => rfl); (case ho => rfl); (case hx => rfl); (case hy => rfl); (case ht => exact there_new _ _ _ _ (by rw [rowsV_size]; simp)); (case hi => rw [info_row5, rowsV_size]))
  go_wp2_with fail
  refine bodyPost_ret (v := .agg rowsV) (results_cell (a := ⟨w.heap.size, 0, none⟩) rfl ?hp ?hl) rfl ⟨rfl, below_cells _ (Nat.le_refl _) _ _ ((Below.refl _ _).alloc (Nat.le_refl _) _)⟩
  case hp => rfl
  case hl =>
    have ht := there_new w #[.string ⟨#[]⟩, .nilFunc, .int .i64 0, .int .i64 0, .nilFunc, .string ⟨#[]⟩, .nilFunc, .int .i64 0, .int .i64 0, .nilFunc, .string ⟨#[]⟩, .nilFunc, .int .i64 0, .int .i64 0, .nilFunc, .string ⟨#[]⟩, .nilFunc, .int .i64 0, .int .i64 0, .nilFunc, .string ⟨#[]⟩, .nilFunc, .int .i64 0, .int .i64 0, .nilFunc] 215 25 (by simp)
    exact run_loadVar_mid _ _ 0 _ rowsV.toList _ (World.rangeAt_setCells_same _ _ 0 rowsV.toList (by rw [Array.length_toList, rowsV_size]; exact ht)) Try.underlying215 rfl (by rw [Array.length_toList, rowsV_size, info_row5])

def row0 : Array Value := #[.string ⟨#[98, 97, 100]⟩, .func (.func 152) #[] #[], .int .i64 0, .int .i64 0, .nilFunc]
def row1 : Array Value := #[.string ⟨#[110, 117, 108, 108]⟩, .func (.func 153) #[] #[], .int .i64 0, .int .i64 0, .func (.func 154) #[] #[]]
def row2 : Array Value := #[.string ⟨#[]⟩, .func (.func 155) #[] #[], .int .i64 1, .int .i64 16777215, .func (.func 156) #[] #[]]
def row3 : Array Value := #[.string ⟨#[]⟩, .func (.func 157) #[] #[], .int .i64 (-576460752303423488), .int .i64 576460752303423487, .func (.func 158) #[] #[]]
def row4 : Array Value := #[.string ⟨#[101, 109, 112, 116, 121]⟩, .func (.func 159) #[] #[], .int .i64 0, .int .i64 0, .func (.func 160) #[] #[]]
theorem index_row0 (W : World) : (Instr.index 215 (.agg rowsV) (.int .i64 0)).run Try.prog W = .ok (.agg row0) W := by kernel_rfl
theorem index_row1 (W : World) : (Instr.index 215 (.agg rowsV) (.int .i64 1)).run Try.prog W = .ok (.agg row1) W := by kernel_rfl
theorem index_row2 (W : World) : (Instr.index 215 (.agg rowsV) (.int .i64 2)).run Try.prog W = .ok (.agg row2) W := by kernel_rfl
theorem index_row3 (W : World) : (Instr.index 215 (.agg rowsV) (.int .i64 3)).run Try.prog W = .ok (.agg row3) W := by kernel_rfl
theorem index_row4 (W : World) : (Instr.index 215 (.agg rowsV) (.int .i64 4)).run Try.prog W = .ok (.agg row4) W := by kernel_rfl

end Go.Proofs.Ytafenndokmccoaa
