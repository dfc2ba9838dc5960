/- Arithmetic of bits, as the program's operations have it. -/
import Derived.Test.YtoimlfaiibadgaaDoorAbsA
set_option linter.unusedSimpArgs false
set_option linter.unusedVariables false
set_option linter.all false
namespace Go.Proofs.YtoimlfaiibadgaaDoor
open Go Go.Abs

theorem b_lss (k : IntKind) (a b : Int) : binInt .lss k a b = some (.bool (decide (a < b))) := id rfl
theorem b_leq (k : IntKind) (a b : Int) : binInt .leq k a b = some (.bool (decide (a ≤ b))) := id rfl
theorem b_geq (k : IntKind) (a b : Int) : binInt .geq k a b = some (.bool (decide (a ≥ b))) := id rfl
theorem b_gtr (k : IntKind) (a b : Int) : binInt .gtr k a b = some (.bool (decide (a > b))) := id rfl
theorem b_eql (k : IntKind) (a b : Int) : binInt .eql k a b = some (.bool (a == b)) := id rfl
theorem b_neq (k : IntKind) (a b : Int) : binInt .neq k a b = some (.bool (a != b)) := id rfl
theorem b_add (k : IntKind) (a b : Int) : binInt .add k a b = some (.int k (k.wrap (a + b))) := id rfl
theorem b_sub (k : IntKind) (a b : Int) : binInt .sub k a b = some (.int k (k.wrap (a - b))) := id rfl
theorem b_some (op : BinOp) (k : IntKind) (h : op = .and ∨ op = .or ∨ op = .andNot) : ∃ g : Int → Int → Int, ∀ a b, binInt op k a b = some (.int k (g a b)) := by
  rcases h with rfl | rfl | rfl <;> exact ⟨_, fun a b => rfl⟩
theorem shl_some (b : Int) (hb : ¬ b < 0) : ∃ g : Int → Int, ∀ a, shiftInt .shl .i32 a b = some (.int .i32 (g a)) := ⟨fun a => IntKind.i32.wrap (a * 2 ^ (min b.toNat IntKind.i32.bits)), fun a => by unfold shiftInt; rw [if_neg hb]⟩
theorem shr_some (b : Int) (hb : ¬ b < 0) : ∃ g : Int → Int, ∀ a, shiftInt .shr .i32 a b = some (.int .i32 (g a)) := ⟨fun a => a.fdiv (2 ^ (min b.toNat IntKind.i32.bits)), fun a => by unfold shiftInt; rw [if_neg hb]⟩

theorem ofInt_nat (w a : Nat) : BitVec.ofInt w (a : Int) = BitVec.ofNat w a := by
  apply BitVec.eq_of_toNat_eq
  simp [BitVec.toNat_ofInt]

theorem w64n (a : Nat) (h : a < 9223372036854775808) : IntKind.i64.wrap (a : Int) = a := by
  have h1 : ((a : Int) % 2 ^ 64) = a := Int.emod_eq_of_lt (by omega) (by omega)
  have h2 : ¬ ((a : Int) ≥ 2 ^ (64 - 1)) := by omega
  simp only [IntKind.wrap, IntKind.signed, IntKind.bits, h1, h2, decide_false, Bool.and_false, Bool.false_eq_true, if_false]

theorem u8w (a : Nat) (h : a < 256) : IntKind.u8.wrap (a : Int) = a := by
  have h1 : ((a : Int) % 2 ^ 8) = a := Int.emod_eq_of_lt (by omega) (by omega)
  simp only [IntKind.wrap, IntKind.signed, IntKind.bits, h1, Bool.false_and, Bool.false_eq_true, if_false]

theorem b_and (k : IntKind) (a b : Nat) : binInt .and k (a : Int) (b : Int) = some (.int k (k.wrap (((a % 2 ^ k.bits) &&& (b % 2 ^ k.bits) : Nat) : Int))) := by
  have : binInt .and k (a : Int) (b : Int) = some (.int k (k.wrap ((BitVec.ofInt k.bits (a : Int) &&& BitVec.ofInt k.bits (b : Int)).toNat : Nat))) := rfl
  rw [this, ofInt_nat, ofInt_nat, BitVec.toNat_and, BitVec.toNat_ofNat, BitVec.toNat_ofNat]
theorem b_or (k : IntKind) (a b : Nat) : binInt .or k (a : Int) (b : Int) = some (.int k (k.wrap (((a % 2 ^ k.bits) ||| (b % 2 ^ k.bits) : Nat) : Int))) := by
  have : binInt .or k (a : Int) (b : Int) = some (.int k (k.wrap ((BitVec.ofInt k.bits (a : Int) ||| BitVec.ofInt k.bits (b : Int)).toNat : Nat))) := rfl
  rw [this, ofInt_nat, ofInt_nat, BitVec.toNat_or, BitVec.toNat_ofNat, BitVec.toNat_ofNat]

theorem and31 (b : Nat) (hb : b < 256) : binInt .and .i64 (b : Int) 31 = some (.int .i64 ((b % 32 : Nat) : Int)) := by
  have := b_and .i64 b 31
  rw [show IntKind.i64.bits = 64 from rfl, Nat.mod_eq_of_lt (a := b) (show b < 2 ^ 64 by omega), Nat.mod_eq_of_lt (a := 31) (show 31 < 2 ^ 64 by omega), Nat.and_two_pow_sub_one_eq_mod b 5, w64n _ (by omega)] at this
  exact this
theorem and15 (b : Nat) (hb : b < 256) : binInt .and .i64 (b : Int) 15 = some (.int .i64 ((b % 16 : Nat) : Int)) := by
  have := b_and .i64 b 15
  rw [show IntKind.i64.bits = 64 from rfl, Nat.mod_eq_of_lt (a := b) (show b < 2 ^ 64 by omega), Nat.mod_eq_of_lt (a := 15) (show 15 < 2 ^ 64 by omega), Nat.and_two_pow_sub_one_eq_mod b 4, w64n _ (by omega)] at this
  exact this
theorem and7 (b : Nat) (hb : b < 256) : binInt .and .i64 (b : Int) 7 = some (.int .i64 ((b % 8 : Nat) : Int)) := by
  have := b_and .i64 b 7
  rw [show IntKind.i64.bits = 64 from rfl, Nat.mod_eq_of_lt (a := b) (show b < 2 ^ 64 by omega), Nat.mod_eq_of_lt (a := 7) (show 7 < 2 ^ 64 by omega), Nat.and_two_pow_sub_one_eq_mod b 3, w64n _ (by omega)] at this
  exact this
theorem and63u (b : Nat) (hb : b < 256) : binInt .and .u8 (b : Int) 63 = some (.int .u8 ((b % 64 : Nat) : Int)) := by
  have := b_and .u8 b 63
  rw [show IntKind.u8.bits = 8 from rfl, Nat.mod_eq_of_lt (a := b) (show b < 2 ^ 8 by omega), Nat.mod_eq_of_lt (a := 63) (show 63 < 2 ^ 8 by omega), Nat.and_two_pow_sub_one_eq_mod b 6, u8w _ (by omega)] at this
  exact this

set_option maxRecDepth 100000 in
--
theorem land192 : ∀ b : Fin 256, b.val &&& 192 = b.val / 64 * 64 := by decide

theorem and192u (b : Nat) (hb : b < 256) : binInt .and .u8 (b : Int) 192 = some (.int .u8 ((b / 64 * 64 : Nat) : Int)) := by
  have := b_and .u8 b 192
  rw [show IntKind.u8.bits = 8 from rfl, Nat.mod_eq_of_lt (a := b) (show b < 2 ^ 8 by omega), Nat.mod_eq_of_lt (a := 192) (show 192 < 2 ^ 8 by omega), land192 ⟨b, hb⟩, u8w _ (by dsimp only; omega)] at this
  exact this

theorem shl6 (c : Nat) (hc : c < 1099511627776) : shiftInt .shl .i64 (c : Int) 6 = some (.int .i64 ((c * 64 : Nat) : Int)) := by
  have h : shiftInt .shl .i64 (c : Int) 6 = some (.int .i64 (IntKind.i64.wrap ((c : Int) * 2 ^ 6))) := rfl
  have : (c : Int) * 2 ^ 6 = ((c * 64 : Nat) : Int) := by omega
  rw [h, this, w64n _ (by omega)]

theorem or6 (c x : Nat) (hc : c < 1099511627776) (hx : x < 64) : binInt .or .i64 ((c * 64 : Nat) : Int) (x : Int) = some (.int .i64 ((c * 64 + x : Nat) : Int)) := by
  have := b_or .i64 (c * 64) x
  have e := Nat.shiftLeft_add_eq_or_of_lt (i := 6) (b := x) (by omega) c
  rw [Nat.shiftLeft_eq] at e
  rw [show IntKind.i64.bits = 64 from rfl, Nat.mod_eq_of_lt (a := c * 64) (show c * 64 < 2 ^ 64 by omega), Nat.mod_eq_of_lt (a := x) (show x < 2 ^ 64 by omega), ← e, w64n _ (by omega)] at this
  exact this

end Go.Proofs.YtoimlfaiibadgaaDoor
