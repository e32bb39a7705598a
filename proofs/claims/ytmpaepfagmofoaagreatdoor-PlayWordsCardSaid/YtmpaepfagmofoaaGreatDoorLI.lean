/- Numbers: a mask, a remainder made positive. -/
import Derived.Test.YtmpaepfagmofoaaGreatDoorGN
set_option linter.all false
namespace Go.G
open Go Go.Ax
variable {H : HeapI}

theorem wrap_small {x : Int} (h1 : -9223372036854775808 ≤ x) (h2 : x ≤ 9223372036854775807) : IntKind.wrap .i64 x = x := by
  have e1 : ((2 : Int) ^ 64) = 18446744073709551616 := by decide
  have e2 : ((2 : Int) ^ (64 - 1)) = 9223372036854775808 := by decide
  simp only [IntKind.wrap, IntKind.bits, IntKind.signed, e1, e2, Bool.true_and, decide_eq_true_eq]
  split <;> omega

theorem rem_add_rem {β : Type} (t n : Int) (hn : 0 < n) (hn2 : n ≤ 1000) (k : Value → Option β) :
    (bindV (abin .rem (I t) (I n)) fun x => bindV (abin .add x (I n)) fun y => bindV (abin .rem y (I n)) k) = k (I ((t.tmod n + n).tmod n)) := by
  have h0 : ¬ (n = 0) := by omega
  have h1 := Int.tmod_lt_of_pos t hn
  have h2 : -n < t.tmod n := Int.lt_tmod_of_pos t hn
  have e1 : abin .rem (I t) (I n) = some (I (t.tmod n)) := by
    show (if n = 0 then none else some _) = _
    rw [if_neg h0]
  have e2 : abin .add (I (t.tmod n)) (I n) = some (I (t.tmod n + n)) := by
    show some (Value.int .i64 (IntKind.wrap .i64 (t.tmod n + n))) = _
    rw [wrap_small (by omega) (by omega)]
  have e3 : abin .rem (I (t.tmod n + n)) (I n) = some (I ((t.tmod n + n).tmod n)) := by
    show (if n = 0 then none else some _) = _
    rw [if_neg h0]
  rw [e1]; show (bindV (abin .add (I (t.tmod n)) (I n)) fun y => bindV (abin .rem y (I n)) k) = _
  rw [e2]; show bindV (abin .rem (I (t.tmod n + n)) (I n)) k = _
  rw [e3]; rfl

/-- the low bits of a number: some number of that many bits has them, too -/
theorem and_mask (w : Int) (k : Nat) (hk : k ≤ 32) : ∃ b : Nat, b < 2 ^ k ∧ abin .and (I w) (I ((2 ^ k - 1 : Nat) : Int)) = abin .and (I b) (I ((2 ^ k - 1 : Nat) : Int)) := by
  refine ⟨(BitVec.ofInt 64 w).toNat % 2 ^ k, Nat.mod_lt _ (Nat.two_pow_pos k), ?_⟩
  have key : ∀ x : BitVec 64, (x &&& BitVec.ofInt 64 ((2 ^ k - 1 : Nat) : Int)).toNat = x.toNat % 2 ^ k := fun x => by
    have hp : 2 ^ k ≤ 2 ^ 32 := Nat.pow_le_pow_right (by omega) hk
    have h1 : (BitVec.ofInt 64 ((2 ^ k - 1 : Nat) : Int)).toNat = 2 ^ k - 1 := by
      rw [BitVec.ofInt_natCast, BitVec.toNat_ofNat, Nat.mod_eq_of_lt (by omega)]
    rw [BitVec.toNat_and, h1, Nat.and_two_pow_sub_one_eq_mod]
  show some (Value.int .i64 (IntKind.wrap .i64 ((BitVec.ofInt 64 w &&& BitVec.ofInt 64 ((2 ^ k - 1 : Nat) : Int)).toNat : Int))) = some (Value.int .i64 (IntKind.wrap .i64 ((BitVec.ofInt 64 (((BitVec.ofInt 64 w).toNat % 2 ^ k : Nat) : Int) &&& BitVec.ofInt 64 ((2 ^ k - 1 : Nat) : Int)).toNat : Int)))
  have hp : 2 ^ k ≤ 2 ^ 32 := Nat.pow_le_pow_right (by omega) hk
  have hl := Nat.mod_lt (BitVec.ofInt 64 w).toNat (Nat.two_pow_pos k)
  rw [key, key, BitVec.ofInt_natCast, BitVec.toNat_ofNat, Nat.mod_eq_of_lt (show (BitVec.ofInt 64 w).toNat % 2 ^ k < 2 ^ 64 by omega), Nat.mod_mod]

/-- so many cases, one by one -/
def allB (p : Nat → Bool) : Nat → Bool
  | 0 => true
  | n + 1 => p n && allB p n
theorem allB_true {p : Nat → Bool} : ∀ {n : Nat}, allB p n = true → ∀ {b : Nat}, b < n → p b = true
  | n + 1, h, b, hb => by
    unfold allB at h
    rw [Bool.and_eq_true] at h
    by_cases e : b = n
    · subst e; exact h.1
    · exact allB_true h.2 (by omega)
end Go.G

