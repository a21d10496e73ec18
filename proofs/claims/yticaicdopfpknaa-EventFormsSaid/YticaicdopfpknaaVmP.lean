/- Plain numbers: masks, wraps. No program in it. -/
import Derived.Laws.Entries
import Derived.Laws.BitsLemmas
import Derived.IntWalk
namespace Go.Proofs.Yticaicdopfpknaa.Vm
open Go

theorem and_mask (n : Int) (j : Nat) (hj : j ≤ 62) : bits .and .i64 n ((2 ^ j - 1 : Nat) : Int) = n % ((2 ^ j : Nat) : Int) := by
  have hp : 0 < 2 ^ j := Nat.two_pow_pos j
  have h62 : 2 ^ j ≤ 2 ^ 62 := Nat.pow_le_pow_right (by omega) hj
  have hm : (BitVec.ofInt 64 ((2 ^ j - 1 : Nat) : Int)).toNat = 2 ^ j - 1 := by
    rw [BitVec.toNat_ofInt]
    have : (((2 ^ j - 1 : Nat) : Int) % ((2 ^ 64 : Nat) : Int)).toNat = 2 ^ j - 1 := by
      rw [Int.emod_eq_of_lt (by omega) (by omega)]; rfl
    exact this
  have key : (BitVec.ofInt 64 n &&& BitVec.ofInt 64 ((2 ^ j - 1 : Nat) : Int)).toNat = (n % ((2 ^ j : Nat) : Int)).toNat := by
    rw [BitVec.toNat_and, hm, Nat.and_two_pow_sub_one_eq_mod, BitVec.toNat_ofInt]
    have h1 : ((n % ((2 ^ 64 : Nat) : Int)).toNat : Int) = n % ((2 ^ 64 : Nat) : Int) := Int.toNat_of_nonneg (Int.emod_nonneg _ (by decide))
    have h2 : (((n % ((2 ^ 64 : Nat) : Int)).toNat % 2 ^ j : Nat) : Int) = (n % ((2 ^ j : Nat) : Int)) := by
      rw [Int.natCast_emod, h1]
      apply Int.emod_emod_of_dvd
      have : (2 ^ j : Nat) ∣ 2 ^ 64 := Nat.pow_dvd_pow 2 (by omega)
      exact Int.natCast_dvd_natCast.2 this
    omega
  unfold bits
  show IntKind.i64.wrap (((BitVec.ofInt 64 n &&& BitVec.ofInt 64 ((2 ^ j - 1 : Nat) : Int)).toNat : Nat) : Int) = _
  rw [key]
  have h0 := Int.emod_nonneg n (b := ((2 ^ j : Nat) : Int)) (by omega)
  have h1 := Int.emod_lt_of_pos n (b := ((2 ^ j : Nat) : Int)) (by omega)
  rw [Int.toNat_of_nonneg h0, IntKind.wrap_i64]
  have : (2 ^ 62 : Nat) = 4611686018427387904 := by decide
  omega

theorem and1 (n : Int) : bits .and .i64 n 1 = n % 2 := and_mask n 1 (by omega)
theorem and3 (n : Int) : bits .and .i64 n 3 = n % 4 := and_mask n 2 (by omega)
theorem and7 (n : Int) : bits .and .i64 n 7 = n % 8 := and_mask n 3 (by omega)
theorem and15 (n : Int) : bits .and .i64 n 15 = n % 16 := and_mask n 4 (by omega)
theorem and31 (n : Int) : bits .and .i64 n 31 = n % 32 := and_mask n 5 (by omega)
theorem and63 (n : Int) : bits .and .i64 n 63 = n % 64 := and_mask n 6 (by omega)
theorem and127 (n : Int) : bits .and .i64 n 127 = n % 128 := and_mask n 7 (by omega)
theorem and255 (n : Int) : bits .and .i64 n 255 = n % 256 := and_mask n 8 (by omega)
theorem and511 (n : Int) : bits .and .i64 n 511 = n % 512 := and_mask n 9 (by omega)
theorem and1023 (n : Int) : bits .and .i64 n 1023 = n % 1024 := and_mask n 10 (by omega)
theorem and2047 (n : Int) : bits .and .i64 n 2047 = n % 2048 := and_mask n 11 (by omega)
theorem and4095 (n : Int) : bits .and .i64 n 4095 = n % 4096 := and_mask n 12 (by omega)
theorem and65535 (n : Int) : bits .and .i64 n 65535 = n % 65536 := and_mask n 16 (by omega)
theorem andmax (n : Int) : bits .and .i64 n 1073741823 = n % 1073741824 := and_mask n 30 (by omega)

theorem wf64 {n : Int} (h : (Lit.int .i64 n).wf = true) : -9223372036854775808 ≤ n ∧ n ≤ 9223372036854775807 := by
  simp only [Lit.wf, Bool.and_eq_true, decide_eq_true_eq] at h
  have h1 : IntKind.i64.min = -9223372036854775808 := by decide
  have h2 : IntKind.i64.max = 9223372036854775807 := by decide
  omega
theorem wrapu (n : Int) : IntKind.u64.wrap n = n % 18446744073709551616 := by simp [IntKind.wrap, IntKind.bits, IntKind.signed]
end Go.Proofs.Yticaicdopfpknaa.Vm
