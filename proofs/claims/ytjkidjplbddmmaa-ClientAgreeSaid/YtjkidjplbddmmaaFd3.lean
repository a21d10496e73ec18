/- Package field: num. -/
import Derived.Test.YtjkidjplbddmmaaVg1
import Derived.Test.YtjkidjplbddmmaaFd2
namespace Go.Proofs.Ytjkidjplbddmmaa
open Go Vm IntWalk
set_option linter.unusedVariables false
set_option linter.unusedSimpArgs false
theorem ov_u8 {σ : Ren} {xs : List Int} {s : ByteArray} {e : TypeId} (h : xs = (B s).map fun b => ((b.toNat : Nat) : Int)) : OV σ (.opn (u8R.cells xs) e 1) (.opn (u8s s) e 1) := by
  rw [u8s_rows]; exact ov_opn u8R h
theorem wid_be {r : Bs} (h : r.length ≤ 4) : wid (be r) = r.length ↔ ¬ (0 < r.length ∧ r.getD 0 0 = 0) := by
  have hz : ∀ z : UInt8, z = 0 ↔ z.toNat = 0 := fun z => ⟨fun h => by rw [h]; rfl, fun h => UInt8.toNat_inj.1 h⟩
  match r, h with
  | [], _ => simp [be, wid]
  | [a], _ =>
    have := a.toNat_lt
    simp only [be, List.foldl_cons, List.foldl_nil, List.length_cons, List.length_nil, List.getD_cons_zero, hz]
    unfold wid; (repeat' split) <;> omega
  | [a, b], _ =>
    have := a.toNat_lt; have := b.toNat_lt
    simp only [be, List.foldl_cons, List.foldl_nil, List.length_cons, List.length_nil, List.getD_cons_zero, hz]
    unfold wid; (repeat' split) <;> omega
  | [a, b, c], _ =>
    have := a.toNat_lt; have := b.toNat_lt; have := c.toNat_lt
    simp only [be, List.foldl_cons, List.foldl_nil, List.length_cons, List.length_nil, List.getD_cons_zero, hz]
    unfold wid; (repeat' split) <;> omega
  | [a, b, c, d], _ =>
    have := a.toNat_lt; have := b.toNat_lt; have := c.toNat_lt; have := d.toNat_lt
    simp only [be, List.foldl_cons, List.foldl_nil, List.length_cons, List.length_nil, List.getD_cons_zero, hz]
    unfold wid; (repeat' split) <;> omega
theorem getN_good {s : Bs} {a x t : Int} (h : getN s a = (x, t, 0, 0)) : ¬ (a < 0 ∨ (s.length : Int) < a) ∧ ¬ a = s.length ∧ ¬ 4 < (s.getD a.toNat 0).toNat ∧ ¬ (s.length : Int) - a - 1 < ((s.getD a.toNat 0).toNat : Int) ∧
    ¬ ((0 < (s.getD a.toNat 0).toNat ∧ s.getD (a.toNat + 1) 0 = 0) ∨ 1073741823 < be ((s.drop (a.toNat + 1)).take (s.getD a.toNat 0).toNat)) ∧ x = be ((s.drop (a.toNat + 1)).take (s.getD a.toNat 0).toNat) ∧ t = a + 1 + ((s.getD a.toNat 0).toNat : Int) := by
  unfold getN at h
  split at h
  · simp at h
  split at h
  · simp at h
  split at h
  · simp at h
  split at h
  · simp at h
  split at h
  · simp at h
  rename_i c0 c1 c2 c3 c4
  simp only [Prod.mk.injEq, and_true] at h
  exact ⟨c0, c1, c2, c3, c4, h.1.symm, h.2.symm⟩
end Go.Proofs.Ytjkidjplbddmmaa
