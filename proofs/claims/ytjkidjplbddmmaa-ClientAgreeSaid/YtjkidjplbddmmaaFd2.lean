/- A number at a place: GetNum of the document, num of package field. -/
import Derived.Test.YtjkidjplbddmmaaVg1
import Derived.Test.YtjkidjplbddmmaaFd1
namespace Go.Proofs.Ytjkidjplbddmmaa
open Go Vm IntWalk
set_option linter.unusedVariables false
set_option linter.unusedSimpArgs false
/-- Number, end, error, the error's place. -/
def getN (s : Bs) (at_ : Int) : Int × Int × Int × Int :=
  if at_ < 0 ∨ (s.length : Int) < at_ then (0, 0, 100, at_) else if at_ = s.length then (0, 0, 101, at_)
  else if 4 < (s.getD at_.toNat 0).toNat then (0, 0, 100, at_) else if (s.length : Int) - at_ - 1 < ((s.getD at_.toNat 0).toNat : Int) then (0, 0, 101, at_ + 1)
  else if (0 < (s.getD at_.toNat 0).toNat ∧ s.getD (at_.toNat + 1) 0 = 0) ∨ 1073741823 < be ((s.drop (at_.toNat + 1)).take (s.getD at_.toNat 0).toNat) then (0, 0, 100, at_ + 1)
  else (be ((s.drop (at_.toNat + 1)).take (s.getD at_.toNat 0).toNat), at_ + 1 + ((s.getD at_.toNat 0).toNat : Int), 0, 0)
theorem getN_cut {s : Bs} {a : Int} (h0 : 0 ≤ a) (h1 : a < s.length) : s.drop a.toNat = s.getD a.toNat 0 :: s.drop (a.toNat + 1) := by
  have hl : a.toNat < s.length := by omega
  rw [List.drop_eq_getElem_cons hl, List.getD_eq_getElem?_getD, List.getElem?_eq_getElem hl]; rfl
theorem getN_some {s q : Bs} {a x : Int} (h0 : 0 ≤ a) (h1 : a ≤ s.length) (h : rdN (s.drop a.toNat) = some (x, q)) : ∃ to, getN s a = (x, to, 0, 0) ∧ a < to ∧ to ≤ s.length ∧ s.drop to.toNat = q := by
  by_cases he : a = s.length
  · rw [List.drop_of_length_le (by omega)] at h; cases h
  rw [getN_cut h0 (by omega), rdN_cons] at h
  have hd : (s.drop (a.toNat + 1)).getD 0 0 = s.getD (a.toNat + 1) 0 := by simp [List.getD_eq_getElem?_getD]
  rw [hd] at h
  split at h
  · cases h
  split at h
  · cases h
  split at h
  · cases h
  rename_i c1 c2 c3
  simp only [Option.some.injEq, Prod.mk.injEq] at h
  obtain ⟨hx, hq⟩ := h
  rw [List.length_drop] at c2
  refine ⟨a + 1 + ((s.getD a.toNat 0).toNat : Int), ?_, by omega, by omega, ?_⟩
  · unfold getN
    rw [if_neg (by omega), if_neg he, if_neg c1, if_neg (by omega), if_neg c3, hx]
  · rw [List.drop_drop] at hq
    rw [← hq]; congr 1; omega
theorem getN_none {s : Bs} {a : Int} (h0 : 0 ≤ a) (h1 : a ≤ s.length) (h : rdN (s.drop a.toNat) = none) : ∃ e p, getN s a = (0, 0, e, p) ∧ e ≠ 0 := by
  unfold getN
  rw [if_neg (by omega)]
  split
  · exact ⟨_, _, rfl, by decide⟩
  rename_i he
  rw [getN_cut h0 (by omega), rdN_cons] at h
  have hd : (s.drop (a.toNat + 1)).getD 0 0 = s.getD (a.toNat + 1) 0 := by simp [List.getD_eq_getElem?_getD]
  rw [hd, List.length_drop] at h
  split
  · exact ⟨_, _, rfl, by decide⟩
  rename_i c1
  split
  · exact ⟨_, _, rfl, by decide⟩
  rename_i c2
  rw [if_neg c1, if_neg (by omega)] at h
  split
  · exact ⟨_, _, rfl, by decide⟩
  rename_i c3
  rw [if_neg c3] at h; cases h
theorem or_8 {x b : Int} (hx : 0 ≤ x) (hx2 : x < 16777216) (hb : 0 ≤ b) (hb2 : b < 256) : bits .or .i64 (IntKind.i64.wrap (x * 2 ^ (min (8 : Int).toNat IntKind.i64.bits))) b = x * 256 + b := by
  have e : x * 2 ^ (min (8 : Int).toNat IntKind.i64.bits) = x * 256 := rfl
  rw [e, i64_in _ (by omega)]
  obtain ⟨m, rfl⟩ := Int.eq_ofNat_of_zero_le hx
  obtain ⟨c, rfl⟩ := Int.eq_ofNat_of_zero_le hb
  show IntKind.i64.wrap (((BitVec.ofInt 64 ((m : Int) * 256) ||| BitVec.ofInt 64 (c : Int)).toNat : Nat) : Int) = _
  have h1 : (BitVec.ofInt 64 ((m : Int) * 256)).toNat = m * 256 := by
    rw [BitVec.toNat_ofInt]
    have : (((m : Int) * 256) % ((2 ^ 64 : Nat) : Int)).toNat = m * 256 := by omega
    exact this
  have h2 : (BitVec.ofInt 64 (c : Int)).toNat = c := by
    rw [BitVec.toNat_ofInt]
    have : ((c : Int) % ((2 ^ 64 : Nat) : Int)).toNat = c := by omega
    exact this
  have h3 : m * 256 ||| c = m * 256 + c := by
    have := Nat.shiftLeft_add_eq_or_of_lt (i := 8) (b := c) (by omega) m
    rw [Nat.shiftLeft_eq] at this
    exact this.symm
  rw [BitVec.toNat_or, h1, h2, h3, i64_in _ (by omega)]; omega
theorem be_small {s : Bs} {p k j : Nat} (hk : k ≤ 4) (hj : j < k) (hp : p + k ≤ s.length) : 0 ≤ be (((s.drop p).take k).take j) ∧ be (((s.drop p).take k).take j) < 16777216 := by
  have hb := be_bound ((s.drop p).take k) j (by simp; omega)
  have h3 : j = 0 ∨ j = 1 ∨ j = 2 ∨ j = 3 := by omega
  have p0 : (256 : Int) ^ 0 = 1 := rfl
  have p1 : (256 : Int) ^ 1 = 256 := rfl
  have p2 : (256 : Int) ^ 2 = 65536 := rfl
  have p3 : (256 : Int) ^ 3 = 16777216 := rfl
  rcases h3 with rfl | rfl | rfl | rfl <;> omega
theorem row_at {s : Bs} {p k j : Nat} (hj : j < k) (hp : p + k ≤ s.length) : ((s.drop p).take k)[j]? = some (s.getD (p + j) 0) := by
  rw [List.getElem?_take, if_pos hj, List.getElem?_drop, List.getD_eq_getElem?_getD, List.getElem?_eq_getElem (by omega)]; rfl
theorem ev_char_as {τ : Nat → Option TI} {env : List (Nat × Value)} {V : Heap} {n t : Nat} {x ix : Operand} {s : ByteArray} {k : IntKind} {i : Int} {ti : TI} {c : Nat} (hx : rd env x = some (.string s)) (hi : rd env ix = some (.int k i)) (ht : τ t = some ti) (hd : ti.desc = .string) (h0 : 0 ≤ i) (h1 : i < (s.size : Int))
    (hc : ((B s).getD i.toNat 0).toNat = c) : evOp τ env V n (.index t x ix) = some ⟨.int .u8 (c : Int), [], 0, []⟩ := by rw [ev_char hx hi ht hd h0 h1, hc]
theorem ev_part_as {τ : Nat → Option TI} {env : List (Nat × Value)} {V : Heap} {n t : Nat} {x : Operand} {lo hi : Option Operand} {s r : ByteArray} {ti : TI} {l h : Nat} (hx : rd env x = some (.string s)) (ht : τ t = some ti) (hd : ti.desc = .string) (hlo : bnd 0 (lo.map (rd env)) = some l) (hhi : bnd s.size (hi.map (rd env)) = some h) (hlh : l ≤ h) (hh : h ≤ s.size)
    (hr : s.extract l h = r) : evOp τ env V n (.slice t x lo hi none) = some ⟨.string r, [], 0, []⟩ := by rw [ev_part hx ht hd hlo hhi hlh hh, hr]
/-- What the document's says. -/
def getR (s : Bs) (a : Int) : Value := .tuple #[.int .i64 (getN s a).1, .int .i64 (getN s a).2.1, .int .i64 (getN s a).2.2.1]
theorem getR_eq {s : Bs} {a x t e p : Int} (h : getN s a = (x, t, e, p)) : getR s a = .tuple #[.int .i64 x, .int .i64 t, .int .i64 e] := by unfold getR; rw [h]
end Go.Proofs.Ytjkidjplbddmmaa
