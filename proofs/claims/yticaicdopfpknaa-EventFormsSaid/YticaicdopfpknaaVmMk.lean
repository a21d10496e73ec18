/- make and copy, by rows. No program in it. -/
import Derived.Test.YticaicdopfpknaaVmFn
set_option linter.unusedVariables false
set_option linter.unusedSimpArgs false
namespace Go.Proofs.Yticaicdopfpknaa.Vm
open Go
section
variable {α : Type} (R : Rw α) {P : Program} {τ : Nat → Option TI} {env : List (Nat × Value)} {V : Heap} {n : Nat}

theorem ev_make (z : α) {t e : Nat} {x y : Operand} {ti te : TI} {l l' : Int} {k : Nat} (hx : rd env x = some (.int .i64 l)) (hy : rd env y = some (.int .i64 l')) (ht : τ t = some ti) (hd : ti.desc = .slice e) (he : τ e = some te) (hs : te.size = R.sz) (hz : te.zero.cells.toList = R.f z)
    (hl : l = k) (hl' : l' = k) (hb : te.bytes * k ≤ 140737488355328) (hb' : k ≤ 140737488355328) :
    evOp τ env V n (.makeSlice t x y) = some ⟨.slice (some ⟨n, 0, none⟩) k 0, [(n, some (.opn (R.cells (List.replicate k z)) e R.sz))], 1, []⟩ := by
  subst hl; subst hl'
  have h1 : 0 ≤ (k : Int) ∧ True ∧ 0 < te.size ∧ (te.bytes : Int) * k ≤ 140737488355328 ∧ (k : Int) ≤ 140737488355328 := ⟨by omega, trivial, hs ▸ R.pos, by rw [← Int.natCast_mul]; omega, by omega⟩
  simp only [evOp, hx, hy, evMakeSlice, ht, hd, he]
  rw [if_pos h1, hz, zeros_rows, Int.toNat_natCast, hs]

theorem first_rows {j q m len c : Nat} {zs : List α} (hV : (V j).bind cellsOf = some (R.cells zs)) (hq : q + m ≤ zs.length) (hm : m ≤ len) :
    evFirst V R.sz m (.slice (some ⟨j, 0 + q * R.sz, none⟩) len c) = some (R.cells ((zs.drop q).take m), [j]) := by
  have h1 : 0 + q * R.sz + m * R.sz ≤ (R.cells zs).length ∧ m ≤ len := ⟨by rw [R.length, Nat.zero_add, ← Nat.add_mul]; exact Nat.mul_le_mul_right _ hq, hm⟩
  simp only [evFirst, hV]
  rw [if_pos h1, Nat.zero_add, R.window]

theorem ev_copy {t u e i p dl c m sl : Nat} {x y : Operand} {ti te : TI} {v : Value} {xs ys : List α} {rs : List Nat} (hx : rd env x = some (.slice (some ⟨i, 0 + p * R.sz, none⟩) dl c)) (hy : rd env y = some v) (ht : τ t = some ti) (hd : ti.desc = .slice e) (he : τ e = some te) (hs : te.size = R.sz)
    (hlv : lenV v = some sl) (hm : min sl dl = m) (hf : evFirst V R.sz m v = some (R.cells ys, rs)) (hV : V i = some (.opn (R.cells xs) e R.sz)) (hys : ys.length = m) (hle : p + m ≤ xs.length) :
    evOp τ env V n (.call { callee := .builtin .copy, args := #[x, y], argTypes := #[t, u] }) = some ⟨.int .i64 (m : Nat), [(i, some (.opn (R.cells (xs.take p ++ ys ++ xs.drop (p + m))) e R.sz))], 0, i :: rs⟩ := by
  subst hm
  have h1 : 0 + p * R.sz + (R.cells ys).length ≤ (R.cells xs).length ∧ (R.cells ys).all Value.oneCell' = true :=
    ⟨by rw [R.length, R.length, Nat.zero_add, ← Nat.add_mul, hys]; exact Nat.mul_le_mul_right _ hle, R.one ys⟩
  simp only [evOp, List.map_cons, List.map_nil, hx, hy, evCopy, ht, hd, he, hlv, hs, hf, hV]
  rw [if_pos h1, Nat.zero_add, R.splice, hys]

theorem ev_indexa {t e b off len : Nat} {x ix : Operand} {k : IntKind} {i : Int} {ti te : TI} (hx : rd env x = some (.pointer (some ⟨b, off, none⟩))) (hi : rd env ix = some (.int k i)) (ht : τ t = some ti) (hd : ti.desc = .array len e) (he : τ e = some te)
    (h0 : 0 ≤ i) (h1 : i < (len : Int)) : evOp τ env V n (.indexAddr t x ix) = some ⟨.pointer (some ⟨b, off + i.toNat * te.size, none⟩), [], 0, []⟩ := by
  simp only [evOp, hx, hi, evIndexAddr, ht, hd, he]
  rw [if_pos ⟨h0, h1⟩]; rfl

/-- A cell of an element of an array is written. -/
theorem ev_storec {t b p j q : Nat} {x y : Operand} {ti : TI} {xs : List α} {a a' : α} {v : Value} {e : TypeId} (hx : rd env x = some (.pointer (some ⟨b, p, none⟩))) (hy : rd env y = some v) (hp : p = 0 + j * R.sz + q) (ht : τ t = some ti) (hs : ti.size = 1) (hV : V b = some (.cells (R.cells xs) e (0, 0)))
    (hj : xs[j]? = some a) (hf : flatB v = true) (hb : (R.f a).set q v = R.f a') (hq : q < R.sz) : evOp τ env V n (.store t x y) = some ⟨undef, [(b, some (.cells (R.cells (xs.set j a')) e (0, 0)))], 0, [b]⟩ := by
  subst hp
  have hlt := (List.getElem?_eq_some_iff.1 hj).1
  have hle : 0 + j * R.sz + q + 1 ≤ (R.cells xs).length := by
    have := Nat.mul_le_mul_right R.sz hlt
    rw [R.length]; rw [Nat.succ_mul] at this; omega
  have hc : v.cells = #[v] := by cases v <;> first | rfl | cases hf
  have h1 : v.cells.size = 1 ∧ 0 + j * R.sz + q + 1 ≤ (R.cells xs).length ∧ v.cells.toList.all Value.oneCell' = true ∧ (((0, 0) : Nat × Nat).2 ≤ 0 + j * R.sz + q ∨ 0 + j * R.sz + q + 1 ≤ ((0, 0) : Nat × Nat).1) :=
    ⟨by rw [hc]; rfl, hle, (by rw [hc]; cases v <;> first | rfl | cases hf), .inl (Nat.zero_le _)⟩
  simp only [evOp, hx, hy, evStore, ht, hV, hs]
  rw [if_pos h1, hc]
  simp only [setCells]
  rw [Nat.zero_add, R.set_cell hj hb hq]

/-- One bool a row. -/
def boolR : Rw Bool := ⟨fun x => [.bool x], 1, fun _ => rfl, fun _ v h => by simp only [List.mem_singleton] at h; subst h; rfl, by decide⟩
theorem ov_cellsR {σ : Ren} {xs ys : List α} {e : TypeId} {fr : Nat × Nat} (h : xs = ys) : OV σ (.cells (R.cells xs) e fr) (.cells (R.cells ys) e fr) := by rw [h]; exact .cells _ _ (R.flat_cells _).rel
end
end Go.Proofs.Yticaicdopfpknaa.Vm
