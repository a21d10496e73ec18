/- Operations at places that are told by numbers. No program in it. -/
import Derived.Test.YticaicdopfpknaaVmU
import Derived.Test.YticaicdopfpknaaVmO
set_option linter.unusedVariables false
set_option linter.unusedSimpArgs false
namespace Go.Proofs.Yticaicdopfpknaa.Vm
open Go
section
variable {τ : Nat → Option TI} {env : List (Nat × Value)} {V : Heap} {n : Nat}

theorem ev_index {t e b off len cap : Nat} {x ix : Operand} {k : IntKind} {i : Int} {ti te : TI} (hx : rd env x = some (.slice (some ⟨b, off, none⟩) len cap)) (hi : rd env ix = some (.int k i)) (ht : τ t = some ti) (hd : ti.desc = .slice e) (he : τ e = some te)
    (h0 : 0 ≤ i) (h1 : i < (len : Int)) : evOp τ env V n (.indexAddr t x ix) = some ⟨.pointer (some ⟨b, off + i.toNat * te.size, none⟩), [], 0, []⟩ := by
  simp only [evOp, hx, hi, evIndexAddr, ht, hd, he]
  rw [if_pos ⟨h0, h1⟩]; rfl

theorem ev_load1 {t b off : Nat} {x : Operand} {ti : TI} {c : List Value} {v : Value} (hx : rd env x = some (.pointer (some ⟨b, off, none⟩))) (ht : τ t = some ti) (ha : isAggB ti.desc = false) (hV : (V b).bind cellsOf = some c) (hc : c[off]? = some v) :
    evOp τ env V n (.load t x) = some ⟨v, [], 0, [b]⟩ := by
  simp only [evOp, hx, Option.bind_some, evLoad, ht, hV, ha, hc]; rfl

theorem get_map {xs : List Int} {k : IntKind} {i : Nat} {x : Int} (h : xs[i]? = some x) : (xs.map (Value.int k))[0 + i * 1]? = some (.int k x) := by
  rw [Nat.zero_add, Nat.mul_one, List.getElem?_map, h]; rfl
theorem ri {σ : Ren} {k : IntKind} {a b : Int} (h : a = b) : VRel σ (.int k a) (.int k b) := by rw [h]; exact .int _ _
theorem get_some {α : Type} {xs : List α} {i : Int} (h0 : 0 ≤ i) (h1 : i < (xs.length : Int)) : ∃ x, xs[i.toNat]? = some x := ⟨xs[i.toNat]'(by omega), by simp⟩
end
end Go.Proofs.Yticaicdopfpknaa.Vm
