/- Long texts by make, for the laws of forms. -/
import Derived.Test.YtkfkdhjelncfhaaDoorBy0
namespace Go.Proofs.YtkfkdhjelncfhaaDoor
open Go Vm
set_option linter.unusedVariables false
set_option linter.unusedSimpArgs false
theorem ev_makeb {env : List (Nat × Value)} {V : Heap} {n t e : Nat} {x y : Operand} {ti te : TI} {l : Int} (hx : rd env x = some (.int .i64 l)) (hy : rd env y = some (.int .i64 l)) (ht : tys t = some ti) (hd : ti.desc = .slice e) (he : tys e = some te) (hz : te.zero.cells.toList = [.int .u8 0]) (hs : te.size = 1) (hb : te.bytes = 1) (h0 : 0 ≤ l) (h1 : l ≤ 140737488355328) :
    evOp tys env V n (.makeSlice t x y) = some ⟨.slice (some ⟨n, 0, none⟩) l.toNat 0, [(n, some (.opn (u8R.cells (List.replicate l.toNat 0)) e 1))], 1, []⟩ := by
  simp only [evOp, hx, hy, evMakeSlice, ht, hd, he, hs, hb, hz]
  rw [if_pos ⟨h0, trivial, by omega, by omega, h1⟩, ← zeros_rows u8R 0]; rfl
theorem zb_size (n : Nat) : (bytesL (List.replicate n 0)).size = n := by rw [bytesL_mk, mkB_size]; simp
theorem x_ne : ((⟨#[120]⟩ : ByteArray) = ⟨#[]⟩) = False := by simp
end Go.Proofs.YtkfkdhjelncfhaaDoor
