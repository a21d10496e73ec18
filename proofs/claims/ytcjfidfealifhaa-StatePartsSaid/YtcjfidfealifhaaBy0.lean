/- Texts and bytes. -/
import Derived.Test.YtcjfidfealifhaaVg1
import Derived.Test.YtcjfidfealifhaaVmT
namespace Go.Proofs.Ytcjfidfealifhaa
open Go Vm
set_option linter.unusedVariables false
set_option linter.unusedSimpArgs false
abbrev u8R : Rw Int := intR .u8
def bytesL (l : List Int) : ByteArray := ⟨(l.map fun n => UInt8.ofNat n.toNat).toArray⟩
theorem asBytes_rows (l : List Int) : asBytes (u8R.cells l) = some (l.map fun n => UInt8.ofNat n.toNat) := by
  rw [intR_cells]
  induction l with
  | nil => rfl
  | cons a l ih => simp only [List.map_cons, asBytes, ih, Option.map_some]
theorem ev_text {env : List (Nat × Value)} {V : Heap} {n s d e i m : Nat} {x : Operand} {ts td te : TI} {l : List Int} (hx : rd env x = some (.slice (some ⟨i, 0, none⟩) m 0)) (h1 : tys s = some ts) (h2 : tys d = some td) (hs : ts.desc = .slice e) (hd : td.desc = .string) (he : tys e = some te) (hu : te.desc = .int .u8)
    (hV : (V i).bind cellsOf = some (u8R.cells l)) (hm : m = l.length) : evOp tys env V n (.convert s d x) = some ⟨.string (bytesL l), [], 0, [i]⟩ := by
  subst hm
  have hl : (u8R.cells l).length = l.length := by rw [intR_cells, List.length_map]
  simp only [evOp, hx, Option.bind_some, evConvert, h1, h2, hs, hd, he, hV, hu, Nat.zero_add, hl, Nat.le_refl, if_true, List.drop_zero]
  rw [List.take_of_length_le (by omega), asBytes_rows]; rfl
abbrev B (s : ByteArray) : List UInt8 := s.data.toList
def mkB (l : List UInt8) : ByteArray := ⟨l.toArray⟩
theorem B_mk (l : List UInt8) : B (mkB l) = l := rfl
theorem mk_B (s : ByteArray) : mkB (B s) = s := by cases s; rfl
theorem B_inj {a b : ByteArray} (h : B a = B b) : a = b := by rw [← mk_B a, ← mk_B b, h]
theorem mkB_inj {a b : List UInt8} (h : mkB a = mkB b) : a = b := by rw [← B_mk a, ← B_mk b, h]
theorem B_len (s : ByteArray) : (B s).length = s.size := by cases s; simp [ByteArray.size]
theorem mkB_size (l : List UInt8) : (mkB l).size = l.length := by rw [← B_len, B_mk]
theorem B_app (a b : ByteArray) : B (a ++ b) = B a ++ B b := by unfold B; rw [ByteArray.data_append, Array.toList_append]
theorem mkB_app (a b : List UInt8) : mkB (a ++ b) = mkB a ++ mkB b := B_inj (by rw [B_app, B_mk, B_mk, B_mk])
theorem B_cut (s : ByteArray) (l h : Nat) : B (s.extract l h) = ((B s).drop l).take (h - l) := by
  unfold B; rw [ByteArray.data_extract, Array.toList_extract, List.extract_eq_take_drop]
theorem bytesL_mk (l : List Int) : bytesL l = mkB (l.map fun n => UInt8.ofNat n.toNat) := rfl
theorem u8s_rows (s : ByteArray) : u8s s = u8R.cells ((B s).map fun b => ((b.toNat : Nat) : Int)) := by
  rw [intR_cells, List.map_map]; rfl
section
variable {τ : Nat → Option TI} {env : List (Nat × Value)} {V : Heap} {n : Nat}
theorem cat_ev {t u : Nat} {x y : Operand} {a b : ByteArray} (hx : rd env x = some (.string a)) (hy : rd env y = some (.string b)) (hs : a.size + b.size ≤ 4611686018427387904) : evOp τ env V n (.binOp .add t x y u) = some ⟨.string (a ++ b), [], 0, []⟩ := by
  simp only [evOp, hx, hy, evBin, evStr, if_pos hs]; rfl
theorem ev_char {t : Nat} {x ix : Operand} {s : ByteArray} {k : IntKind} {i : Int} {ti : TI} (hx : rd env x = some (.string s)) (hi : rd env ix = some (.int k i)) (ht : τ t = some ti) (hd : ti.desc = .string) (h0 : 0 ≤ i) (h1 : i < (s.size : Int)) :
    evOp τ env V n (.index t x ix) = some ⟨.int .u8 (((B s).getD i.toNat 0).toNat : Int), [], 0, []⟩ := by
  simp only [evOp, hx, hi, evIndex, ht, hd]
  rw [if_pos ⟨h0, h1⟩]; rfl
theorem ev_part {t : Nat} {x : Operand} {lo hi : Option Operand} {s : ByteArray} {ti : TI} {l h : Nat} (hx : rd env x = some (.string s)) (ht : τ t = some ti) (hd : ti.desc = .string) (hlo : bnd 0 (lo.map (rd env)) = some l) (hhi : bnd s.size (hi.map (rd env)) = some h) (hlh : l ≤ h) (hh : h ≤ s.size) :
    evOp τ env V n (.slice t x lo hi none) = some ⟨.string (s.extract l h), [], 0, []⟩ := by
  simp only [evOp, hx, Option.bind_some, evSlice, ht, hd, hlo, hhi]
  rw [if_pos ⟨hlh, hh⟩]; rfl
end
end Go.Proofs.Ytcjfidfealifhaa
