/- Package field: NumMay, width, Num; the document's num, Num, Nums. -/
import Derived.Test.YtcjfidfealifhaaVg1
import Derived.Test.YtcjfidfealifhaaFp
import Derived.Test.YtcjfidfealifhaaBy0
import Derived.Test.YtcjfidfealifhaaCm0
namespace Go.Proofs.Ytcjfidfealifhaa
open Go Vm IntWalk
set_option linter.unusedVariables false
set_option linter.unusedSimpArgs false
def numB (x : Int) : ByteArray := mkB (numL x)
theorem numB_size (x : Int) : (numB x).size ≤ 5 := by unfold numB; rw [mkB_size]; exact (numL_len x).1
theorem nummay_fun (x : Int) : Fun Try.prog 29 [.int .i64 x] (.bool (okN x)) := by
  refine fun_of_vw tab Try.func29 rfl rfl (by simp [Try.f29]) (lrel_cons (.int _ _) lrel_nil) (.bool _) ?_
  refine wsq (wrg (vQ tab rfl (vnl (qth (wsq (wrg (vQ tab rfl (vQ tab rfl (vQ tab rfl ?_)))))))))
  refine vg_op rfl rfl rfl (fun _ => ?_) (fun _ => ?_)
  refine vQ tab rfl (vQ tab rfl (vQ tab rfl (vQ tab rfl (vnl (qth (vw_ret ?_))))))
  rotate_left
  refine vK rfl (vK rfl (vQ tab rfl (vQ tab rfl (vnl (qth (vw_ret ?_))))))
  rotate_left
  all_goals exact ⟨.inr rfl, Eq.trans (b := some (.bool _)) rfl (congrArg (fun b => some (Value.bool b)) (by simp_all [okN] <;> (intros; omega)))⟩
theorem shr_8 (x : Int) : x.fdiv (2 ^ (min (8 : Int).toNat IntKind.i64.bits)) = x / 256 := Int.fdiv_eq_ediv_of_nonneg _ (by decide)
theorem shr_16 (x : Int) : x.fdiv (2 ^ (min (16 : Int).toNat IntKind.i64.bits)) = x / 65536 := Int.fdiv_eq_ediv_of_nonneg _ (by decide)
theorem shr_24 (x : Int) : x.fdiv (2 ^ (min (24 : Int).toNat IntKind.i64.bits)) = x / 16777216 := Int.fdiv_eq_ediv_of_nonneg _ (by decide)
theorem u8w (n : Int) : IntKind.u8.wrap n = n % 256 := by simp [IntKind.wrap, IntKind.bits, IntKind.signed]
theorem wid_step {x : Int} (h0 : 0 < x) (h1 : x < 4294967296) : wid x = wid (x / 256) + 1 := by
  unfold wid
  repeat' split
  all_goals omega
theorem wid_le (x : Int) : wid x ≤ 4 := by unfold wid; (repeat' split) <;> omega
def E0 (x : Int) : Int := IntKind.u8.wrap x
def E8 (x : Int) : Int := IntKind.u8.wrap (x.fdiv (2 ^ (min (8 : Int).toNat IntKind.i64.bits)))
def E16 (x : Int) : Int := IntKind.u8.wrap (x.fdiv (2 ^ (min (16 : Int).toNat IntKind.i64.bits)))
def E24 (x : Int) : Int := IntKind.u8.wrap (x.fdiv (2 ^ (min (24 : Int).toNat IntKind.i64.bits)))
theorem E_byt {x : Int} (h : 0 ≤ x) : UInt8.ofNat (E0 x).toNat = byt x 0 ∧ UInt8.ofNat (E8 x).toNat = byt x 1 ∧ UInt8.ofNat (E16 x).toNat = byt x 2 ∧ UInt8.ofNat (E24 x).toNat = byt x 3 := by
  unfold E0 E8 E16 E24 byt
  rw [shr_8, shr_16, shr_24]
  simp only [u8w]
  refine ⟨?_, ?_, ?_, ?_⟩ <;> congr 1 <;> simp <;> omega
theorem num_w0 {x : Int} (h0 : 0 ≤ x) (h : x < 1) : bytesL [0] = numB x := by unfold numB numL; rw [if_pos h]; rfl
theorem num_w1 {x : Int} (h0 : 0 ≤ x) (h : ¬ x < 1) (h2 : x < 256) : bytesL [1, E0 x] = numB x := by
  obtain ⟨e0, e8, e16, e24⟩ := E_byt h0
  unfold numB numL; rw [if_neg h, if_pos h2, ← e0]; rfl
theorem num_w2 {x : Int} (h0 : 0 ≤ x) (h : ¬ x < 256) (h2 : x < 65536) : bytesL [2, E8 x, E0 x] = numB x := by
  obtain ⟨e0, e8, e16, e24⟩ := E_byt h0
  unfold numB numL; rw [if_neg (by omega), if_neg h, if_pos h2, ← e0, ← e8]; rfl
theorem num_w3 {x : Int} (h0 : 0 ≤ x) (h : ¬ x < 65536) (h2 : x < 16777216) : bytesL [3, E16 x, E8 x, E0 x] = numB x := by
  obtain ⟨e0, e8, e16, e24⟩ := E_byt h0
  unfold numB numL; rw [if_neg (by omega), if_neg (by omega), if_neg h, if_pos h2, ← e0, ← e8, ← e16]; rfl
theorem num_w4 {x : Int} (h0 : 0 ≤ x) (h : ¬ x < 16777216) : bytesL [4, E24 x, E16 x, E8 x, E0 x] = numB x := by
  obtain ⟨e0, e8, e16, e24⟩ := E_byt h0
  unfold numB numL; rw [if_neg (by omega), if_neg (by omega), if_neg (by omega), if_neg h, ← e0, ← e8, ← e16, ← e24]; rfl
/-- What Num gives. -/
def numR (x : Int) : ByteArray × Int := if okN x = true then (numB x, 0) else (⟨#[]⟩, 100)
theorem numR_ok {x : Int} (h : okN x = true) : numR x = (numB x, 0) := if_pos h
theorem numR_no {x : Int} (h : okN x = false) : numR x = (⟨#[]⟩, 100) := if_neg (by rw [h]; decide)
theorem numR_size (x : Int) : (numR x).1.size ≤ 5 := by
  unfold numR; split
  · exact numB_size x
  · decide
end Go.Proofs.Ytcjfidfealifhaa
