/- Texts: Text, text; the document's Text, GetText. -/
import Derived.Test.YtjkidjplbddmmaaVg1
import Derived.Test.YtjkidjplbddmmaaFd4
import Derived.Test.YtjkidjplbddmmaaCl0
namespace Go.Proofs.Ytjkidjplbddmmaa
open Go Vm IntWalk
set_option linter.unusedVariables false
set_option linter.unusedSimpArgs false
def txtB (d : ByteArray) : ByteArray := (numR (d.size : Int)).1 ++ d
theorem txtB_size (d : ByteArray) : (txtB d).size ≤ d.size + 5 := by
  unfold txtB; rw [ByteArray.size_append]; have := numR_size (d.size : Int); omega
theorem txtB_B {d : ByteArray} (h : d.size ≤ 65536) : B (txtB d) = txtL (B d) := by
  unfold txtB txtL; rw [B_app, numR_B (by rw [okN_iff]; omega), B_len]
theorem num_as_ {x : Int} (h : okN x = true) : Fun Try.prog 45 [.int .i64 x] (.tuple #[.string (numR x).1, .int .i64 0]) := by
  have := num_fun_ x
  rw [show (numR x).2 = 0 by rw [numR_ok h]] at this; exact this
set_option maxHeartbeats 4000000 in
theorem text_fun (d : ByteArray) (h : d.size ≤ 65536) : Fun Try.prog 46 [.string d] (.tuple #[.string (txtB d), .int .i64 0]) := by
  refine fun_of_vw tab Try.func46 rfl rfl (by simp [Try.f46]) (lrel_cons (.string _) lrel_nil) (vrel_tuple (lrel_cons (.string _) (lrel_cons (.int _ _) lrel_nil))) ?_
  have hok : okN (d.size : Int) = true := by rw [okN_iff]; omega
  have hr := numR_size (d.size : Int)
  refine wsq (wrg (vQ tab rfl (vQ tab rfl (vnl (qth (wsq (wsq (wrg (vQ tab rfl (vQ tab rfl (vQ tab rfl (vnl (qth (vcd_false rfl (by simp only [decide_eq_true_eq, decide_eq_false_iff_not, Bool.not_eq_eq_eq_not, Bool.not_true, Bool.not_false, bne_iff_ne, bne_eq_false_iff_eq, beq_iff_eq, beq_eq_false_iff_ne, ne_eq, beq_self_eq_true, bne_self_eq_false, Bool.and_eq_true, Bool.and_eq_false_iff, Bool.or_eq_true, Bool.or_eq_false_iff, and_self, and_true, true_and, Bool.false_eq_true, Bool.true_eq_false, not_false_eq_true, not_true_eq_false]; first | done | omega) ?_))))))))))))))
  refine vw_skip (qth (wsq (wrg (vQ tab rfl (vQ tab rfl (vF rfl callable_45 (num_as_ hok) (vQ tab rfl (vQ tab rfl (vQ tab rfl (vQ tab rfl (vQ tab rfl (vnl (qth (wsq (wrg (vQ tab rfl (vQ tab rfl (vq_op tab rfl rfl rfl (cat_ev rfl rfl (by omega)) ?_))))))))))))))))))
  refine vQ tab rfl (vQ tab rfl (vQ tab rfl (vnl (qth (vw_ret ?_)))))
  exact ⟨.inr rfl, rfl⟩
theorem numsB_one (x : Int) : numsB [x] = (numR x).1 := B_inj (by unfold numsB; simp only [List.foldl_cons, List.foldl_nil]; rw [B_app]; rfl)
theorem nums_one {V : Heap} {n : Nat} {sv : Value} {x : Int} (hl : Looks V 1 sv ((intR .i64).cells [x]) [x].length) : Tri Try.prog 56 [sv] n 0 V (fun u L => u = .string (numR x).1 ∧ L = []) := by
  rw [← numsB_one]; exact nums_tri hl (by simp)
set_option maxHeartbeats 4000000 in
theorem refText_fun (d : ByteArray) (h : d.size ≤ 65536) : Fun Try.prog 57 [.string d] (.tuple #[.string (txtB d), .int .i64 0]) := by
  refine fun_of_vw tab Try.func57 rfl rfl (by simp [Try.f57]) (lrel_cons (.string _) lrel_nil) (vrel_tuple (lrel_cons (.string _) (lrel_cons (.int _ _) lrel_nil))) ?_
  have hr := numR_size (d.size : Int)
  refine wsq (wrg (vQ tab rfl (vQ tab rfl (vnl (qth (wsq (wsq (wrg (vQ tab rfl (vQ tab rfl (vQ tab rfl (vnl (qth (vcd_false rfl (by simp only [decide_eq_true_eq, decide_eq_false_iff_not, Bool.not_eq_eq_eq_not, Bool.not_true, Bool.not_false, bne_iff_ne, bne_eq_false_iff_eq, beq_iff_eq, beq_eq_false_iff_ne, ne_eq, beq_self_eq_true, bne_self_eq_false, Bool.and_eq_true, Bool.and_eq_false_iff, Bool.or_eq_true, Bool.or_eq_false_iff, and_self, and_true, true_and, Bool.false_eq_true, Bool.true_eq_false, not_false_eq_true, not_true_eq_false]; first | done | omega) ?_))))))))))))))
  refine vw_skip (qth (wsq (wrg (vQ tab rfl (vQ tab rfl (vN tab rfl (vR rfl callable_56 (nums_one (looks_opn (intR .i64) (xs := [(d.size : Int)]) rfl rfl)) (vQ tab rfl (vq_op tab rfl rfl rfl (cat_ev rfl rfl (by omega)) ?_)))))))))
  refine vQ tab rfl (vQ tab rfl (vnl (qth (vw_ret ?_))))
  exact ⟨.inr rfl, rfl⟩
/-- A text at a place, and where it ends. -/
def GoodT (s : Bs) (a : Int) (t : Bs) (tT : Int) : Prop := ∃ k t0, getN s a = (k, t0, 0, 0) ∧ 0 ≤ k ∧ k ≤ 65536 ∧ 0 ≤ t0 ∧ t0 + k ≤ s.length ∧ tT = t0 + k ∧ t = (s.drop t0.toNat).take k.toNat
/-- A text that is too long, or cut. -/
def CutT (s : Bs) (a : Int) (e p : Int) : Prop := ∃ k t0, getN s a = (k, t0, 0, 0) ∧ 0 ≤ k ∧ k ≤ 1073741823 ∧ 0 ≤ t0 ∧ t0 ≤ s.length ∧ ((65536 < k ∧ e = 100 ∧ p = a) ∨ (k ≤ 65536 ∧ (s.length : Int) - t0 < k ∧ e = 101 ∧ p = t0))
theorem getT_some {s t q : Bs} {a : Int} (h0 : 0 ≤ a) (h1 : a ≤ s.length) (h : rdT (s.drop a.toNat) = some (t, q)) : ∃ tT, GoodT s a t tT ∧ a < tT ∧ tT ≤ s.length ∧ s.drop tT.toNat = q := by
  unfold rdT at h
  split at h
  · cases h
  rename_i k r hk
  obtain ⟨t0, g0, lt0, le0, d0⟩ := getN_some h0 h1 hk
  have hok := okN_iff.1 (rd_inv hk).1
  split at h
  · cases h
  split at h
  · cases h
  rename_i c1 c2
  simp only [Option.some.injEq, Prod.mk.injEq] at h
  rw [← d0] at c2 h
  rw [List.length_drop] at c2
  refine ⟨t0 + k, ⟨k, t0, g0, hok.1, by omega, by omega, by omega, rfl, h.1.symm⟩, by omega, by omega, ?_⟩
  rw [← h.2, List.drop_drop]; congr 1; omega
theorem getT_none {s : Bs} {a : Int} (h0 : 0 ≤ a) (h1 : a ≤ s.length) (h : rdT (s.drop a.toNat) = none) : (∃ e p, getN s a = (0, 0, e, p) ∧ e ≠ 0) ∨ (∃ e p, CutT s a e p ∧ e ≠ 0) := by
  unfold rdT at h
  split at h
  · rename_i hk; exact .inl (getN_none h0 h1 hk)
  rename_i k r hk
  obtain ⟨t0, g0, lt0, le0, d0⟩ := getN_some h0 h1 hk
  have hok := okN_iff.1 (rd_inv hk).1
  split at h
  · exact .inr ⟨100, a, ⟨k, t0, g0, hok.1, hok.2, by omega, le0, .inl ⟨by assumption, rfl, rfl⟩⟩, by decide⟩
  split at h
  · rename_i c1 c2
    rw [← d0, List.length_drop] at c2
    exact .inr ⟨101, t0, ⟨k, t0, g0, hok.1, hok.2, by omega, le0, .inr ⟨by omega, by omega, rfl, rfl⟩⟩, by decide⟩
  · cases h
/-- Texts that are none, as the document says it. -/
def BadT (s : Bs) (a : Int) (e : Int) : Prop := (∃ p, getN s a = (0, 0, e, p) ∧ e ≠ 0) ∨ (∃ p, CutT s a e p)
theorem getTR_none {s : Bs} {a : Int} (h0 : 0 ≤ a) (h1 : a ≤ s.length) (h : rdT (s.drop a.toNat) = none) : ∃ e, BadT s a e ∧ e ≠ 0 := by
  rcases getT_none h0 h1 h with ⟨e, p, h2, h3⟩ | ⟨e, p, h2, h3⟩
  · exact ⟨e, .inl ⟨p, h2, h3⟩, h3⟩
  · exact ⟨e, .inr ⟨p, h2⟩, h3⟩
end Go.Proofs.Ytjkidjplbddmmaa
