/- Texts: Text, text; the document's Text, GetText. -/
import Derived.Test.YtkfkdhjelncfhaaDoorVg1
import Derived.Test.YtkfkdhjelncfhaaDoorFd4
import Derived.Test.YtkfkdhjelncfhaaDoorCl0
namespace Go.Proofs.YtkfkdhjelncfhaaDoor
open Go Vm IntWalk
set_option linter.unusedVariables false
set_option linter.unusedSimpArgs false
def txtB (d : ByteArray) : ByteArray := (numR (d.size : Int)).1 ++ d
theorem txtB_size (d : ByteArray) : (txtB d).size ≤ d.size + 5 := by
  unfold txtB; rw [ByteArray.size_append]; have := numR_size (d.size : Int); omega
theorem txtB_B {d : ByteArray} (h : d.size ≤ 65536) : B (txtB d) = txtL (B d) := by
  unfold txtB txtL; rw [B_app, numR_B (by rw [okN_iff]; omega), B_len]
theorem num_as_ {x : Int} (h : okN x = true) : Fun Tryd.prog 8 [.int .i64 x] (.tuple #[.string (numR x).1, .int .i64 0]) := by
  have := num_fun_ x
  rw [show (numR x).2 = 0 by rw [numR_ok h]] at this; exact this
set_option maxHeartbeats 4000000 in
theorem text_fun (d : ByteArray) (h : d.size ≤ 65536) : Fun Tryd.prog 13 [.string d] (.tuple #[.string (txtB d), .int .i64 0]) := by
  refine fun_of_vw tab Tryd.func13 rfl rfl (by simp [Tryd.f13]) (lrel_cons (.string _) lrel_nil) (vrel_tuple (lrel_cons (.string _) (lrel_cons (.int _ _) lrel_nil))) ?_
  have hok : okN (d.size : Int) = true := by rw [okN_iff]; omega
  have hr := numR_size (d.size : Int)
  refine wsq (wrg (vQ tab rfl (vQ tab rfl (vnl (qth (wsq (wsq (wrg (vQ tab rfl (vQ tab rfl (vQ tab rfl (vnl (qth (vcd_false rfl (by simp only [decide_eq_true_eq, decide_eq_false_iff_not, Bool.not_eq_eq_eq_not, Bool.not_true, Bool.not_false, bne_iff_ne, bne_eq_false_iff_eq, beq_iff_eq, beq_eq_false_iff_ne, ne_eq, beq_self_eq_true, bne_self_eq_false, Bool.and_eq_true, Bool.and_eq_false_iff, Bool.or_eq_true, Bool.or_eq_false_iff, and_self, and_true, true_and, Bool.false_eq_true, Bool.true_eq_false, not_false_eq_true, not_true_eq_false]; first | done | omega) ?_))))))))))))))
  refine vw_skip (qth (wsq (wrg (vQ tab rfl (vQ tab rfl (vF rfl callable_8 (num_as_ hok) (vQ tab rfl (vQ tab rfl (vQ tab rfl (vQ tab rfl (vQ tab rfl (vnl (qth (wsq (wrg (vQ tab rfl (vQ tab rfl (vq_op tab rfl rfl rfl (cat_ev rfl rfl (by omega)) ?_))))))))))))))))))
  refine vQ tab rfl (vQ tab rfl (vQ tab rfl (vnl (qth (vw_ret ?_)))))
  exact ⟨.inr rfl, rfl⟩
theorem numsB_one (x : Int) : numsB [x] = (numR x).1 := B_inj (by unfold numsB; simp only [List.foldl_cons, List.foldl_nil]; rw [B_app]; rfl)
theorem nums_one {V : Heap} {n : Nat} {sv : Value} {x : Int} (hl : Looks V 1 sv ((intR .i64).cells [x]) [x].length) : Tri Tryd.prog 23 [sv] n 0 V (fun u L => u = .string (numR x).1 ∧ L = []) := by
  rw [← numsB_one]; exact nums_tri hl (by simp)
set_option maxHeartbeats 4000000 in
theorem refText_fun (d : ByteArray) (h : d.size ≤ 65536) : Fun Tryd.prog 14 [.string d] (.tuple #[.string (txtB d), .int .i64 0]) := by
  refine fun_of_vw tab Tryd.func14 rfl rfl (by simp [Tryd.f14]) (lrel_cons (.string _) lrel_nil) (vrel_tuple (lrel_cons (.string _) (lrel_cons (.int _ _) lrel_nil))) ?_
  have hr := numR_size (d.size : Int)
  refine wsq (wrg (vQ tab rfl (vQ tab rfl (vnl (qth (wsq (wsq (wrg (vQ tab rfl (vQ tab rfl (vQ tab rfl (vnl (qth (vcd_false rfl (by simp only [decide_eq_true_eq, decide_eq_false_iff_not, Bool.not_eq_eq_eq_not, Bool.not_true, Bool.not_false, bne_iff_ne, bne_eq_false_iff_eq, beq_iff_eq, beq_eq_false_iff_ne, ne_eq, beq_self_eq_true, bne_self_eq_false, Bool.and_eq_true, Bool.and_eq_false_iff, Bool.or_eq_true, Bool.or_eq_false_iff, and_self, and_true, true_and, Bool.false_eq_true, Bool.true_eq_false, not_false_eq_true, not_true_eq_false]; first | done | omega) ?_))))))))))))))
  refine vw_skip (qth (wsq (wrg (vQ tab rfl (vQ tab rfl (vN tab rfl (vR rfl callable_23 (nums_one (looks_opn (intR .i64) (xs := [(d.size : Int)]) rfl rfl)) (vQ tab rfl (vq_op tab rfl rfl rfl (cat_ev rfl rfl (by omega)) ?_)))))))))
  refine vQ tab rfl (vQ tab rfl (vnl (qth (vw_ret ?_))))
  exact ⟨.inr rfl, rfl⟩
/-- A text at a place, and where it ends. -/
def GoodT (s : Bs) (a : Int) (t : Bs) (tT : Int) : Prop := ∃ k t0, getN s a = (k, t0, 0, 0) ∧ 0 ≤ k ∧ k ≤ 65536 ∧ 0 ≤ t0 ∧ t0 + k ≤ s.length ∧ tT = t0 + k ∧ t = (s.drop t0.toNat).take k.toNat
/-- A text that is too long, or cut. -/
def CutT (s : Bs) (a : Int) (e p : Int) : Prop := ∃ k t0, getN s a = (k, t0, 0, 0) ∧ 0 ≤ k ∧ k ≤ 1073741823 ∧ 0 ≤ t0 ∧ t0 ≤ s.length ∧ ((65536 < k ∧ e = 100 ∧ p = a) ∨ (k ≤ 65536 ∧ (s.length : Int) - t0 < k ∧ e = 101 ∧ p = t0))
theorem getT_some {s t q : Bs} {a : Int} (h0 : 0 ≤ a) (h1 : a ≤ s.length) (h : rdT (s.drop a.toNat) = some (t, q)) : ∃ tT, GoodT s a t tT ∧ a < tT ∧ tT ≤ s.length ∧ s.drop tT.toNat = q := by
  unfold rdT at h
  split at h
  · cases h
  rename_i k r hk
  obtain ⟨t0, g0, lt0, le0, d0⟩ := getN_some h0 h1 hk
  have hok := okN_iff.1 (rd_inv hk).1
  split at h
  · cases h
  split at h
  · cases h
  rename_i c1 c2
  simp only [Option.some.injEq, Prod.mk.injEq] at h
  rw [← d0] at c2 h
  rw [List.length_drop] at c2
  refine ⟨t0 + k, ⟨k, t0, g0, hok.1, by omega, by omega, by omega, rfl, h.1.symm⟩, by omega, by omega, ?_⟩
  rw [← h.2, List.drop_drop]; congr 1; omega
theorem getT_none {s : Bs} {a : Int} (h0 : 0 ≤ a) (h1 : a ≤ s.length) (h : rdT (s.drop a.toNat) = none) : (∃ e p, getN s a = (0, 0, e, p) ∧ e ≠ 0) ∨ (∃ e p, CutT s a e p ∧ e ≠ 0) := by
  unfold rdT at h
  split at h
  · rename_i hk; exact .inl (getN_none h0 h1 hk)
  rename_i k r hk
  obtain ⟨t0, g0, lt0, le0, d0⟩ := getN_some h0 h1 hk
  have hok := okN_iff.1 (rd_inv hk).1
  split at h
  · exact .inr ⟨100, a, ⟨k, t0, g0, hok.1, hok.2, by omega, le0, .inl ⟨by assumption, rfl, rfl⟩⟩, by decide⟩
  split at h
  · rename_i c1 c2
    rw [← d0, List.length_drop] at c2
    exact .inr ⟨101, t0, ⟨k, t0, g0, hok.1, hok.2, by omega, le0, .inr ⟨by omega, by omega, rfl, rfl⟩⟩, by decide⟩
  · cases h
set_option maxHeartbeats 8000000 in
theorem ftext_good {s : ByteArray} {a tT : Int} {t : Bs} (h : GoodT (B s) a t tT) (hs : s.size ≤ 9223372036854775807) : Fun Tryd.prog 24 [.string s, .int .i64 a] (.tuple #[.string (mkB t), .int .i64 tT, .nilIface]) := by
  refine fun_of_vw tab Tryd.func24 rfl rfl (by simp [Tryd.f24]) (lrel_cons (.string _) (lrel_cons (.int _ _) lrel_nil)) (vrel_tuple (lrel_cons (.string _) (lrel_cons (.int _ _) (lrel_cons .nilIface lrel_nil)))) ?_
  obtain ⟨k, t0, hg, k0, k1, t00, hle, rfl, rfl⟩ := h
  rw [B_len] at hle
  have hw : IntKind.i64.wrap ((s.size : Int) - t0) = (s.size : Int) - t0 := i64_in _ (by omega)
  have hw2 : IntKind.i64.wrap (t0 + k) = t0 + k := i64_in _ (by omega)
  have hb : ∀ d, bnd d (some (some (.int .i64 (IntKind.i64.wrap (t0 + k))))) = some (t0 + k).toNat := fun d => by rw [hw2]; exact bnd_int (by omega)
  have hx : s.extract t0.toNat (t0 + k).toNat = mkB (((B s).drop t0.toNat).take k.toNat) := B_inj (by rw [B_cut, B_mk]; congr 1; omega)
  refine wsq (wrg (vQ tab rfl (vQ tab rfl (vQ tab rfl (vnl (qth (wsq (wrg (vQ tab rfl (vQ tab rfl (vF rfl callable_21 (fnum_good hg hs) (vQ tab rfl (vQ tab rfl (vQ tab rfl (vQ tab rfl (vQ tab rfl (vQ tab rfl (vQ tab rfl (vnl (qth (wsq (wbk (wsq ?_)))))))))))))))))))))))
  refine wrg (vQ tab rfl (vQ tab rfl (vQ tab rfl (vnl (qth (vc_false rfl (wsq (wrg (vQ tab rfl (vQ tab rfl (vQ tab rfl (vnl (qth (vcd_false rfl (by simp only [hw, decide_eq_true_eq, decide_eq_false_iff_not, Bool.not_eq_eq_eq_not, Bool.not_true, Bool.not_false, bne_iff_ne, bne_eq_false_iff_eq, beq_iff_eq, beq_eq_false_iff_ne, ne_eq, beq_self_eq_true, bne_self_eq_false, Bool.and_eq_true, Bool.and_eq_false_iff, Bool.or_eq_true, Bool.or_eq_false_iff, and_self, and_true, true_and, Bool.false_eq_true, Bool.true_eq_false, not_false_eq_true, not_true_eq_false]; first | done | omega) ?_))))))))))))))
  refine wsq (wrg (vQ tab rfl (vQ tab rfl (vQ tab rfl (vQ tab rfl (vQ tab rfl (vQ tab rfl (vQ tab rfl (vnl (qth (vcd_false rfl (by simp only [hw, decide_eq_true_eq, decide_eq_false_iff_not, Bool.not_eq_eq_eq_not, Bool.not_true, Bool.not_false, bne_iff_ne, bne_eq_false_iff_eq, beq_iff_eq, beq_eq_false_iff_ne, ne_eq, beq_self_eq_true, bne_self_eq_false, Bool.and_eq_true, Bool.and_eq_false_iff, Bool.or_eq_true, Bool.or_eq_false_iff, and_self, and_true, true_and, Bool.false_eq_true, Bool.true_eq_false, not_false_eq_true, not_true_eq_false]; first | done | omega) ?_)))))))))))
  refine vw_skip (q_norm (qth (wsq (wrg (vQ tab rfl (vQ tab rfl (vQ tab rfl (vQ tab rfl (vQ tab rfl (vq_op tab rfl rfl rfl (ev_part_as rfl rfl rfl (bnd_int t00) (hb _) (by omega) (by omega) hx) ?_))))))))))
  refine vQ tab rfl (vQ tab rfl (vQ tab rfl (vQ tab rfl (vQ tab rfl (vQ tab rfl (vnl (qth (vw_ret ?_))))))))
  exact ⟨.inr rfl, Eq.trans (b := some (.tuple #[.string _, .int .i64 (IntKind.i64.wrap (t0 + k)), .nilIface])) rfl (by rw [hw2])⟩
abbrev fault2O (a : Int) (j : Nat) : VObj := .cells [.int .i64 a, errP j] 58 (0, 0)
theorem ov_fault2 {σ : Ren} {a : Int} {i j : Nat} (h : σ i = some ⟨j, none, 0⟩) : OV σ (fault2O a i) (fault2O a j) := .cells _ _ (lrel_cons (.int _ _) (lrel_cons (.iface _ (rel_ptr h)) lrel_nil))
set_option maxHeartbeats 8000000 in
theorem ftext_fail {V : Heap} {n : Nat} {s : ByteArray} {a e p : Int} (h : getN (B s) a = (0, 0, e, p)) (he : e ≠ 0) (hs : s.size ≤ 9223372036854775807) :
    Tri Tryd.prog 24 [.string s, .int .i64 a] n 2 V (fun u L => u = .tuple #[.string ⟨#[]⟩, .int .i64 0, errP n] ∧ L = [(n, some (fault2O a (n + 1))), (n + 1, some (faultO p e))]) := by
  refine call_of_vw (K := 0) (argsI := [.string s, .int .i64 a]) tab Tryd.func24 rfl rfl (by simp [Tryd.f24]) [] [] rfl .nil (by simp [ownNames]) (by simp [ownNames, lookNames]) (by simp [ownNames, *]) (al_cons (.val (.string _)) (al_cons (.val (.int _ _)) al_nil)) (seen_of sn_nil) ?_
  refine wsq (wrg (vQ tab rfl (vQ tab rfl (vQ tab rfl (vnl (qth (wsq (wrg (vQ tab rfl (vQ tab rfl (vT rfl callable_21 (fnum_bad h he hs) (vQ tab rfl (vQ tab rfl (vQ tab rfl (vQ tab rfl (vQ tab rfl (vQ tab rfl (vQ tab rfl (vnl (qth (wsq (wbk (wsq ?_)))))))))))))))))))))))
  refine wrg (vQ tab rfl (vQ tab rfl (vQ tab rfl (vnl (qth (vc_true rfl (wsq (wrg (vQ tab rfl (vQ tab rfl (vQ tab rfl (vN tab rfl (vQ tab rfl (vQ tab rfl (vQ tab rfl (vQ tab rfl (vnl (qth (vw_ret (q_ret (q_thenr ?_)))))))))))))))))))))
  exact out_mk [1, 0] (.inr rfl) ⟨rfl, rfl⟩ rfl (vrel_tuple (lrel_cons (.string _) (lrel_cons (.int _ _) (lrel_cons (.iface _ (rel_ptr (sigma_look (i := 0) rfl))) lrel_nil)))) (op_cons (sigma_look (i := 0) rfl) rfl rfl (ov_fault2 (sigma_look (i := 1) rfl)) rfl (op_cons (sigma_look (i := 1) rfl) rfl rfl ov_fault rfl op_nil)) trivial
set_option maxHeartbeats 8000000 in
theorem ftext_cut {V : Heap} {n : Nat} {s : ByteArray} {a e p : Int} (h : CutT (B s) a e p) (hs : s.size ≤ 9223372036854775807) :
    Tri Tryd.prog 24 [.string s, .int .i64 a] n 1 V (fun u L => u = .tuple #[.string ⟨#[]⟩, .int .i64 0, errP n] ∧ L = [(n, some (faultO p e))]) := by
  refine call_of_vw (K := 0) (argsI := [.string s, .int .i64 a]) tab Tryd.func24 rfl rfl (by simp [Tryd.f24]) [] [] rfl .nil (by simp [ownNames]) (by simp [ownNames, lookNames]) (by simp [ownNames, *]) (al_cons (.val (.string _)) (al_cons (.val (.int _ _)) al_nil)) (seen_of sn_nil) ?_
  obtain ⟨k, t0, hg, k0, k1, t00, hle, hc⟩ := h
  rw [B_len] at hle hc
  have hw : IntKind.i64.wrap ((s.size : Int) - t0) = (s.size : Int) - t0 := i64_in _ (by omega)
  rcases hc with ⟨c1, rfl, rfl⟩ | ⟨c1, c2, rfl, rfl⟩
  all_goals
    first
      | refine wsq (wrg (vQ tab rfl (vQ tab rfl (vQ tab rfl (vnl (qth (wsq (wrg (vQ tab rfl (vQ tab rfl (vF rfl callable_21 (fnum_good hg hs) (vQ tab rfl (vQ tab rfl (vQ tab rfl (vQ tab rfl (vQ tab rfl (vQ tab rfl (vQ tab rfl (vnl (qth (wsq (wbk (wsq ?_)))))))))))))))))))))))
        refine wrg (vQ tab rfl (vQ tab rfl (vQ tab rfl (vnl (qth (vc_false rfl (wsq (wrg (vQ tab rfl (vQ tab rfl (vQ tab rfl (vnl (qth (vcd_true rfl (by simp only [hw, decide_eq_true_eq, decide_eq_false_iff_not, Bool.not_eq_eq_eq_not, Bool.not_true, Bool.not_false, bne_iff_ne, bne_eq_false_iff_eq, beq_iff_eq, beq_eq_false_iff_ne, ne_eq, beq_self_eq_true, bne_self_eq_false, Bool.and_eq_true, Bool.and_eq_false_iff, Bool.or_eq_true, Bool.or_eq_false_iff, and_self, and_true, true_and, Bool.false_eq_true, Bool.true_eq_false, not_false_eq_true, not_true_eq_false]; first | done | omega) ?_))))))))))))))
        refine wsq (wrg (vQ tab rfl (vQ tab rfl (vQ tab rfl (vN tab rfl (vQ tab rfl (vQ tab rfl (vQ tab rfl (vQ tab rfl (vnl (qth (vw_ret (q_ret (q_thenr ?_))))))))))))))
      | refine wsq (wrg (vQ tab rfl (vQ tab rfl (vQ tab rfl (vnl (qth (wsq (wrg (vQ tab rfl (vQ tab rfl (vF rfl callable_21 (fnum_good hg hs) (vQ tab rfl (vQ tab rfl (vQ tab rfl (vQ tab rfl (vQ tab rfl (vQ tab rfl (vQ tab rfl (vnl (qth (wsq (wbk (wsq ?_)))))))))))))))))))))))
        refine wrg (vQ tab rfl (vQ tab rfl (vQ tab rfl (vnl (qth (vc_false rfl (wsq (wrg (vQ tab rfl (vQ tab rfl (vQ tab rfl (vnl (qth (vcd_false rfl (by simp only [hw, decide_eq_true_eq, decide_eq_false_iff_not, Bool.not_eq_eq_eq_not, Bool.not_true, Bool.not_false, bne_iff_ne, bne_eq_false_iff_eq, beq_iff_eq, beq_eq_false_iff_ne, ne_eq, beq_self_eq_true, bne_self_eq_false, Bool.and_eq_true, Bool.and_eq_false_iff, Bool.or_eq_true, Bool.or_eq_false_iff, and_self, and_true, true_and, Bool.false_eq_true, Bool.true_eq_false, not_false_eq_true, not_true_eq_false]; first | done | omega) ?_))))))))))))))
        refine wsq (wrg (vQ tab rfl (vQ tab rfl (vQ tab rfl (vQ tab rfl (vQ tab rfl (vQ tab rfl (vQ tab rfl (vnl (qth (vcd_true rfl (by simp only [hw, decide_eq_true_eq, decide_eq_false_iff_not, Bool.not_eq_eq_eq_not, Bool.not_true, Bool.not_false, bne_iff_ne, bne_eq_false_iff_eq, beq_iff_eq, beq_eq_false_iff_ne, ne_eq, beq_self_eq_true, bne_self_eq_false, Bool.and_eq_true, Bool.and_eq_false_iff, Bool.or_eq_true, Bool.or_eq_false_iff, and_self, and_true, true_and, Bool.false_eq_true, Bool.true_eq_false, not_false_eq_true, not_true_eq_false]; first | done | omega) ?_)))))))))))
        refine wsq (wrg (vQ tab rfl (vQ tab rfl (vQ tab rfl (vN tab rfl (vQ tab rfl (vQ tab rfl (vQ tab rfl (vQ tab rfl (vnl (qth (vw_ret (q_ret (q_thenr ?_))))))))))))))
    exact out_mk [0] (.inr rfl) ⟨rfl, rfl⟩ rfl (vrel_tuple (lrel_cons (.string _) (lrel_cons (.int _ _) (lrel_cons (.iface _ (rel_ptr (sigma_look (i := 0) rfl))) lrel_nil)))) (op_cons (sigma_look (i := 0) rfl) rfl rfl ov_fault rfl op_nil) trivial
/-- Texts that are none, as the document says it. -/
def BadT (s : Bs) (a : Int) (e : Int) : Prop := (∃ p, getN s a = (0, 0, e, p) ∧ e ≠ 0) ∨ (∃ p, CutT s a e p)
theorem getTR_none {s : Bs} {a : Int} (h0 : 0 ≤ a) (h1 : a ≤ s.length) (h : rdT (s.drop a.toNat) = none) : ∃ e, BadT s a e ∧ e ≠ 0 := by
  rcases getT_none h0 h1 h with ⟨e, p, h2, h3⟩ | ⟨e, p, h2, h3⟩
  · exact ⟨e, .inl ⟨p, h2, h3⟩, h3⟩
  · exact ⟨e, .inr ⟨p, h2⟩, h3⟩
set_option maxHeartbeats 8000000 in
theorem gettext_good {s : ByteArray} {a tT : Int} {t : Bs} (h : GoodT (B s) a t tT) (hs : s.size ≤ 9223372036854775807) : Fun Tryd.prog 16 [.string s, .int .i64 a] (.tuple #[.string (mkB t), .int .i64 tT, .int .i64 0]) := by
  refine fun_of_vw tab Tryd.func16 rfl rfl (by simp [Tryd.f16]) (lrel_cons (.string _) (lrel_cons (.int _ _) lrel_nil)) (vrel_tuple (lrel_cons (.string _) (lrel_cons (.int _ _) (lrel_cons (.int _ _) lrel_nil)))) ?_
  obtain ⟨k, t0, hg, k0, k1, t00, hle, rfl, rfl⟩ := h
  rw [B_len] at hle
  have hw : IntKind.i64.wrap ((s.size : Int) - t0) = (s.size : Int) - t0 := i64_in _ (by omega)
  have hw2 : IntKind.i64.wrap (t0 + k) = t0 + k := i64_in _ (by omega)
  have hb : ∀ d, bnd d (some (some (.int .i64 (IntKind.i64.wrap (t0 + k))))) = some (t0 + k).toNat := fun d => by rw [hw2]; exact bnd_int (by omega)
  have hx : s.extract t0.toNat (t0 + k).toNat = mkB (((B s).drop t0.toNat).take k.toNat) := B_inj (by rw [B_cut, B_mk]; congr 1; omega)
  refine wsq (wrg (vQ tab rfl (vQ tab rfl (vQ tab rfl (vnl (qth (wsq (wrg (vQ tab rfl (vQ tab rfl (vF rfl callable_12 (getnum_as hg hs) (vQ tab rfl (vQ tab rfl (vQ tab rfl (vQ tab rfl (vQ tab rfl (vQ tab rfl (vQ tab rfl (vnl (qth (wsq (wsq (wrg ?_)))))))))))))))))))))))
  refine vQ tab rfl (vQ tab rfl (vnl (qth (vc_false rfl (vw_skip (qth (wsq (wsq (wrg (vQ tab rfl (vQ tab rfl (vnl (qth (vcd_false rfl (by simp only [hw, decide_eq_true_eq, decide_eq_false_iff_not, Bool.not_eq_eq_eq_not, Bool.not_true, Bool.not_false, bne_iff_ne, bne_eq_false_iff_eq, beq_iff_eq, beq_eq_false_iff_ne, ne_eq, beq_self_eq_true, bne_self_eq_false, Bool.and_eq_true, Bool.and_eq_false_iff, Bool.or_eq_true, Bool.or_eq_false_iff, and_self, and_true, true_and, Bool.false_eq_true, Bool.true_eq_false, not_false_eq_true, not_true_eq_false]; first | done | omega) ?_))))))))))))))
  refine vw_skip (qth (wsq (wsq (wrg (vQ tab rfl (vQ tab rfl (vQ tab rfl (vQ tab rfl (vQ tab rfl (vQ tab rfl (vnl (qth (vcd_false rfl (by simp only [hw, decide_eq_true_eq, decide_eq_false_iff_not, Bool.not_eq_eq_eq_not, Bool.not_true, Bool.not_false, bne_iff_ne, bne_eq_false_iff_eq, beq_iff_eq, beq_eq_false_iff_ne, ne_eq, beq_self_eq_true, bne_self_eq_false, Bool.and_eq_true, Bool.and_eq_false_iff, Bool.or_eq_true, Bool.or_eq_false_iff, and_self, and_true, true_and, Bool.false_eq_true, Bool.true_eq_false, not_false_eq_true, not_true_eq_false]; first | done | omega) ?_)))))))))))))
  refine vw_skip (qth (wsq (wrg (vQ tab rfl (vQ tab rfl (vQ tab rfl (vQ tab rfl (vQ tab rfl (vq_op tab rfl rfl rfl (ev_part_as rfl rfl rfl (bnd_int t00) (hb _) (by omega) (by omega) hx) ?_)))))))))
  refine vQ tab rfl (vQ tab rfl (vQ tab rfl (vQ tab rfl (vQ tab rfl (vQ tab rfl (vnl (qth (vw_ret ?_))))))))
  exact ⟨.inr rfl, Eq.trans (b := some (.tuple #[.string _, .int .i64 (IntKind.i64.wrap (t0 + k)), .int .i64 0])) rfl (by rw [hw2])⟩
set_option maxHeartbeats 8000000 in
theorem gettext_bad {s : ByteArray} {a e : Int} (h : BadT (B s) a e) (hs : s.size ≤ 9223372036854775807) : Fun Tryd.prog 16 [.string s, .int .i64 a] (.tuple #[.string ⟨#[]⟩, .int .i64 0, .int .i64 e]) := by
  refine fun_of_vw tab Tryd.func16 rfl rfl (by simp [Tryd.f16]) (lrel_cons (.string _) (lrel_cons (.int _ _) lrel_nil)) (vrel_tuple (lrel_cons (.string _) (lrel_cons (.int _ _) (lrel_cons (.int _ _) lrel_nil)))) ?_
  rcases h with ⟨p, hg, he⟩ | ⟨p, k, t0, hg, k0, k1, t00, hle, hc⟩
  · have hne : (e != 0) = true := by simpa using he
    refine wsq (wrg (vQ tab rfl (vQ tab rfl (vQ tab rfl (vnl (qth (wsq (wrg (vQ tab rfl (vQ tab rfl (vF rfl callable_12 (getnum_as hg hs) (vQ tab rfl (vQ tab rfl (vQ tab rfl (vQ tab rfl (vQ tab rfl (vQ tab rfl (vQ tab rfl (vnl (qth (wsq (wsq (wrg ?_)))))))))))))))))))))))
    refine vQ tab rfl (vQ tab rfl (vnl (qth (vcd_true rfl (by simp only [hne, decide_eq_true_eq, decide_eq_false_iff_not, Bool.not_eq_eq_eq_not, Bool.not_true, Bool.not_false, bne_iff_ne, bne_eq_false_iff_eq, beq_iff_eq, beq_eq_false_iff_ne, ne_eq, beq_self_eq_true, bne_self_eq_false, Bool.and_eq_true, Bool.and_eq_false_iff, Bool.or_eq_true, Bool.or_eq_false_iff, and_self, and_true, true_and, Bool.false_eq_true, Bool.true_eq_false, not_false_eq_true, not_true_eq_false]; first | done | omega) ?_))))
    refine wsq (wrg (vQ tab rfl (vQ tab rfl (vQ tab rfl (vQ tab rfl (vnl (qth (vw_ret (q_thenr ?_)))))))))
    exact ⟨.inr rfl, rfl⟩
  rw [B_len] at hle hc
  have hw : IntKind.i64.wrap ((s.size : Int) - t0) = (s.size : Int) - t0 := i64_in _ (by omega)
  rcases hc with ⟨c1, rfl, rfl⟩ | ⟨c1, c2, rfl, rfl⟩
  all_goals
    first
      | refine wsq (wrg (vQ tab rfl (vQ tab rfl (vQ tab rfl (vnl (qth (wsq (wrg (vQ tab rfl (vQ tab rfl (vF rfl callable_12 (getnum_as hg hs) (vQ tab rfl (vQ tab rfl (vQ tab rfl (vQ tab rfl (vQ tab rfl (vQ tab rfl (vQ tab rfl (vnl (qth (wsq (wsq (wrg ?_)))))))))))))))))))))))
        refine vQ tab rfl (vQ tab rfl (vnl (qth (vc_false rfl (vw_skip (qth (wsq (wsq (wrg (vQ tab rfl (vQ tab rfl (vnl (qth (vcd_true rfl (by simp only [hw, decide_eq_true_eq, decide_eq_false_iff_not, Bool.not_eq_eq_eq_not, Bool.not_true, Bool.not_false, bne_iff_ne, bne_eq_false_iff_eq, beq_iff_eq, beq_eq_false_iff_ne, ne_eq, beq_self_eq_true, bne_self_eq_false, Bool.and_eq_true, Bool.and_eq_false_iff, Bool.or_eq_true, Bool.or_eq_false_iff, and_self, and_true, true_and, Bool.false_eq_true, Bool.true_eq_false, not_false_eq_true, not_true_eq_false]; first | done | omega) ?_))))))))))))))
        refine wsq (wrg (vQ tab rfl (vQ tab rfl (vQ tab rfl (vnl (qth (vw_ret (q_thenr ?_))))))))
      | refine wsq (wrg (vQ tab rfl (vQ tab rfl (vQ tab rfl (vnl (qth (wsq (wrg (vQ tab rfl (vQ tab rfl (vF rfl callable_12 (getnum_as hg hs) (vQ tab rfl (vQ tab rfl (vQ tab rfl (vQ tab rfl (vQ tab rfl (vQ tab rfl (vQ tab rfl (vnl (qth (wsq (wsq (wrg ?_)))))))))))))))))))))))
        refine vQ tab rfl (vQ tab rfl (vnl (qth (vc_false rfl (vw_skip (qth (wsq (wsq (wrg (vQ tab rfl (vQ tab rfl (vnl (qth (vcd_false rfl (by simp only [hw, decide_eq_true_eq, decide_eq_false_iff_not, Bool.not_eq_eq_eq_not, Bool.not_true, Bool.not_false, bne_iff_ne, bne_eq_false_iff_eq, beq_iff_eq, beq_eq_false_iff_ne, ne_eq, beq_self_eq_true, bne_self_eq_false, Bool.and_eq_true, Bool.and_eq_false_iff, Bool.or_eq_true, Bool.or_eq_false_iff, and_self, and_true, true_and, Bool.false_eq_true, Bool.true_eq_false, not_false_eq_true, not_true_eq_false]; first | done | omega) ?_))))))))))))))
        refine vw_skip (qth (wsq (wsq (wrg (vQ tab rfl (vQ tab rfl (vQ tab rfl (vQ tab rfl (vQ tab rfl (vQ tab rfl (vnl (qth (vcd_true rfl (by simp only [hw, decide_eq_true_eq, decide_eq_false_iff_not, Bool.not_eq_eq_eq_not, Bool.not_true, Bool.not_false, bne_iff_ne, bne_eq_false_iff_eq, beq_iff_eq, beq_eq_false_iff_ne, ne_eq, beq_self_eq_true, bne_self_eq_false, Bool.and_eq_true, Bool.and_eq_false_iff, Bool.or_eq_true, Bool.or_eq_false_iff, and_self, and_true, true_and, Bool.false_eq_true, Bool.true_eq_false, not_false_eq_true, not_true_eq_false]; first | done | omega) ?_)))))))))))))
        refine wsq (wrg (vQ tab rfl (vQ tab rfl (vQ tab rfl (vnl (qth (vw_ret (q_thenr ?_))))))))
    exact ⟨.inr rfl, rfl⟩
end Go.Proofs.YtkfkdhjelncfhaaDoor
