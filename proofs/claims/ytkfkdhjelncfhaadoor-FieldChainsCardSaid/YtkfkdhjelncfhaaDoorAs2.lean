/- Code; numbers and texts that are read. -/
import Derived.Test.YtkfkdhjelncfhaaDoorVg1
import Derived.Test.YtkfkdhjelncfhaaDoorAs1
import Derived.Test.YtkfkdhjelncfhaaDoorFd6
namespace Go.Proofs.YtkfkdhjelncfhaaDoor
open Go Vm IntWalk
set_option linter.unusedVariables false
set_option linter.unusedSimpArgs false
set_option maxHeartbeats 8000000
theorem code_nil : Fun Tryd.prog 22 [.nilIface] (.int .i64 0) := by
  refine fun_of_vw tab Tryd.func22 rfl rfl (by simp [Tryd.f22]) (lrel_cons .nilIface lrel_nil) (.int _ _) ?_
  refine wsq (wrg (vQ tab rfl (vnl (qth (wsq (wrg (vN tab rfl (vnl (qth (wsq (wsq (wrg (vQ tab rfl (vQ tab rfl (vR rfl callable_25 (as0_tri) (vnl (qth (vc_false rfl (vw_skip (qth (wsq (wrg (vQ tab rfl ?_)))))))))))))))))))))))
  refine vnl (qth (vw_ret ?_))
  exact ⟨.inr rfl, rfl⟩
theorem code_one {V : Heap} {n i : Nat} {p e : Int} (hi : V i = some (faultO p e)) : Tri Tryd.prog 22 [errP i] n 0 V (fun u L => u = .int .i64 e ∧ L = []) := by
  refine reads_of_vw (K := 1) (argsI := [errP 0]) tab Tryd.func22 rfl rfl (by simp [Tryd.f22]) [.own i] [faultO p e] rfl (.own hi (ov_fault) .nil) (by simp [ownNames, *]) (by simp [ownNames, lookNames, *]) (al_cons (.val (.iface _ (rel_ptr rfl))) al_nil) (seen_of (sn_own sn_nil)) (.int _ _) ?_
  refine wsq (wrg (vQ tab rfl (vnl (qth (wsq (wrg (vN tab rfl (vnl (qth (wsq (wsq (wrg (vQ tab rfl (vQ tab rfl (vT rfl callable_25 (as1_tri (i := 0) (p := p) (e := e) (old := 0) rfl rfl) (vnl (qth (vc_true rfl (wsq (wrg (vQ tab rfl (vQ tab rfl (vnl ?_)))))))))))))))))))))))
  refine qth (vw_ret (q_thenr ?_))
  exact ⟨⟨.inr rfl, rfl⟩, fun _ => rfl, trivial⟩
theorem code_two {V : Heap} {n i k : Nat} {a p e : Int} (hi : V i = some (fault2O a k)) (hk : V k = some (faultO p e)) (hik : i ≠ k) : Tri Tryd.prog 22 [errP i] n 0 V (fun u L => u = .int .i64 e ∧ L = []) := by
  refine reads_of_vw (K := 2) (argsI := [errP 0]) tab Tryd.func22 rfl rfl (by simp [Tryd.f22]) [.own i, .own k] [fault2O a 1, faultO p e] rfl (.own hi (ov_fault2 rfl) (.own hk (ov_fault) .nil)) (by simp [ownNames, *]) (by simp [ownNames, lookNames, *]) (al_cons (.val (.iface _ (rel_ptr rfl))) al_nil) (seen_of (sn_own (sn_own sn_nil))) (.int _ _) ?_
  refine wsq (wrg (vQ tab rfl (vnl (qth (wsq (wrg (vN tab rfl (vnl (qth (wsq (wsq (wrg (vQ tab rfl (vQ tab rfl (vT rfl callable_25 (as2_tri (i := 0) (k := 1) (a := a) (p := p) (e := e) (old := 0) rfl rfl rfl) (vnl (qth (vc_true rfl (wsq (wrg (vQ tab rfl (vQ tab rfl (vnl ?_)))))))))))))))))))))))
  refine qth (vw_ret (q_thenr ?_))
  exact ⟨⟨.inr rfl, rfl⟩, fun _ => rfl, fun _ => rfl, trivial⟩
theorem getN_two (s : Bs) (a : Int) : (∃ x t, getN s a = (x, t, 0, 0)) ∨ ∃ e p, getN s a = (0, 0, e, p) ∧ e ≠ 0 := by
  unfold getN
  repeat' split
  all_goals first
    | exact .inr ⟨_, _, rfl, by decide⟩
    | exact .inl ⟨_, _, rfl⟩
theorem fgetnum_fun (s : ByteArray) (a : Int) (hs : s.size ≤ 9223372036854775807) : Fun Tryd.prog 11 [.string s, .int .i64 a] (getR (B s) a) := by
  rcases getN_two (B s) a with ⟨x, t, h⟩ | ⟨e, p, h, he⟩
  all_goals
    rw [getR_eq h]
    refine fun_of_vw tab Tryd.func11 rfl rfl (by simp [Tryd.f11]) (lrel_cons (.string _) (lrel_cons (.int _ _) lrel_nil)) (vrel_tuple (lrel_cons (.int _ _) (lrel_cons (.int _ _) (lrel_cons (.int _ _) lrel_nil)))) ?_
  · refine wsq (wrg (vQ tab rfl (vQ tab rfl (vQ tab rfl (vnl (qth (wsq (wrg (vQ tab rfl (vQ tab rfl (vF rfl callable_21 (fnum_good h hs) (vQ tab rfl (vQ tab rfl (vQ tab rfl (vQ tab rfl (vQ tab rfl (vQ tab rfl (vQ tab rfl (vnl (qth (wsq (wrg (vQ tab rfl ?_)))))))))))))))))))))))
    refine vQ tab rfl (vQ tab rfl (vF rfl callable_22 (code_nil) (vQ tab rfl (vQ tab rfl (vQ tab rfl (vnl (qth (vw_ret ?_))))))))
    exact ⟨.inr rfl, rfl⟩
  · refine wsq (wrg (vQ tab rfl (vQ tab rfl (vQ tab rfl (vnl (qth (wsq (wrg (vQ tab rfl (vQ tab rfl (vT rfl callable_21 (fnum_bad h he hs) (vQ tab rfl (vQ tab rfl (vQ tab rfl (vQ tab rfl (vQ tab rfl (vQ tab rfl (vQ tab rfl (vnl (qth (wsq (wrg (vQ tab rfl ?_)))))))))))))))))))))))
    refine vQ tab rfl (vQ tab rfl (vR rfl callable_22 (code_one (p := p) (e := e) rfl) (vQ tab rfl (vQ tab rfl (vQ tab rfl (vnl (qth (vw_ret ?_))))))))
    exact ⟨.inr rfl, rfl⟩
theorem fgettext_good {s : ByteArray} {a tT : Int} {t : Bs} (h : GoodT (B s) a t tT) (hs : s.size ≤ 9223372036854775807) : Fun Tryd.prog 15 [.string s, .int .i64 a] (.tuple #[.string (mkB t), .int .i64 tT, .int .i64 0]) := by
  refine fun_of_vw tab Tryd.func15 rfl rfl (by simp [Tryd.f15]) (lrel_cons (.string _) (lrel_cons (.int _ _) lrel_nil)) (vrel_tuple (lrel_cons (.string _) (lrel_cons (.int _ _) (lrel_cons (.int _ _) lrel_nil)))) ?_
  refine wsq (wrg (vQ tab rfl (vQ tab rfl (vQ tab rfl (vnl (qth (wsq (wrg (vQ tab rfl (vQ tab rfl (vF rfl callable_24 (ftext_good h hs) (vQ tab rfl (vQ tab rfl (vQ tab rfl (vQ tab rfl (vQ tab rfl (vQ tab rfl (vQ tab rfl (vnl (qth (wsq (wrg (vQ tab rfl ?_)))))))))))))))))))))))
  refine vQ tab rfl (vQ tab rfl (vF rfl callable_22 (code_nil) (vQ tab rfl (vQ tab rfl (vQ tab rfl (vnl (qth (vw_ret ?_))))))))
  exact ⟨.inr rfl, rfl⟩
theorem fgettext_bad {s : ByteArray} {a e : Int} (h : BadT (B s) a e) (hs : s.size ≤ 9223372036854775807) : Fun Tryd.prog 15 [.string s, .int .i64 a] (.tuple #[.string ⟨#[]⟩, .int .i64 0, .int .i64 e]) := by
  refine fun_of_vw tab Tryd.func15 rfl rfl (by simp [Tryd.f15]) (lrel_cons (.string _) (lrel_cons (.int _ _) lrel_nil)) (vrel_tuple (lrel_cons (.string _) (lrel_cons (.int _ _) (lrel_cons (.int _ _) lrel_nil)))) ?_
  rcases h with ⟨p, hg, he⟩ | ⟨p, hc⟩
  · refine wsq (wrg (vQ tab rfl (vQ tab rfl (vQ tab rfl (vnl (qth (wsq (wrg (vQ tab rfl (vQ tab rfl (vT rfl callable_24 (ftext_fail hg he hs) (vQ tab rfl (vQ tab rfl (vQ tab rfl (vQ tab rfl (vQ tab rfl (vQ tab rfl (vQ tab rfl (vnl (qth (wsq (wrg (vQ tab rfl ?_)))))))))))))))))))))))
    refine vQ tab rfl (vQ tab rfl (vR rfl callable_22 (code_two (k := 1) (a := a) (p := p) (e := e) rfl rfl (by decide)) ?_))
    refine vQ tab rfl (vQ tab rfl (vQ tab rfl (vnl (qth (vw_ret ?_)))))
    exact ⟨.inr rfl, rfl⟩
  · refine wsq (wrg (vQ tab rfl (vQ tab rfl (vQ tab rfl (vnl (qth (wsq (wrg (vQ tab rfl (vQ tab rfl (vT rfl callable_24 (ftext_cut hc hs) (vQ tab rfl (vQ tab rfl (vQ tab rfl (vQ tab rfl (vQ tab rfl (vQ tab rfl (vQ tab rfl (vnl (qth (wsq (wrg (vQ tab rfl ?_)))))))))))))))))))))))
    refine vQ tab rfl (vQ tab rfl (vR rfl callable_22 (code_one (p := p) (e := e) rfl) (vQ tab rfl (vQ tab rfl (vQ tab rfl (vnl (qth (vw_ret ?_))))))))
    exact ⟨.inr rfl, rfl⟩
theorem both_text {s : ByteArray} {a : Int} (hs : s.size ≤ 9223372036854775807) : ∃ t tT e, Fun Tryd.prog 15 [.string s, .int .i64 a] (.tuple #[.string t, .int .i64 tT, .int .i64 e]) ∧ Fun Tryd.prog 16 [.string s, .int .i64 a] (.tuple #[.string t, .int .i64 tT, .int .i64 e]) := by
  by_cases h0 : 0 ≤ a ∧ a ≤ (B s).length
  · cases h : rdT ((B s).drop a.toNat) with
    | none => obtain ⟨e, h1, _⟩ := getTR_none h0.1 h0.2 h; exact ⟨_, _, _, fgettext_bad h1 hs, gettext_bad h1 hs⟩
    | some r => obtain ⟨t, q⟩ := r; obtain ⟨tT, h1, _⟩ := getT_some h0.1 h0.2 h; exact ⟨_, _, _, fgettext_good h1 hs, gettext_good h1 hs⟩
  · have hg : getN (B s) a = (0, 0, 100, a) := by unfold getN; rw [if_pos (by omega)]
    exact ⟨_, _, _, fgettext_bad (.inl ⟨a, hg, by decide⟩) hs, gettext_bad (.inl ⟨a, hg, by decide⟩) hs⟩
/-- A text as it's written. -/
def textR (d : ByteArray) : ByteArray × Int := if d.size ≤ 65536 then (txtB d, 0) else (⟨#[]⟩, 100)
theorem text_any (d : ByteArray) : Fun Tryd.prog 13 [.string d] (.tuple #[.string (textR d).1, .int .i64 (textR d).2]) := by
  by_cases h : d.size ≤ 65536
  · unfold textR; rw [if_pos h]; exact text_fun d h
  · unfold textR; rw [if_neg h]
    refine fun_of_vw tab Tryd.func13 rfl rfl (by simp [Tryd.f13]) (lrel_cons (.string _) lrel_nil) (vrel_tuple (lrel_cons (.string _) (lrel_cons (.int _ _) lrel_nil))) ?_
    refine wsq (wrg (vQ tab rfl (vQ tab rfl (vnl (qth (wsq (wsq (wrg (vQ tab rfl (vQ tab rfl (vQ tab rfl (vnl (qth (vcd_true rfl (by simp only [decide_eq_true_eq, decide_eq_false_iff_not, Bool.not_eq_eq_eq_not, Bool.not_true, Bool.not_false, bne_iff_ne, bne_eq_false_iff_eq, beq_iff_eq, beq_eq_false_iff_ne, ne_eq, beq_self_eq_true, bne_self_eq_false, Bool.and_eq_true, Bool.and_eq_false_iff, Bool.or_eq_true, Bool.or_eq_false_iff, and_self, and_true, true_and, Bool.false_eq_true, Bool.true_eq_false, not_false_eq_true, not_true_eq_false]; first | done | omega) ?_))))))))))))))
    refine wsq (wrg (vQ tab rfl (vQ tab rfl (vnl (qth (vw_ret (q_thenr ?_)))))))
    exact ⟨.inr rfl, rfl⟩
theorem reftext_any (d : ByteArray) : Fun Tryd.prog 14 [.string d] (.tuple #[.string (textR d).1, .int .i64 (textR d).2]) := by
  by_cases h : d.size ≤ 65536
  · unfold textR; rw [if_pos h]; exact refText_fun d h
  · unfold textR; rw [if_neg h]
    refine fun_of_vw tab Tryd.func14 rfl rfl (by simp [Tryd.f14]) (lrel_cons (.string _) lrel_nil) (vrel_tuple (lrel_cons (.string _) (lrel_cons (.int _ _) lrel_nil))) ?_
    refine wsq (wrg (vQ tab rfl (vQ tab rfl (vnl (qth (wsq (wsq (wrg (vQ tab rfl (vQ tab rfl (vQ tab rfl (vnl (qth (vcd_true rfl (by simp only [decide_eq_true_eq, decide_eq_false_iff_not, Bool.not_eq_eq_eq_not, Bool.not_true, Bool.not_false, bne_iff_ne, bne_eq_false_iff_eq, beq_iff_eq, beq_eq_false_iff_ne, ne_eq, beq_self_eq_true, bne_self_eq_false, Bool.and_eq_true, Bool.and_eq_false_iff, Bool.or_eq_true, Bool.or_eq_false_iff, and_self, and_true, true_and, Bool.false_eq_true, Bool.true_eq_false, not_false_eq_true, not_true_eq_false]; first | done | omega) ?_))))))))))))))
    refine wsq (wrg (vQ tab rfl (vQ tab rfl (vnl (qth (vw_ret (q_thenr ?_)))))))
    exact ⟨.inr rfl, rfl⟩
end Go.Proofs.YtkfkdhjelncfhaaDoor
