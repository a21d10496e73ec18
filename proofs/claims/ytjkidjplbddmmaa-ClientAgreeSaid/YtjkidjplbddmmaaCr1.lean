/- The document's craft: Mac. -/
import Derived.Test.YtjkidjplbddmmaaVg1
import Derived.Test.YtjkidjplbddmmaaCr0
import Derived.Test.YtjkidjplbddmmaaBk1
import Derived.Test.YtjkidjplbddmmaaFd5
namespace Go.Proofs.Ytjkidjplbddmmaa
open Go Vm IntWalk
set_option linter.unusedVariables false
set_option linter.unusedSimpArgs false
set_option maxHeartbeats 4000000
theorem out_ref {σ : Ren} {V : Heap} {most : Int} {p t n pi ti : Nat} {l : List ByteArray} (hσp : σ p = some ⟨pi, none, 0⟩) (hσn : σ n = some ⟨ti, none, 0⟩)
    (hVp : V pi = some (refC most ti l.length)) (hVt : V ti = some (.opn (strR.cells l) 9 1)) : OutPart σ (refL most p t n l) V :=
  op_cons hσp rfl hVp (ov_ref (rel_slice hσn rfl)) rfl (op_drop (op_cons hσn rfl hVt (ov_opn strR rfl) rfl op_nil))
theorem made_tri {V : Heap} {n p t : Nat} {most : Int} {l : List ByteArray} (h : RkAt V p t most l) (hn : p < n ∧ t < n) (hl : (l.length : Int) ≤ 65536) (s : ByteArray) :
    Tri Try.prog 74 [.pointer (some ⟨p, 0, none⟩), .string s] n 1 V (fun u L => u = .tuple #[.int .i64 (craftB most l s true).1, .int .i64 (craftB most l s true).2.1] ∧ L = refL most p t n (craftB most l s true).2.2) := by
  obtain ⟨hp, ht, d1⟩ := h
  obtain ⟨n1, n2⟩ := hn
  refine call_of_vw (K := 2) (argsI := [.pointer (some ⟨0, 0, none⟩), .string s]) tab Try.func74 rfl rfl (by simp [Try.f74]) [.own p, .own t] [refC most 1 l.length, .opn (strR.cells l) 9 1] rfl (.own hp (ov_ref (rel_slice rfl rfl)) (.own ht (ov_opn strR rfl) .nil)) (by simp [ownNames, *]) (by simp [ownNames, lookNames, *]) (by simp [ownNames, *]) (al_cons (.val (rel_ptr rfl)) (al_cons (.val (.string _)) al_nil)) (seen_of (sn_own (sn_own sn_nil))) ?_
  by_cases he : (nameB most l s).2.1 = 0
  · rw [craftB_ok he]
    have h0 : ((nameB most l s).2.1 != 0) = false := by rw [he]; rfl
    refine wsq (wrg (vQ tab rfl (vQ tab rfl (vnl (qth (wsq (wrg (vQ tab rfl (vQ tab rfl (vT rfl callable_38 (refname_tri ⟨rfl, rfl, by decide⟩ (by decide) hl s) ?_))))))))))
    refine vQ tab rfl (vQ tab rfl (vQ tab rfl (vQ tab rfl (vQ tab rfl (vnl (qth (wsq (wsq (wrg (vQ tab rfl (vQ tab rfl (vnl (qth (vcd_false rfl (by simp only [h0, decide_eq_true_eq, decide_eq_false_iff_not, Bool.not_eq_eq_eq_not, Bool.not_true, Bool.not_false, bne_iff_ne, bne_eq_false_iff_eq, beq_iff_eq, beq_eq_false_iff_ne, ne_eq, beq_self_eq_true, bne_self_eq_false, Bool.and_eq_true, Bool.and_eq_false_iff, Bool.or_eq_true, Bool.or_eq_false_iff, and_self, and_true, true_and, Bool.false_eq_true, Bool.true_eq_false, not_false_eq_true, not_true_eq_false]; first | done | omega) ?_))))))))))))))
    refine vw_skip (qth (wsq (wrg (vQ tab rfl (vQ tab rfl (vQ tab rfl (vnl (qth (vw_ret ?_)))))))))
    exact out_mk [2] (.inr rfl) ⟨rfl, rfl⟩ rfl (vrel_tuple (lrel_cons (.int _ _) (lrel_cons (.int _ _) lrel_nil))) (out_ref (sigma_own (a := 0) (by simp [ownNames, *]) rfl) (sigma_at (i := 0) (by simp [ownNames, *]) rfl) rfl rfl) (told_of (by simp [ownNames, refL]))
  · rw [craftB_bad he]
    have h0 : ((nameB most l s).2.1 != 0) = true := by simpa using he
    have hk := nameB_err he
    refine wsq (wrg (vQ tab rfl (vQ tab rfl (vnl (qth (wsq (wrg (vQ tab rfl (vQ tab rfl (vT rfl callable_38 (refname_tri ⟨rfl, rfl, by decide⟩ (by decide) hl s) ?_))))))))))
    refine vQ tab rfl (vQ tab rfl (vQ tab rfl (vQ tab rfl (vQ tab rfl (vnl (qth (wsq (wsq (wrg (vQ tab rfl (vQ tab rfl (vnl (qth (vcd_true rfl (by simp only [h0, decide_eq_true_eq, decide_eq_false_iff_not, Bool.not_eq_eq_eq_not, Bool.not_true, Bool.not_false, bne_iff_ne, bne_eq_false_iff_eq, beq_iff_eq, beq_eq_false_iff_ne, ne_eq, beq_self_eq_true, bne_self_eq_false, Bool.and_eq_true, Bool.and_eq_false_iff, Bool.or_eq_true, Bool.or_eq_false_iff, and_self, and_true, true_and, Bool.false_eq_true, Bool.true_eq_false, not_false_eq_true, not_true_eq_false]; first | done | omega) ?_))))))))))))))
    refine wsq (wrg (vQ tab rfl (vQ tab rfl (vnl (qth (vw_ret (q_thenr ?_)))))))
    exact out_mk [2] (.inr rfl) ⟨rfl, rfl⟩ rfl (vrel_tuple (lrel_cons (.int _ _) (lrel_cons (.int _ _) lrel_nil))) (out_ref (sigma_own (a := 0) (by simp [ownNames, *]) rfl) (sigma_at (i := 0) (by simp [ownNames, *]) rfl) (congrArg (fun l : List ByteArray => some (refC most 2 l.length)) hk) (congrArg (fun l : List ByteArray => some (VObj.opn (strR.cells l) 9 1)) hk)) (told_of (by simp [ownNames, refL]))
theorem keyT_nums (key : Int) : (⟨#[77]⟩ : ByteArray) ++ (numR key).1 = keyT 77 key := rfl
theorem refmac_tri {V : Heap} {n p t : Nat} {most : Int} {l : List ByteArray} (h : RkAt V p t most l) (hn : p < n ∧ t < n) (hl : (l.length : Int) ≤ 65536) (key : Int) (s : ByteArray) (hs : s.size ≤ 100000) :
    Tri Try.prog 51 [.pointer (some ⟨p, 0, none⟩), .int .i64 key, .string s] n 1 V (fun u L => u = .tuple #[.int .i64 (macB most l key s).1, .int .i64 (macB most l key s).2.1] ∧ L = refL most p t n (macB most l key s).2.2) := by
  obtain ⟨hp, ht, d1⟩ := h
  obtain ⟨n1, n2⟩ := hn
  refine call_of_vw (K := 2) (argsI := [.pointer (some ⟨0, 0, none⟩), .int .i64 key, .string s]) tab Try.func51 rfl rfl (by simp [Try.f51]) [.own p, .own t] [refC most 1 l.length, .opn (strR.cells l) 9 1] rfl (.own hp (ov_ref (rel_slice rfl rfl)) (.own ht (ov_opn strR rfl) .nil)) (by simp [ownNames, *]) (by simp [ownNames, lookNames, *]) (by simp [ownNames, *]) (al_cons (.val (rel_ptr rfl)) (al_cons (.val (.int _ _)) (al_cons (.val (.string _)) al_nil))) (seen_of (sn_own (sn_own sn_nil))) ?_
  have hz := keyT_size 77 key
  have hz1 := numR_size key
  unfold macB
  cases hk : okN key with
  | false =>
    rw [craftB_no]
    refine wsq (wrg (vQ tab rfl (vQ tab rfl (vnl (qth (wsq (wsq (wrg (vQ tab rfl (vF rfl callable_73 (refnum_fun key) (vQ tab rfl (vnl (qth (vcd_true rfl (by simp only [hk, decide_eq_true_eq, decide_eq_false_iff_not, Bool.not_eq_eq_eq_not, Bool.not_true, Bool.not_false, bne_iff_ne, bne_eq_false_iff_eq, beq_iff_eq, beq_eq_false_iff_ne, ne_eq, beq_self_eq_true, bne_self_eq_false, Bool.and_eq_true, Bool.and_eq_false_iff, Bool.or_eq_true, Bool.or_eq_false_iff, and_self, and_true, true_and, Bool.false_eq_true, Bool.true_eq_false, not_false_eq_true, not_true_eq_false]; first | done | omega) ?_))))))))))))))
    refine wsq (wrg (vQ tab rfl (vQ tab rfl (vnl (qth (vw_ret (q_thenr ?_)))))))
    exact out_mk [1] (.inr rfl) ⟨rfl, rfl⟩ rfl (vrel_tuple (lrel_cons (.int _ _) (lrel_cons (.int _ _) lrel_nil))) (out_ref (sigma_own (a := 0) (by simp [ownNames, *]) rfl) (sigma_at (i := 0) (by simp [ownNames, *]) rfl) rfl rfl) (told_of (by simp [ownNames, refL]))
  | true =>
    refine wsq (wrg (vQ tab rfl (vQ tab rfl (vnl (qth (wsq (wsq (wrg (vQ tab rfl (vF rfl callable_73 (refnum_fun key) (vQ tab rfl (vnl (qth (vcd_false rfl (by simp only [hk, decide_eq_true_eq, decide_eq_false_iff_not, Bool.not_eq_eq_eq_not, Bool.not_true, Bool.not_false, bne_iff_ne, bne_eq_false_iff_eq, beq_iff_eq, beq_eq_false_iff_ne, ne_eq, beq_self_eq_true, bne_self_eq_false, Bool.and_eq_true, Bool.and_eq_false_iff, Bool.or_eq_true, Bool.or_eq_false_iff, and_self, and_true, true_and, Bool.false_eq_true, Bool.true_eq_false, not_false_eq_true, not_true_eq_false]; first | done | omega) ?_))))))))))))))
    refine vw_skip (qth (wsq (wrg (vQ tab rfl (vQ tab rfl (vN tab rfl (vR rfl callable_56 (nums_one (looks_opn (intR .i64) (xs := [key]) rfl rfl)) (vq_op tab rfl rfl rfl (cat_ev rfl rfl (by show 1 + _ ≤ _; omega)) ?_))))))))
    refine vQ tab rfl (vq_op tab rfl rfl rfl (cat_ev (a := keyT 77 key) rfl rfl (by omega)) ?_)
    refine vT rfl callable_74 (made_tri ⟨rfl, rfl, by decide⟩ (by decide) hl (macT key s)) ?_
    refine vQ tab rfl (vQ tab rfl (vQ tab rfl (vQ tab rfl (vnl (qth (vw_ret ?_))))))
    exact out_mk [3] (.inr rfl) ⟨rfl, rfl⟩ rfl (vrel_tuple (lrel_cons (.int _ _) (lrel_cons (.int _ _) lrel_nil))) (out_ref (sigma_own (a := 0) (by simp [ownNames, *]) rfl) (sigma_at (i := 0) (by simp [ownNames, *]) rfl) rfl rfl) (told_of (by simp [ownNames, refL]))
end Go.Proofs.Ytjkidjplbddmmaa
