/- The document's client. -/
import Derived.Test.YtjkidjplbddmmaaVg1
import Derived.Test.YtjkidjplbddmmaaCt3
import Derived.Test.YtjkidjplbddmmaaCr1
import Derived.Test.YtjkidjplbddmmaaPk3
import Derived.Test.YtjkidjplbddmmaaRp3
namespace Go.Proofs.Ytjkidjplbddmmaa
open Go Vm IntWalk
set_option linter.unusedVariables false
set_option linter.unusedSimpArgs false
set_option maxHeartbeats 32000000
theorem refmac_as {V : Heap} {n p t : Nat} {most : Int} {l : List ByteArray} {key : Int} {s : ByteArray} (r : Int × Int × List ByteArray) (hr : macB most l key s = r) (h : RkAt V p t most l) (hn : p < n ∧ t < n) (hl : (l.length : Int) ≤ 65536) (hs : s.size ≤ 100000) :
    Tri Try.prog 51 [.pointer (some ⟨p, 0, none⟩), .int .i64 key, .string s] n 1 V (fun u L => u = .tuple #[.int .i64 r.1, .int .i64 r.2.1] ∧ L = refL most p t n r.2.2) := by subst hr; exact refmac_tri h hn hl key s hs
theorem reftickm_fun (t : Int) : Fun Try.prog 75 [.int .i64 t] (.bool (decide (0 ≤ t) && decide (t ≤ 1048575))) := reftick_fun t
theorem refstep_fun (t : Int) : Fun Try.prog 53 [.int .i64 t] (.int .i64 (stepR t)) := by
  refine fun_of_vw tab Try.func53 rfl rfl (by simp [Try.f53]) (lrel_cons (.int _ _) lrel_nil) (.int _ _) ?_
  by_cases h : 0 ≤ t ∧ t ≤ 1048575
  · have e : stepR t = t / 30 + 1 := if_pos h
    have hc : (decide (0 ≤ t) && decide (t ≤ 1048575)) = true := by simp [h]
    rw [e]
    refine wsq (wrg (vQ tab rfl (vnl (qth (wsq (wsq (wrg (vQ tab rfl (vF rfl callable_75 (reftickm_fun t) (vQ tab rfl (vnl (qth (vcd_false rfl (by simp only [hc, decide_eq_true_eq, decide_eq_false_iff_not, Bool.not_eq_eq_eq_not, Bool.not_true, Bool.not_false, bne_iff_ne, bne_eq_false_iff_eq, beq_iff_eq, beq_eq_false_iff_ne, ne_eq, beq_self_eq_true, bne_self_eq_false, Bool.and_eq_true, Bool.and_eq_false_iff, Bool.or_eq_true, Bool.or_eq_false_iff, and_self, and_true, true_and, Bool.false_eq_true, Bool.true_eq_false, not_false_eq_true, not_true_eq_false]; first | done | omega) ?_)))))))))))))
    refine vw_skip (qth (wsq (wrg (vQ tab rfl (vQ tab rfl (vQ tab rfl (vQ tab rfl (vnl (qth (vw_ret ?_))))))))))
    refine ⟨.inr rfl, Eq.trans (b := some (.int .i64 _)) rfl (congrArg (fun b => some (Value.int .i64 b)) ?_)⟩
    have e1 := i64_in (t / 30) (by omega)
    have e2 := i64_in (t / 30 + 1) (by omega)
    rw [Int.tdiv_eq_ediv_of_nonneg h.1, e1, e2]
  · have e : stepR t = 0 := if_neg h
    have hc : (decide (0 ≤ t) && decide (t ≤ 1048575)) = false := by
      rw [Bool.and_eq_false_iff, decide_eq_false_iff_not, decide_eq_false_iff_not]; omega
    rw [e]
    refine wsq (wrg (vQ tab rfl (vnl (qth (wsq (wsq (wrg (vQ tab rfl (vF rfl callable_75 (reftickm_fun t) (vQ tab rfl (vnl (qth (vcd_true rfl (by simp only [hc, decide_eq_true_eq, decide_eq_false_iff_not, Bool.not_eq_eq_eq_not, Bool.not_true, Bool.not_false, bne_iff_ne, bne_eq_false_iff_eq, beq_iff_eq, beq_eq_false_iff_ne, ne_eq, beq_self_eq_true, bne_self_eq_false, Bool.and_eq_true, Bool.and_eq_false_iff, Bool.or_eq_true, Bool.or_eq_false_iff, and_self, and_true, true_and, Bool.false_eq_true, Bool.true_eq_false, not_false_eq_true, not_true_eq_false]; first | done | omega) ?_)))))))))))))
    refine wsq (wrg (vQ tab rfl (vnl (qth (vw_ret (q_thenr ?_))))))
    exact ⟨.inr rfl, rfl⟩
theorem refcode_tri {V : Heap} {n p t : Nat} {most : Int} {l : List ByteArray} (hb : RkAt V p t most l) (hn : p < n ∧ t < n) (hl : (l.length : Int) ≤ 65536) (secret step : Int) :
    Tri Try.prog 52 [.pointer (some ⟨p, 0, none⟩), .int .i64 secret, .int .i64 step] n 1 V (fun u L => u = .tuple #[.int .i64 (codeR most l secret step).1, .int .i64 (codeR most l secret step).2.1] ∧ L = refL most p t n (codeR most l secret step).2.2) := by
  obtain ⟨hp, ht, d1⟩ := hb
  obtain ⟨n1, n2⟩ := hn
  refine call_of_vw (K := 2) (argsI := [.pointer (some ⟨0, 0, none⟩), .int .i64 secret, .int .i64 step]) tab Try.func52 rfl rfl (by simp [Try.f52]) [.own p, .own t] [refC most 1 l.length, .opn (strR.cells l) 9 1] rfl (.own hp (ov_ref (rel_slice rfl rfl)) (.own ht (ov_opn strR rfl) .nil)) (by simp [ownNames, *]) (by simp [ownNames, lookNames, *]) (by simp [ownNames, *]) (al_cons (.val (rel_ptr rfl)) (al_cons (.val (.int _ _)) (al_cons (.val (.int _ _)) al_nil))) (seen_of (sn_own (sn_own sn_nil))) ?_
  have hz := codeT_size step
  have hz1 := numR_size step
  cases hk : stepOk step with
  | false =>
    rw [codeR_no hk]
    unfold stepOk at hk
    simp only [Bool.and_eq_false_iff, decide_eq_false_iff_not] at hk
    by_cases h1 : step < 1
    · refine wsq (wrg (vQ tab rfl (vQ tab rfl (vnl (qth (wsq (wsq (wrg (vQ tab rfl (vQ tab rfl (vQ tab rfl (vgd_op true rfl rfl rfl (by simp only [decide_eq_true_eq, decide_eq_false_iff_not, Bool.not_eq_eq_eq_not, Bool.not_true, Bool.not_false, bne_iff_ne, bne_eq_false_iff_eq, beq_iff_eq, beq_eq_false_iff_ne, ne_eq, beq_self_eq_true, bne_self_eq_false, Bool.and_eq_true, Bool.and_eq_false_iff, Bool.or_eq_true, Bool.or_eq_false_iff, and_self, and_true, true_and, Bool.false_eq_true, Bool.true_eq_false, not_false_eq_true, not_true_eq_false]; first | done | omega) ?_))))))))))))
      refine vK rfl (vK rfl (vQ tab rfl (vnl (qth (vc_true rfl (wsq (wrg (vQ tab rfl (vQ tab rfl (vnl (qth (vw_ret (q_thenr ?_)))))))))))))
      exact out_mk [1] (.inr rfl) ⟨rfl, rfl⟩ rfl (vrel_tuple (lrel_cons (.int _ _) (lrel_cons (.int _ _) lrel_nil))) (out_ref (sigma_own (a := 0) (by simp [ownNames, *]) rfl) (sigma_at (i := 0) (by simp [ownNames, *]) rfl) rfl rfl) (told_of (by simp [ownNames, refL]))
    · refine wsq (wrg (vQ tab rfl (vQ tab rfl (vnl (qth (wsq (wsq (wrg (vQ tab rfl (vQ tab rfl (vQ tab rfl (vgd_op false rfl rfl rfl (by simp only [decide_eq_true_eq, decide_eq_false_iff_not, Bool.not_eq_eq_eq_not, Bool.not_true, Bool.not_false, bne_iff_ne, bne_eq_false_iff_eq, beq_iff_eq, beq_eq_false_iff_ne, ne_eq, beq_self_eq_true, bne_self_eq_false, Bool.and_eq_true, Bool.and_eq_false_iff, Bool.or_eq_true, Bool.or_eq_false_iff, and_self, and_true, true_and, Bool.false_eq_true, Bool.true_eq_false, not_false_eq_true, not_true_eq_false]; first | done | omega) ?_))))))))))))
      refine vQ tab rfl (vQ tab rfl (vQ tab rfl (vnl (qth (vcd_true rfl (by simp only [decide_eq_true_eq, decide_eq_false_iff_not, Bool.not_eq_eq_eq_not, Bool.not_true, Bool.not_false, bne_iff_ne, bne_eq_false_iff_eq, beq_iff_eq, beq_eq_false_iff_ne, ne_eq, beq_self_eq_true, bne_self_eq_false, Bool.and_eq_true, Bool.and_eq_false_iff, Bool.or_eq_true, Bool.or_eq_false_iff, and_self, and_true, true_and, Bool.false_eq_true, Bool.true_eq_false, not_false_eq_true, not_true_eq_false]; first | done | omega) ?_)))))
      refine wsq (wrg (vQ tab rfl (vQ tab rfl (vnl (qth (vw_ret (q_thenr ?_)))))))
      exact out_mk [1] (.inr rfl) ⟨rfl, rfl⟩ rfl (vrel_tuple (lrel_cons (.int _ _) (lrel_cons (.int _ _) lrel_nil))) (out_ref (sigma_own (a := 0) (by simp [ownNames, *]) rfl) (sigma_at (i := 0) (by simp [ownNames, *]) rfl) rfl rfl) (told_of (by simp [ownNames, refL]))
  | true =>
    have hk2 := hk
    unfold stepOk at hk2
    simp only [Bool.and_eq_true, decide_eq_true_eq] at hk2
    by_cases he : (macB most l secret (codeT step)).2.1 = 0
    · rw [codeR_ok hk he]
      have hr := mac_split he
      refine wsq (wrg (vQ tab rfl (vQ tab rfl (vnl (qth (wsq (wsq (wrg (vQ tab rfl (vQ tab rfl (vQ tab rfl (vgd_op false rfl rfl rfl (by simp only [decide_eq_true_eq, decide_eq_false_iff_not, Bool.not_eq_eq_eq_not, Bool.not_true, Bool.not_false, bne_iff_ne, bne_eq_false_iff_eq, beq_iff_eq, beq_eq_false_iff_ne, ne_eq, beq_self_eq_true, bne_self_eq_false, Bool.and_eq_true, Bool.and_eq_false_iff, Bool.or_eq_true, Bool.or_eq_false_iff, and_self, and_true, true_and, Bool.false_eq_true, Bool.true_eq_false, not_false_eq_true, not_true_eq_false]; first | done | omega) ?_))))))))))))
      refine vQ tab rfl (vQ tab rfl (vQ tab rfl (vnl (qth (vcd_false rfl (by simp only [decide_eq_true_eq, decide_eq_false_iff_not, Bool.not_eq_eq_eq_not, Bool.not_true, Bool.not_false, bne_iff_ne, bne_eq_false_iff_eq, beq_iff_eq, beq_eq_false_iff_ne, ne_eq, beq_self_eq_true, bne_self_eq_false, Bool.and_eq_true, Bool.and_eq_false_iff, Bool.or_eq_true, Bool.or_eq_false_iff, and_self, and_true, true_and, Bool.false_eq_true, Bool.true_eq_false, not_false_eq_true, not_true_eq_false]; first | done | omega) ?_)))))
      refine vw_skip (qth (wsq (wrg (vQ tab rfl (vQ tab rfl (vQ tab rfl (vN tab rfl (vR rfl callable_56 (nums_one (looks_opn (intR .i64) (xs := [step]) rfl rfl)) (vq_op tab rfl rfl rfl (cat_ev rfl rfl (by show 4 + _ ≤ _; omega)) ?_)))))))))
      refine vT rfl callable_51 (refmac_as (s := codeT step) _ hr ⟨rfl, rfl, by decide⟩ (by decide) hl (by omega)) ?_
      refine vQ tab rfl (vQ tab rfl (vQ tab rfl (vQ tab rfl (vQ tab rfl (vnl (qth (wsq (wsq (wrg (vQ tab rfl (vQ tab rfl (vnl (qth (vc_false rfl (vw_skip (qth (wsq (wrg (vQ tab rfl (vQ tab rfl (vQ tab rfl (vnl (qth ?_)))))))))))))))))))))))
      refine vw_ret ?_
      exact out_mk [3] (.inr rfl) ⟨rfl, rfl⟩ rfl (vrel_tuple (lrel_cons (.int _ _) (lrel_cons (.int _ _) lrel_nil))) (out_ref (sigma_own (a := 0) (by simp [ownNames, *]) rfl) (sigma_at (i := 0) (by simp [ownNames, *]) rfl) rfl rfl) (told_of (by simp [ownNames, refL]))
    · rw [codeR_bad hk he]
      have hr := macB_code he
      refine wsq (wrg (vQ tab rfl (vQ tab rfl (vnl (qth (wsq (wsq (wrg (vQ tab rfl (vQ tab rfl (vQ tab rfl (vgd_op false rfl rfl rfl (by simp only [decide_eq_true_eq, decide_eq_false_iff_not, Bool.not_eq_eq_eq_not, Bool.not_true, Bool.not_false, bne_iff_ne, bne_eq_false_iff_eq, beq_iff_eq, beq_eq_false_iff_ne, ne_eq, beq_self_eq_true, bne_self_eq_false, Bool.and_eq_true, Bool.and_eq_false_iff, Bool.or_eq_true, Bool.or_eq_false_iff, and_self, and_true, true_and, Bool.false_eq_true, Bool.true_eq_false, not_false_eq_true, not_true_eq_false]; first | done | omega) ?_))))))))))))
      refine vQ tab rfl (vQ tab rfl (vQ tab rfl (vnl (qth (vcd_false rfl (by simp only [decide_eq_true_eq, decide_eq_false_iff_not, Bool.not_eq_eq_eq_not, Bool.not_true, Bool.not_false, bne_iff_ne, bne_eq_false_iff_eq, beq_iff_eq, beq_eq_false_iff_ne, ne_eq, beq_self_eq_true, bne_self_eq_false, Bool.and_eq_true, Bool.and_eq_false_iff, Bool.or_eq_true, Bool.or_eq_false_iff, and_self, and_true, true_and, Bool.false_eq_true, Bool.true_eq_false, not_false_eq_true, not_true_eq_false]; first | done | omega) ?_)))))
      refine vw_skip (qth (wsq (wrg (vQ tab rfl (vQ tab rfl (vQ tab rfl (vN tab rfl (vR rfl callable_56 (nums_one (looks_opn (intR .i64) (xs := [step]) rfl rfl)) (vq_op tab rfl rfl rfl (cat_ev rfl rfl (by show 4 + _ ≤ _; omega)) ?_)))))))))
      refine vT rfl callable_51 (refmac_as (s := codeT step) _ hr ⟨rfl, rfl, by decide⟩ (by decide) hl (by omega)) ?_
      refine vQ tab rfl (vQ tab rfl (vQ tab rfl (vQ tab rfl (vQ tab rfl (vnl (qth (wsq (wsq (wrg (vQ tab rfl (vQ tab rfl (vnl (qth (vc_true rfl (wsq (wrg (vQ tab rfl (vQ tab rfl (vnl (qth (vw_ret (q_thenr ?_))))))))))))))))))))))
      exact out_mk [3] (.inr rfl) ⟨rfl, rfl⟩ rfl (vrel_tuple (lrel_cons (.int _ _) (lrel_cons (.int _ _) lrel_nil))) (out_ref (sigma_own (a := 0) (by simp [ownNames, *]) rfl) (sigma_at (i := 0) (by simp [ownNames, *]) rfl) rfl rfl) (told_of (by simp [ownNames, refL]))
theorem refcode_as {V : Heap} {n p t : Nat} {most : Int} {l : List ByteArray} {secret step : Int} (r : Int × Int × List ByteArray) (hr : codeR most l secret step = r) (h : RkAt V p t most l) (hn : p < n ∧ t < n) (hl : (l.length : Int) ≤ 65536) :
    Tri Try.prog 52 [.pointer (some ⟨p, 0, none⟩), .int .i64 secret, .int .i64 step] n 1 V (fun u L => u = .tuple #[.int .i64 r.1, .int .i64 r.2.1] ∧ L = refL most p t n r.2.2) := by subst hr; exact refcode_tri h hn hl secret step
theorem code_split {most : Int} {l : List ByteArray} {k s : Int} (h : (codeR most l k s).2.1 = 0) : codeR most l k s = ((codeR most l k s).1, 0, (codeR most l k s).2.2) := by
  rw [Prod.ext_iff, Prod.ext_iff]; exact ⟨rfl, h, rfl⟩
theorem transcript_fun (a b c : Int) : Fun Try.prog 50 [.int .i64 a, .int .i64 b, .int .i64 c] (.string (numsB [a, b, c])) := by
  refine fun_of_vw tab Try.func50 rfl rfl (by simp [Try.f50]) (lrel_cons (.int _ _) (lrel_cons (.int _ _) (lrel_cons (.int _ _) lrel_nil))) (.string _) ?_
  refine wsq (wrg (vQ tab rfl (vnl (qth (wsq (wrg (vQ tab rfl (vQ tab rfl (vQ tab rfl (vN tab rfl (vR rfl callable_56 (nums_tri (looks_opn (intR .i64) (xs := [a, b, c]) rfl rfl) (by simp)) ?_)))))))))))
  refine vQ tab rfl (vnl (qth (vw_ret ?_)))
  exact ⟨.inr rfl, rfl⟩
theorem refbye_tri {V : Heap} {n p t : Nat} {most : Int} {l : List ByteArray} (hb : RkAt V p t most l) (hn : p < n ∧ t < n) (hl : (l.length : Int) ≤ 65536) (key session : Int) :
    Tri Try.prog 25 [.pointer (some ⟨p, 0, none⟩), .int .i64 key, .int .i64 session] n 1 V (fun u L => u = .tuple #[pktV (byeR most l key session).1, .int .i64 (byeR most l key session).2.1] ∧ L = refL most p t n (byeR most l key session).2.2) := by
  obtain ⟨hp, ht, d1⟩ := hb
  obtain ⟨n1, n2⟩ := hn
  refine call_of_vw (K := 2) (argsI := [.pointer (some ⟨0, 0, none⟩), .int .i64 key, .int .i64 session]) tab Try.func25 rfl rfl (by simp [Try.f25]) [.own p, .own t] [refC most 1 l.length, .opn (strR.cells l) 9 1] rfl (.own hp (ov_ref (rel_slice rfl rfl)) (.own ht (ov_opn strR rfl) .nil)) (by simp [ownNames, *]) (by simp [ownNames, lookNames, *]) (by simp [ownNames, *]) (al_cons (.val (rel_ptr rfl)) (al_cons (.val (.int _ _)) (al_cons (.val (.int _ _)) al_nil))) (seen_of (sn_own (sn_own sn_nil))) ?_
  unfold byeR
  cases hk : pktMay ⟨4, 0, 0, 0, 0, 0, session, 0, ⟨#[]⟩⟩ with
  | false =>
    rw [taggedR_no hk]
    refine wsq (wrg (vN tab rfl (vQ tab rfl (vnl (qth (wsq (wrg (vQ tab rfl (vQ tab rfl (vN tab rfl (vS tab rfl (vnl (qth (wsq (wsq (wrg (vQ tab rfl (vF rfl callable_48 (refpkt_may ⟨4, 0, 0, 0, 0, 0, session, 0, ⟨#[]⟩⟩) (vQ tab rfl (vnl (qth (vcd_true rfl (by simp only [hk, decide_eq_true_eq, decide_eq_false_iff_not, Bool.not_eq_eq_eq_not, Bool.not_true, Bool.not_false, bne_iff_ne, bne_eq_false_iff_eq, beq_iff_eq, beq_eq_false_iff_ne, ne_eq, beq_self_eq_true, bne_self_eq_false, Bool.and_eq_true, Bool.and_eq_false_iff, Bool.or_eq_true, Bool.or_eq_false_iff, and_self, and_true, true_and, Bool.false_eq_true, Bool.true_eq_false, not_false_eq_true, not_true_eq_false]; first | done | omega) ?_))))))))))))))))))))))
    refine wsq (wrg (vQ tab rfl (vS tab rfl (vQ tab rfl (vnl (qth (vw_ret (q_thenr ?_))))))))
    exact out_mk [1] (.inr rfl) ⟨rfl, rfl⟩ rfl (vrel_tuple (lrel_cons (pktRel zeroP) (lrel_cons (.int _ _) lrel_nil))) (out_ref (sigma_own (a := 0) (by simp [ownNames, *]) rfl) (sigma_at (i := 0) (by simp [ownNames, *]) rfl) rfl rfl) (told_of (by simp [ownNames, refL]))
  | true =>
    have hbs : byeT.size ≤ 100000 := by decide
    by_cases he : (macB most l key byeT).2.1 = 0
    · rw [taggedR_ok hk he]
      have hr := mac_split he
      refine wsq (wrg (vN tab rfl (vQ tab rfl (vnl (qth (wsq (wrg (vQ tab rfl (vQ tab rfl (vN tab rfl (vS tab rfl (vnl (qth (wsq (wsq (wrg (vQ tab rfl (vF rfl callable_48 (refpkt_may ⟨4, 0, 0, 0, 0, 0, session, 0, ⟨#[]⟩⟩) (vQ tab rfl (vnl (qth (vcd_false rfl (by simp only [hk, decide_eq_true_eq, decide_eq_false_iff_not, Bool.not_eq_eq_eq_not, Bool.not_true, Bool.not_false, bne_iff_ne, bne_eq_false_iff_eq, beq_iff_eq, beq_eq_false_iff_ne, ne_eq, beq_self_eq_true, bne_self_eq_false, Bool.and_eq_true, Bool.and_eq_false_iff, Bool.or_eq_true, Bool.or_eq_false_iff, and_self, and_true, true_and, Bool.false_eq_true, Bool.true_eq_false, not_false_eq_true, not_true_eq_false]; first | done | omega) ?_))))))))))))))))))))))
      refine vw_skip (qth (wsq (wrg (vQ tab rfl (vQ tab rfl (vT rfl callable_51 (refmac_as (s := byeT) _ hr ⟨rfl, rfl, by decide⟩ (by decide) hl (by omega)) ?_))))))
      refine vQ tab rfl (vQ tab rfl (vQ tab rfl (vQ tab rfl (vQ tab rfl (vnl (qth (wsq (wsq (wrg (vQ tab rfl (vQ tab rfl (vnl (qth (vc_false rfl (vw_skip (qth (wsq (wrg (vQ tab rfl (vQ tab rfl (vS tab rfl (vnl (qth ?_)))))))))))))))))))))))
      refine wsq (wrg (vQ tab rfl (vS tab rfl (vQ tab rfl (vnl (qth (vw_ret ?_)))))))
      exact out_mk [4] (.inr rfl) ⟨rfl, rfl⟩ rfl (vrel_tuple (lrel_cons (pktRel _) (lrel_cons (.int _ _) lrel_nil))) (out_ref (sigma_own (a := 0) (by simp [ownNames, *]) rfl) (sigma_at (i := 0) (by simp [ownNames, *]) rfl) rfl rfl) (told_of (by simp [ownNames, refL]))
    · rw [taggedR_bad hk he]
      have hr := macB_code he
      refine wsq (wrg (vN tab rfl (vQ tab rfl (vnl (qth (wsq (wrg (vQ tab rfl (vQ tab rfl (vN tab rfl (vS tab rfl (vnl (qth (wsq (wsq (wrg (vQ tab rfl (vF rfl callable_48 (refpkt_may ⟨4, 0, 0, 0, 0, 0, session, 0, ⟨#[]⟩⟩) (vQ tab rfl (vnl (qth (vcd_false rfl (by simp only [hk, decide_eq_true_eq, decide_eq_false_iff_not, Bool.not_eq_eq_eq_not, Bool.not_true, Bool.not_false, bne_iff_ne, bne_eq_false_iff_eq, beq_iff_eq, beq_eq_false_iff_ne, ne_eq, beq_self_eq_true, bne_self_eq_false, Bool.and_eq_true, Bool.and_eq_false_iff, Bool.or_eq_true, Bool.or_eq_false_iff, and_self, and_true, true_and, Bool.false_eq_true, Bool.true_eq_false, not_false_eq_true, not_true_eq_false]; first | done | omega) ?_))))))))))))))))))))))
      refine vw_skip (qth (wsq (wrg (vQ tab rfl (vQ tab rfl (vT rfl callable_51 (refmac_as (s := byeT) _ hr ⟨rfl, rfl, by decide⟩ (by decide) hl (by omega)) ?_))))))
      refine vQ tab rfl (vQ tab rfl (vQ tab rfl (vQ tab rfl (vQ tab rfl (vnl (qth (wsq (wsq (wrg (vQ tab rfl (vQ tab rfl (vnl (qth (vc_true rfl (wsq (wrg (vQ tab rfl (vS tab rfl (vQ tab rfl (vnl (qth (vw_ret (q_thenr ?_)))))))))))))))))))))))
      exact out_mk [4] (.inr rfl) ⟨rfl, rfl⟩ rfl (vrel_tuple (lrel_cons (pktRel zeroP) (lrel_cons (.int _ _) lrel_nil))) (out_ref (sigma_own (a := 0) (by simp [ownNames, *]) rfl) (sigma_at (i := 0) (by simp [ownNames, *]) rfl) rfl rfl) (told_of (by simp [ownNames, refL]))
theorem refdata_tri {V : Heap} {n p t : Nat} {most : Int} {l : List ByteArray} (hb : RkAt V p t most l) (hn : p < n ∧ t < n) (hl : (l.length : Int) ≤ 65536) (key session seq : Int) (data : ByteArray) :
    Tri Try.prog 24 [.pointer (some ⟨p, 0, none⟩), .int .i64 key, .int .i64 session, .int .i64 seq, .string data] n 1 V (fun u L => u = .tuple #[pktV (dataR most l key session seq data).1, .int .i64 (dataR most l key session seq data).2.1] ∧ L = refL most p t n (dataR most l key session seq data).2.2) := by
  obtain ⟨hp, ht, d1⟩ := hb
  obtain ⟨n1, n2⟩ := hn
  refine call_of_vw (K := 2) (argsI := [.pointer (some ⟨0, 0, none⟩), .int .i64 key, .int .i64 session, .int .i64 seq, .string data]) tab Try.func24 rfl rfl (by simp [Try.f24]) [.own p, .own t] [refC most 1 l.length, .opn (strR.cells l) 9 1] rfl (.own hp (ov_ref (rel_slice rfl rfl)) (.own ht (ov_opn strR rfl) .nil)) (by simp [ownNames, *]) (by simp [ownNames, lookNames, *]) (by simp [ownNames, *]) (al_cons (.val (rel_ptr rfl)) (al_cons (.val (.int _ _)) (al_cons (.val (.int _ _)) (al_cons (.val (.int _ _)) (al_cons (.val (.string _)) al_nil))))) (seen_of (sn_own (sn_own sn_nil))) ?_
  unfold dataR
  cases hk : pktMay ⟨3, 0, 0, 0, 0, 0, session, seq, data⟩ with
  | false =>
    rw [taggedR_no hk]
    refine wsq (wrg (vN tab rfl (vQ tab rfl (vnl (qth (wsq (wrg (vQ tab rfl (vQ tab rfl (vQ tab rfl (vQ tab rfl (vN tab rfl (vS tab rfl (vnl (qth (wsq (wsq (wrg (vQ tab rfl (vF rfl callable_48 (refpkt_may ⟨3, 0, 0, 0, 0, 0, session, seq, data⟩) (vQ tab rfl (vnl (qth ?_)))))))))))))))))))))))
    refine vcd_true rfl (by simp only [hk, decide_eq_true_eq, decide_eq_false_iff_not, Bool.not_eq_eq_eq_not, Bool.not_true, Bool.not_false, bne_iff_ne, bne_eq_false_iff_eq, beq_iff_eq, beq_eq_false_iff_ne, ne_eq, beq_self_eq_true, bne_self_eq_false, Bool.and_eq_true, Bool.and_eq_false_iff, Bool.or_eq_true, Bool.or_eq_false_iff, and_self, and_true, true_and, Bool.false_eq_true, Bool.true_eq_false, not_false_eq_true, not_true_eq_false]; first | done | omega) ?_
    refine wsq (wrg (vQ tab rfl (vS tab rfl (vQ tab rfl (vnl (qth (vw_ret (q_thenr ?_))))))))
    exact out_mk [1] (.inr rfl) ⟨rfl, rfl⟩ rfl (vrel_tuple (lrel_cons (pktRel zeroP) (lrel_cons (.int _ _) lrel_nil))) (out_ref (sigma_own (a := 0) (by simp [ownNames, *]) rfl) (sigma_at (i := 0) (by simp [ownNames, *]) rfl) rfl rfl) (told_of (by simp [ownNames, refL]))
  | true =>
    have hds : data.size ≤ 65536 := by
      unfold pktMay at hk
      simp at hk
      omega
    have hte : (textR data).1 = txtB data := by unfold textR; rw [if_pos hds]
    have z1 := numR_size seq
    have z2 := txtB_size data
    have z3 := dataT_size seq data
    have hT : dataT seq data = ⟨#[100, 97, 116, 97]⟩ ++ (numR seq).1 ++ txtB data := by unfold dataT; rw [hte]
    rw [hT] at z3 ⊢
    by_cases he : (macB most l key (⟨#[100, 97, 116, 97]⟩ ++ (numR seq).1 ++ txtB data)).2.1 = 0
    · rw [taggedR_ok hk he]
      have hr := mac_split he
      refine wsq (wrg (vN tab rfl (vQ tab rfl (vnl (qth (wsq (wrg (vQ tab rfl (vQ tab rfl (vQ tab rfl (vQ tab rfl (vN tab rfl (vS tab rfl (vnl (qth (wsq (wsq (wrg (vQ tab rfl (vF rfl callable_48 (refpkt_may ⟨3, 0, 0, 0, 0, 0, session, seq, data⟩) (vQ tab rfl (vnl (qth ?_)))))))))))))))))))))))
      refine vcd_false rfl (by simp only [hk, decide_eq_true_eq, decide_eq_false_iff_not, Bool.not_eq_eq_eq_not, Bool.not_true, Bool.not_false, bne_iff_ne, bne_eq_false_iff_eq, beq_iff_eq, beq_eq_false_iff_ne, ne_eq, beq_self_eq_true, bne_self_eq_false, Bool.and_eq_true, Bool.and_eq_false_iff, Bool.or_eq_true, Bool.or_eq_false_iff, and_self, and_true, true_and, Bool.false_eq_true, Bool.true_eq_false, not_false_eq_true, not_true_eq_false]; first | done | omega) ?_
      refine vw_skip (qth (wsq (wrg (vQ tab rfl (vF rfl callable_57 (refText_fun data hds) (vQ tab rfl (vQ tab rfl (vQ tab rfl (vQ tab rfl (vQ tab rfl (vnl (qth (wsq (wrg (vQ tab rfl (vQ tab rfl (vQ tab rfl (vN tab rfl (vR rfl callable_56 (nums_one (looks_opn (intR .i64) (xs := [seq]) rfl rfl)) (vq_op tab rfl rfl rfl (cat_ev rfl rfl (by show 4 + _ ≤ _; omega)) ?_))))))))))))))))))))
      refine vQ tab rfl (vq_op tab rfl rfl rfl (cat_ev (a := ⟨#[100, 97, 116, 97]⟩ ++ (numR seq).1) rfl rfl (by rw [ByteArray.size_append]; show 4 + _ + _ ≤ _; omega)) ?_)
      refine vT rfl callable_51 (refmac_as (s := (⟨#[100, 97, 116, 97]⟩ ++ (numR seq).1 ++ txtB data)) _ hr ⟨rfl, rfl, by decide⟩ (by decide) hl (by omega)) ?_
      refine vQ tab rfl (vQ tab rfl (vQ tab rfl (vQ tab rfl (vQ tab rfl (vnl (qth (wsq (wsq (wrg (vQ tab rfl (vQ tab rfl (vnl (qth (vc_false rfl (vw_skip (qth (wsq (wrg (vQ tab rfl (vQ tab rfl (vS tab rfl (vnl (qth ?_)))))))))))))))))))))))
      refine wsq (wrg (vQ tab rfl (vS tab rfl (vQ tab rfl (vnl (qth (vw_ret ?_)))))))
      exact out_mk [5] (.inr rfl) ⟨rfl, rfl⟩ rfl (vrel_tuple (lrel_cons (pktRel _) (lrel_cons (.int _ _) lrel_nil))) (out_ref (sigma_own (a := 0) (by simp [ownNames, *]) rfl) (sigma_at (i := 0) (by simp [ownNames, *]) rfl) rfl rfl) (told_of (by simp [ownNames, refL]))
    · rw [taggedR_bad hk he]
      have hr := macB_code he
      refine wsq (wrg (vN tab rfl (vQ tab rfl (vnl (qth (wsq (wrg (vQ tab rfl (vQ tab rfl (vQ tab rfl (vQ tab rfl (vN tab rfl (vS tab rfl (vnl (qth (wsq (wsq (wrg (vQ tab rfl (vF rfl callable_48 (refpkt_may ⟨3, 0, 0, 0, 0, 0, session, seq, data⟩) (vQ tab rfl (vnl (qth ?_)))))))))))))))))))))))
      refine vcd_false rfl (by simp only [hk, decide_eq_true_eq, decide_eq_false_iff_not, Bool.not_eq_eq_eq_not, Bool.not_true, Bool.not_false, bne_iff_ne, bne_eq_false_iff_eq, beq_iff_eq, beq_eq_false_iff_ne, ne_eq, beq_self_eq_true, bne_self_eq_false, Bool.and_eq_true, Bool.and_eq_false_iff, Bool.or_eq_true, Bool.or_eq_false_iff, and_self, and_true, true_and, Bool.false_eq_true, Bool.true_eq_false, not_false_eq_true, not_true_eq_false]; first | done | omega) ?_
      refine vw_skip (qth (wsq (wrg (vQ tab rfl (vF rfl callable_57 (refText_fun data hds) (vQ tab rfl (vQ tab rfl (vQ tab rfl (vQ tab rfl (vQ tab rfl (vnl (qth (wsq (wrg (vQ tab rfl (vQ tab rfl (vQ tab rfl (vN tab rfl (vR rfl callable_56 (nums_one (looks_opn (intR .i64) (xs := [seq]) rfl rfl)) (vq_op tab rfl rfl rfl (cat_ev rfl rfl (by show 4 + _ ≤ _; omega)) ?_))))))))))))))))))))
      refine vQ tab rfl (vq_op tab rfl rfl rfl (cat_ev (a := ⟨#[100, 97, 116, 97]⟩ ++ (numR seq).1) rfl rfl (by rw [ByteArray.size_append]; show 4 + _ + _ ≤ _; omega)) ?_)
      refine vT rfl callable_51 (refmac_as (s := (⟨#[100, 97, 116, 97]⟩ ++ (numR seq).1 ++ txtB data)) _ hr ⟨rfl, rfl, by decide⟩ (by decide) hl (by omega)) ?_
      refine vQ tab rfl (vQ tab rfl (vQ tab rfl (vQ tab rfl (vQ tab rfl (vnl (qth (wsq (wsq (wrg (vQ tab rfl (vQ tab rfl (vnl (qth (vc_true rfl (wsq (wrg (vQ tab rfl (vS tab rfl (vQ tab rfl (vnl (qth (vw_ret (q_thenr ?_)))))))))))))))))))))))
      exact out_mk [5] (.inr rfl) ⟨rfl, rfl⟩ rfl (vrel_tuple (lrel_cons (pktRel zeroP) (lrel_cons (.int _ _) lrel_nil))) (out_ref (sigma_own (a := 0) (by simp [ownNames, *]) rfl) (sigma_at (i := 0) (by simp [ownNames, *]) rfl) rfl rfl) (told_of (by simp [ownNames, refL]))
theorem refresume_tri {V : Heap} {n p t : Nat} {most : Int} {l : List ByteArray} (hb : RkAt V p t most l) (hn : p < n ∧ t < n) (hmo : most ≤ 65536) (hl : (l.length : Int) ≤ 65536) (key ticket nonce : Int) :
    Tri Try.prog 23 [.pointer (some ⟨p, 0, none⟩), .int .i64 key, .int .i64 ticket, .int .i64 nonce] n 1 V (fun u L => u = .tuple #[pktV (resumeR most l key ticket nonce).1, .int .i64 (resumeR most l key ticket nonce).2.1, .int .i64 (resumeR most l key ticket nonce).2.2.1] ∧ L = refL most p t n (resumeR most l key ticket nonce).2.2.2) := by
  obtain ⟨hp, ht, d1⟩ := hb
  obtain ⟨n1, n2⟩ := hn
  refine call_of_vw (K := 2) (argsI := [.pointer (some ⟨0, 0, none⟩), .int .i64 key, .int .i64 ticket, .int .i64 nonce]) tab Try.func23 rfl rfl (by simp [Try.f23]) [.own p, .own t] [refC most 1 l.length, .opn (strR.cells l) 9 1] rfl (.own hp (ov_ref (rel_slice rfl rfl)) (.own ht (ov_opn strR rfl) .nil)) (by simp [ownNames, *]) (by simp [ownNames, lookNames, *]) (by simp [ownNames, *]) (al_cons (.val (rel_ptr rfl)) (al_cons (.val (.int _ _)) (al_cons (.val (.int _ _)) (al_cons (.val (.int _ _)) al_nil)))) (seen_of (sn_own (sn_own sn_nil))) ?_
  have z1 := numR_size nonce
  have z2 := resT_size nonce
  have z3 := ktT_size (numR nonce).1
  unfold resumeR
  cases hk : pktMay ⟨2, 0, nonce, 0, ticket, 0, 0, 0, ⟨#[]⟩⟩ with
  | false =>
    rw [if_neg (by decide)]
    refine wsq (wrg (vN tab rfl (vQ tab rfl (vQ tab rfl (vnl (qth (wsq (wrg (vQ tab rfl (vQ tab rfl (vQ tab rfl (vN tab rfl (vS tab rfl (vnl (qth (wsq (wsq (wrg (vQ tab rfl (vF rfl callable_48 (refpkt_may ⟨2, 0, nonce, 0, ticket, 0, 0, 0, ⟨#[]⟩⟩) (vQ tab rfl (vnl (qth ?_)))))))))))))))))))))))
    refine vcd_true rfl (by simp only [hk, decide_eq_true_eq, decide_eq_false_iff_not, Bool.not_eq_eq_eq_not, Bool.not_true, Bool.not_false, bne_iff_ne, bne_eq_false_iff_eq, beq_iff_eq, beq_eq_false_iff_ne, ne_eq, beq_self_eq_true, bne_self_eq_false, Bool.and_eq_true, Bool.and_eq_false_iff, Bool.or_eq_true, Bool.or_eq_false_iff, and_self, and_true, true_and, Bool.false_eq_true, Bool.true_eq_false, not_false_eq_true, not_true_eq_false]; first | done | omega) ?_
    refine wsq (wrg (vQ tab rfl (vS tab rfl (vQ tab rfl (vQ tab rfl (vnl (qth (vw_ret (q_thenr ?_)))))))))
    exact out_mk [1] (.inr rfl) ⟨rfl, rfl⟩ rfl (vrel_tuple (lrel_cons (pktRel zeroP) (lrel_cons (.int _ _) (lrel_cons (.int _ _) lrel_nil)))) (out_ref (sigma_own (a := 0) (by simp [ownNames, *]) rfl) (sigma_at (i := 0) (by simp [ownNames, *]) rfl) rfl rfl) (told_of (by simp [ownNames, refL]))
  | true =>
    rw [if_pos rfl]
    by_cases he : (macB most l key (resT nonce)).2.1 = 0
    case neg =>
      rw [if_neg he]
      have hr := macB_code he
      refine wsq (wrg (vN tab rfl (vQ tab rfl (vQ tab rfl (vnl (qth (wsq (wrg (vQ tab rfl (vQ tab rfl (vQ tab rfl (vN tab rfl (vS tab rfl (vnl (qth (wsq (wsq (wrg (vQ tab rfl (vF rfl callable_48 (refpkt_may ⟨2, 0, nonce, 0, ticket, 0, 0, 0, ⟨#[]⟩⟩) (vQ tab rfl (vnl (qth ?_)))))))))))))))))))))))
      refine vcd_false rfl (by simp only [hk, decide_eq_true_eq, decide_eq_false_iff_not, Bool.not_eq_eq_eq_not, Bool.not_true, Bool.not_false, bne_iff_ne, bne_eq_false_iff_eq, beq_iff_eq, beq_eq_false_iff_ne, ne_eq, beq_self_eq_true, bne_self_eq_false, Bool.and_eq_true, Bool.and_eq_false_iff, Bool.or_eq_true, Bool.or_eq_false_iff, and_self, and_true, true_and, Bool.false_eq_true, Bool.true_eq_false, not_false_eq_true, not_true_eq_false]; first | done | omega) ?_
      refine vw_skip (qth (wsq (wrg (vQ tab rfl (vQ tab rfl (vQ tab rfl (vN tab rfl (vR rfl callable_56 (nums_one (looks_opn (intR .i64) (xs := [nonce]) rfl rfl)) (vq_op tab rfl rfl rfl (cat_ev rfl rfl (by show 6 + _ ≤ _; omega)) ?_)))))))))
      refine vT rfl callable_51 (refmac_as (t := 1) (s := resT nonce) _ hr ⟨rfl, rfl, by decide⟩ (by decide) hl (by omega)) ?_
      refine vQ tab rfl (vQ tab rfl (vQ tab rfl (vQ tab rfl (vQ tab rfl (vnl (qth (wsq (wsq (wrg (vQ tab rfl (vQ tab rfl (vnl (qth (vc_true rfl (wsq (wrg (vQ tab rfl (vS tab rfl (vQ tab rfl (vQ tab rfl (vnl (qth (vw_ret ?_)))))))))))))))))))))))
      refine q_thenr ?_
      exact out_mk [5] (.inr rfl) ⟨rfl, rfl⟩ rfl (vrel_tuple (lrel_cons (pktRel zeroP) (lrel_cons (.int _ _) (lrel_cons (.int _ _) lrel_nil)))) (out_ref (sigma_own (a := 0) (by simp [ownNames, *]) rfl) (sigma_at (i := 0) (by simp [ownNames, *]) rfl) rfl rfl) (told_of (by simp [ownNames, refL]))
    rw [if_pos he]
    have hr := mac_split he
    have hl2 := macB_len (k := key) (s := resT nonce) hmo hl
    by_cases he2 : (macB most (macB most l key (resT nonce)).2.2 key (ktT (numR nonce).1)).2.1 = 0
    case neg =>
      rw [if_neg he2]
      have hr2 := macB_code he2
      refine wsq (wrg (vN tab rfl (vQ tab rfl (vQ tab rfl (vnl (qth (wsq (wrg (vQ tab rfl (vQ tab rfl (vQ tab rfl (vN tab rfl (vS tab rfl (vnl (qth (wsq (wsq (wrg (vQ tab rfl (vF rfl callable_48 (refpkt_may ⟨2, 0, nonce, 0, ticket, 0, 0, 0, ⟨#[]⟩⟩) (vQ tab rfl (vnl (qth ?_)))))))))))))))))))))))
      refine vcd_false rfl (by simp only [hk, decide_eq_true_eq, decide_eq_false_iff_not, Bool.not_eq_eq_eq_not, Bool.not_true, Bool.not_false, bne_iff_ne, bne_eq_false_iff_eq, beq_iff_eq, beq_eq_false_iff_ne, ne_eq, beq_self_eq_true, bne_self_eq_false, Bool.and_eq_true, Bool.and_eq_false_iff, Bool.or_eq_true, Bool.or_eq_false_iff, and_self, and_true, true_and, Bool.false_eq_true, Bool.true_eq_false, not_false_eq_true, not_true_eq_false]; first | done | omega) ?_
      refine vw_skip (qth (wsq (wrg (vQ tab rfl (vQ tab rfl (vQ tab rfl (vN tab rfl (vR rfl callable_56 (nums_one (looks_opn (intR .i64) (xs := [nonce]) rfl rfl)) (vq_op tab rfl rfl rfl (cat_ev rfl rfl (by show 6 + _ ≤ _; omega)) ?_)))))))))
      refine vT rfl callable_51 (refmac_as (t := 1) (s := resT nonce) _ hr ⟨rfl, rfl, by decide⟩ (by decide) hl (by omega)) ?_
      refine vQ tab rfl (vQ tab rfl (vQ tab rfl (vQ tab rfl (vQ tab rfl (vnl (qth (wsq (wsq (wrg (vQ tab rfl (vQ tab rfl (vnl (qth (vc_false rfl (vw_skip (qth (wsq (wrg (vQ tab rfl (vQ tab rfl (vQ tab rfl (vN tab rfl (vR rfl callable_56 (nums_one (looks_opn (intR .i64) (xs := [nonce]) rfl rfl)) ?_)))))))))))))))))))))))
      refine vq_op tab rfl rfl rfl (cat_ev rfl rfl (by show 3 + _ ≤ _; omega)) ?_
      refine vT rfl callable_51 (refmac_as (t := 5) (s := ktT (numR nonce).1) _ hr2 ⟨rfl, rfl, by decide⟩ (by decide) hl2 (by omega)) ?_
      refine vQ tab rfl (vQ tab rfl (vQ tab rfl (vQ tab rfl (vQ tab rfl (vnl (qth (wsq (wsq (wrg (vQ tab rfl (vQ tab rfl (vnl (qth (vc_true rfl (wsq (wrg (vQ tab rfl (vS tab rfl (vQ tab rfl (vQ tab rfl (vnl (qth (vw_ret ?_)))))))))))))))))))))))
      refine q_thenr ?_
      exact out_mk [7] (.inr rfl) ⟨rfl, rfl⟩ rfl (vrel_tuple (lrel_cons (pktRel zeroP) (lrel_cons (.int _ _) (lrel_cons (.int _ _) lrel_nil)))) (out_ref (sigma_own (a := 0) (by simp [ownNames, *]) rfl) (sigma_at (i := 0) (by simp [ownNames, *]) rfl) rfl rfl) (told_of (by simp [ownNames, refL]))
    rw [if_pos he2]
    have hr2 := mac_split he2
    refine wsq (wrg (vN tab rfl (vQ tab rfl (vQ tab rfl (vnl (qth (wsq (wrg (vQ tab rfl (vQ tab rfl (vQ tab rfl (vN tab rfl (vS tab rfl (vnl (qth (wsq (wsq (wrg (vQ tab rfl (vF rfl callable_48 (refpkt_may ⟨2, 0, nonce, 0, ticket, 0, 0, 0, ⟨#[]⟩⟩) (vQ tab rfl (vnl (qth ?_)))))))))))))))))))))))
    refine vcd_false rfl (by simp only [hk, decide_eq_true_eq, decide_eq_false_iff_not, Bool.not_eq_eq_eq_not, Bool.not_true, Bool.not_false, bne_iff_ne, bne_eq_false_iff_eq, beq_iff_eq, beq_eq_false_iff_ne, ne_eq, beq_self_eq_true, bne_self_eq_false, Bool.and_eq_true, Bool.and_eq_false_iff, Bool.or_eq_true, Bool.or_eq_false_iff, and_self, and_true, true_and, Bool.false_eq_true, Bool.true_eq_false, not_false_eq_true, not_true_eq_false]; first | done | omega) ?_
    refine vw_skip (qth (wsq (wrg (vQ tab rfl (vQ tab rfl (vQ tab rfl (vN tab rfl (vR rfl callable_56 (nums_one (looks_opn (intR .i64) (xs := [nonce]) rfl rfl)) (vq_op tab rfl rfl rfl (cat_ev rfl rfl (by show 6 + _ ≤ _; omega)) ?_)))))))))
    refine vT rfl callable_51 (refmac_as (t := 1) (s := resT nonce) _ hr ⟨rfl, rfl, by decide⟩ (by decide) hl (by omega)) ?_
    refine vQ tab rfl (vQ tab rfl (vQ tab rfl (vQ tab rfl (vQ tab rfl (vnl (qth (wsq (wsq (wrg (vQ tab rfl (vQ tab rfl (vnl (qth (vc_false rfl (vw_skip (qth (wsq (wrg (vQ tab rfl (vQ tab rfl (vQ tab rfl (vN tab rfl (vR rfl callable_56 (nums_one (looks_opn (intR .i64) (xs := [nonce]) rfl rfl)) ?_)))))))))))))))))))))))
    refine vq_op tab rfl rfl rfl (cat_ev rfl rfl (by show 3 + _ ≤ _; omega)) ?_
    refine vT rfl callable_51 (refmac_as (t := 5) (s := ktT (numR nonce).1) _ hr2 ⟨rfl, rfl, by decide⟩ (by decide) hl2 (by omega)) ?_
    refine vQ tab rfl (vQ tab rfl (vQ tab rfl (vQ tab rfl (vQ tab rfl (vnl (qth (wsq (wsq (wrg (vQ tab rfl (vQ tab rfl (vnl (qth (vc_false rfl (vw_skip (qth (wsq (wrg (vQ tab rfl (vQ tab rfl (vS tab rfl (vnl (qth ?_)))))))))))))))))))))))
    refine wsq (wrg (vQ tab rfl (vQ tab rfl (vS tab rfl (vQ tab rfl (vQ tab rfl (vnl (qth (vw_ret ?_)))))))))
    exact out_mk [7] (.inr rfl) ⟨rfl, rfl⟩ rfl (vrel_tuple (lrel_cons (pktRel _) (lrel_cons (.int _ _) (lrel_cons (.int _ _) lrel_nil)))) (out_ref (sigma_own (a := 0) (by simp [ownNames, *]) rfl) (sigma_at (i := 0) (by simp [ownNames, *]) rfl) rfl rfl) (told_of (by simp [ownNames, refL]))
theorem refproof_tri {V : Heap} {n p t : Nat} {most : Int} {l : List ByteArray} (hb : RkAt V p t most l) (hn : p < n ∧ t < n) (hmo : most ≤ 65536) (hl : (l.length : Int) ≤ 65536) (key secret : Int) (h : PacketV) (r : ReplyV) (tick : Int) :
    Tri Try.prog 21 [.pointer (some ⟨p, 0, none⟩), .int .i64 key, .int .i64 secret, pktV h, rplV r, .int .i64 tick] n 1 V (fun u L => u = .tuple #[pktV (proofR most l key secret h r tick).1, .int .i64 (proofR most l key secret h r tick).2.1, .int .i64 (proofR most l key secret h r tick).2.2.1] ∧ L = refL most p t n (proofR most l key secret h r tick).2.2.2) := by
  obtain ⟨hp, ht, d1⟩ := hb
  obtain ⟨n1, n2⟩ := hn
  refine call_of_vw (K := 2) (argsI := [.pointer (some ⟨0, 0, none⟩), .int .i64 key, .int .i64 secret, pktV h, rplV r, .int .i64 tick]) tab Try.func21 rfl rfl (by simp [Try.f21]) [.own p, .own t] [refC most 1 l.length, .opn (strR.cells l) 9 1] rfl (.own hp (ov_ref (rel_slice rfl rfl)) (.own ht (ov_opn strR rfl) .nil)) (by simp [ownNames, *]) (by simp [ownNames, lookNames, *]) (by simp [ownNames, *]) (al_cons (.val (rel_ptr rfl)) (al_cons (.val (.int _ _)) (al_cons (.val (.int _ _)) (al_cons (.val (pktRel h)) (al_cons (.val (rplRel r)) (al_cons (.val (.int _ _)) al_nil)))))) (seen_of (sn_own (sn_own sn_nil))) ?_
  obtain ⟨k, f1, f2, f3, f4, f5, f6, f7, d⟩ := h
  obtain ⟨q, g1, g2, g3, g4, g5, g6, g7, e⟩ := r
  cases hok : proofOk ⟨k, f1, f2, f3, f4, f5, f6, f7, d⟩ ⟨q, g1, g2, g3, g4, g5, g6, g7, e⟩ with
  | false =>
    unfold proofR
    rw [hok, if_neg (by decide)]
    unfold proofOk at hok
    simp only at hok
    cases c1 : pktMay ⟨k, f1, f2, f3, f4, f5, f6, f7, d⟩ with
    | false =>
      refine wsq (wrg (vN tab rfl (vN tab rfl (vN tab rfl (vQ tab rfl (vQ tab rfl (vnl (qth (wsq (wsq (wrg (vQ tab rfl (vF rfl callable_48 (refpkt_may ⟨k, f1, f2, f3, f4, f5, f6, f7, d⟩) (vQ tab rfl (vQ tab rfl (vgd_op true rfl rfl rfl (by simp only [c1, decide_eq_true_eq, decide_eq_false_iff_not, Bool.not_eq_eq_eq_not, Bool.not_true, Bool.not_false, bne_iff_ne, bne_eq_false_iff_eq, beq_iff_eq, beq_eq_false_iff_ne, ne_eq, beq_self_eq_true, bne_self_eq_false, Bool.and_eq_true, Bool.and_eq_false_iff, Bool.or_eq_true, Bool.or_eq_false_iff, and_self, and_true, true_and, Bool.false_eq_true, Bool.true_eq_false, not_false_eq_true, not_true_eq_false]; first | done | omega) ?_))))))))))))))))
      refine vK rfl (vK rfl (vK rfl (vQ tab rfl (vQ tab rfl (vK rfl (vK rfl (vK rfl (vQ tab rfl (vQ tab rfl (vK rfl (vK rfl (vK rfl (vQ tab rfl (vnl (qth (vc_true rfl (wsq (wrg (vQ tab rfl (vS tab rfl (vQ tab rfl (vQ tab rfl (vnl ?_)))))))))))))))))))))))
      refine qth (vw_ret (q_thenr ?_))
      exact out_mk [1] (.inr rfl) ⟨rfl, rfl⟩ rfl (vrel_tuple (lrel_cons (pktRel zeroP) (lrel_cons (.int _ _) (lrel_cons (.int _ _) lrel_nil)))) (out_ref (sigma_own (a := 0) (by simp [ownNames, *]) rfl) (sigma_at (i := 0) (by simp [ownNames, *]) rfl) rfl rfl) (told_of (by simp [ownNames, refL]))
    | true =>
    cases c2 : (k != 0) with
    | true =>
      refine wsq (wrg (vN tab rfl (vN tab rfl (vN tab rfl (vQ tab rfl (vQ tab rfl (vnl (qth (wsq (wsq (wrg (vQ tab rfl (vF rfl callable_48 (refpkt_may ⟨k, f1, f2, f3, f4, f5, f6, f7, d⟩) (vQ tab rfl (vQ tab rfl (vgd_op false rfl rfl rfl (by simp only [c1, c2, decide_eq_true_eq, decide_eq_false_iff_not, Bool.not_eq_eq_eq_not, Bool.not_true, Bool.not_false, bne_iff_ne, bne_eq_false_iff_eq, beq_iff_eq, beq_eq_false_iff_ne, ne_eq, beq_self_eq_true, bne_self_eq_false, Bool.and_eq_true, Bool.and_eq_false_iff, Bool.or_eq_true, Bool.or_eq_false_iff, and_self, and_true, true_and, Bool.false_eq_true, Bool.true_eq_false, not_false_eq_true, not_true_eq_false]; first | done | omega) ?_))))))))))))))))
      refine vQ tab rfl (vQ tab rfl (vQ tab rfl (vQ tab rfl (vQ tab rfl (vgd_op true rfl rfl rfl (by simp only [c1, c2, decide_eq_true_eq, decide_eq_false_iff_not, Bool.not_eq_eq_eq_not, Bool.not_true, Bool.not_false, bne_iff_ne, bne_eq_false_iff_eq, beq_iff_eq, beq_eq_false_iff_ne, ne_eq, beq_self_eq_true, bne_self_eq_false, Bool.and_eq_true, Bool.and_eq_false_iff, Bool.or_eq_true, Bool.or_eq_false_iff, and_self, and_true, true_and, Bool.false_eq_true, Bool.true_eq_false, not_false_eq_true, not_true_eq_false]; first | done | omega) ?_)))))
      refine vK rfl (vK rfl (vK rfl (vQ tab rfl (vQ tab rfl (vK rfl (vK rfl (vK rfl (vQ tab rfl (vnl (qth (vc_true rfl (wsq (wrg (vQ tab rfl (vS tab rfl (vQ tab rfl (vQ tab rfl (vnl (qth (vw_ret (q_thenr ?_)))))))))))))))))))))
      exact out_mk [1] (.inr rfl) ⟨rfl, rfl⟩ rfl (vrel_tuple (lrel_cons (pktRel zeroP) (lrel_cons (.int _ _) (lrel_cons (.int _ _) lrel_nil)))) (out_ref (sigma_own (a := 0) (by simp [ownNames, *]) rfl) (sigma_at (i := 0) (by simp [ownNames, *]) rfl) rfl rfl) (told_of (by simp [ownNames, refL]))
    | false =>
    cases c3 : rplMay ⟨q, g1, g2, g3, g4, g5, g6, g7, e⟩ with
    | false =>
      refine wsq (wrg (vN tab rfl (vN tab rfl (vN tab rfl (vQ tab rfl (vQ tab rfl (vnl (qth (wsq (wsq (wrg (vQ tab rfl (vF rfl callable_48 (refpkt_may ⟨k, f1, f2, f3, f4, f5, f6, f7, d⟩) (vQ tab rfl (vQ tab rfl (vgd_op false rfl rfl rfl (by simp only [c1, c2, c3, decide_eq_true_eq, decide_eq_false_iff_not, Bool.not_eq_eq_eq_not, Bool.not_true, Bool.not_false, bne_iff_ne, bne_eq_false_iff_eq, beq_iff_eq, beq_eq_false_iff_ne, ne_eq, beq_self_eq_true, bne_self_eq_false, Bool.and_eq_true, Bool.and_eq_false_iff, Bool.or_eq_true, Bool.or_eq_false_iff, and_self, and_true, true_and, Bool.false_eq_true, Bool.true_eq_false, not_false_eq_true, not_true_eq_false]; first | done | omega) ?_))))))))))))))))
      refine vQ tab rfl (vQ tab rfl (vQ tab rfl (vQ tab rfl (vQ tab rfl (vgd_op false rfl rfl rfl (by simp only [c1, c2, c3, decide_eq_true_eq, decide_eq_false_iff_not, Bool.not_eq_eq_eq_not, Bool.not_true, Bool.not_false, bne_iff_ne, bne_eq_false_iff_eq, beq_iff_eq, beq_eq_false_iff_ne, ne_eq, beq_self_eq_true, bne_self_eq_false, Bool.and_eq_true, Bool.and_eq_false_iff, Bool.or_eq_true, Bool.or_eq_false_iff, and_self, and_true, true_and, Bool.false_eq_true, Bool.true_eq_false, not_false_eq_true, not_true_eq_false]; first | done | omega) ?_)))))
      refine vQ tab rfl (vF rfl callable_49 (refrpl_may ⟨q, g1, g2, g3, g4, g5, g6, g7, e⟩) (vQ tab rfl (vQ tab rfl (vQ tab rfl (vgd_op true rfl rfl rfl (by simp only [c1, c2, c3, decide_eq_true_eq, decide_eq_false_iff_not, Bool.not_eq_eq_eq_not, Bool.not_true, Bool.not_false, bne_iff_ne, bne_eq_false_iff_eq, beq_iff_eq, beq_eq_false_iff_ne, ne_eq, beq_self_eq_true, bne_self_eq_false, Bool.and_eq_true, Bool.and_eq_false_iff, Bool.or_eq_true, Bool.or_eq_false_iff, and_self, and_true, true_and, Bool.false_eq_true, Bool.true_eq_false, not_false_eq_true, not_true_eq_false]; first | done | omega) ?_)))))
      refine vK rfl (vK rfl (vK rfl (vQ tab rfl (vnl (qth (vc_true rfl (wsq (wrg (vQ tab rfl (vS tab rfl (vQ tab rfl (vQ tab rfl (vnl (qth (vw_ret (q_thenr ?_))))))))))))))))
      exact out_mk [1] (.inr rfl) ⟨rfl, rfl⟩ rfl (vrel_tuple (lrel_cons (pktRel zeroP) (lrel_cons (.int _ _) (lrel_cons (.int _ _) lrel_nil)))) (out_ref (sigma_own (a := 0) (by simp [ownNames, *]) rfl) (sigma_at (i := 0) (by simp [ownNames, *]) rfl) rfl rfl) (told_of (by simp [ownNames, refL]))
    | true =>
      have c4 : (q != 0) = true := by rw [c1, c2, c3] at hok; simpa using hok
      refine wsq (wrg (vN tab rfl (vN tab rfl (vN tab rfl (vQ tab rfl (vQ tab rfl (vnl (qth (wsq (wsq (wrg (vQ tab rfl (vF rfl callable_48 (refpkt_may ⟨k, f1, f2, f3, f4, f5, f6, f7, d⟩) (vQ tab rfl (vQ tab rfl (vgd_op false rfl rfl rfl (by simp only [c1, c2, c3, c4, decide_eq_true_eq, decide_eq_false_iff_not, Bool.not_eq_eq_eq_not, Bool.not_true, Bool.not_false, bne_iff_ne, bne_eq_false_iff_eq, beq_iff_eq, beq_eq_false_iff_ne, ne_eq, beq_self_eq_true, bne_self_eq_false, Bool.and_eq_true, Bool.and_eq_false_iff, Bool.or_eq_true, Bool.or_eq_false_iff, and_self, and_true, true_and, Bool.false_eq_true, Bool.true_eq_false, not_false_eq_true, not_true_eq_false]; first | done | omega) ?_))))))))))))))))
      refine vQ tab rfl (vQ tab rfl (vQ tab rfl (vQ tab rfl (vQ tab rfl (vgd_op false rfl rfl rfl (by simp only [c1, c2, c3, c4, decide_eq_true_eq, decide_eq_false_iff_not, Bool.not_eq_eq_eq_not, Bool.not_true, Bool.not_false, bne_iff_ne, bne_eq_false_iff_eq, beq_iff_eq, beq_eq_false_iff_ne, ne_eq, beq_self_eq_true, bne_self_eq_false, Bool.and_eq_true, Bool.and_eq_false_iff, Bool.or_eq_true, Bool.or_eq_false_iff, and_self, and_true, true_and, Bool.false_eq_true, Bool.true_eq_false, not_false_eq_true, not_true_eq_false]; first | done | omega) ?_)))))
      refine vQ tab rfl (vF rfl callable_49 (refrpl_may ⟨q, g1, g2, g3, g4, g5, g6, g7, e⟩) (vQ tab rfl (vQ tab rfl (vQ tab rfl (vgd_op false rfl rfl rfl (by simp only [c1, c2, c3, c4, decide_eq_true_eq, decide_eq_false_iff_not, Bool.not_eq_eq_eq_not, Bool.not_true, Bool.not_false, bne_iff_ne, bne_eq_false_iff_eq, beq_iff_eq, beq_eq_false_iff_ne, ne_eq, beq_self_eq_true, bne_self_eq_false, Bool.and_eq_true, Bool.and_eq_false_iff, Bool.or_eq_true, Bool.or_eq_false_iff, and_self, and_true, true_and, Bool.false_eq_true, Bool.true_eq_false, not_false_eq_true, not_true_eq_false]; first | done | omega) ?_)))))
      refine vQ tab rfl (vQ tab rfl (vQ tab rfl (vQ tab rfl (vnl (qth (vcd_true rfl (by simp only [c1, c2, c3, c4, decide_eq_true_eq, decide_eq_false_iff_not, Bool.not_eq_eq_eq_not, Bool.not_true, Bool.not_false, bne_iff_ne, bne_eq_false_iff_eq, beq_iff_eq, beq_eq_false_iff_ne, ne_eq, beq_self_eq_true, bne_self_eq_false, Bool.and_eq_true, Bool.and_eq_false_iff, Bool.or_eq_true, Bool.or_eq_false_iff, and_self, and_true, true_and, Bool.false_eq_true, Bool.true_eq_false, not_false_eq_true, not_true_eq_false]; first | done | omega) ?_))))))
      refine wsq (wrg (vQ tab rfl (vS tab rfl (vQ tab rfl (vQ tab rfl (vnl (qth (vw_ret (q_thenr ?_)))))))))
      exact out_mk [1] (.inr rfl) ⟨rfl, rfl⟩ rfl (vrel_tuple (lrel_cons (pktRel zeroP) (lrel_cons (.int _ _) (lrel_cons (.int _ _) lrel_nil)))) (out_ref (sigma_own (a := 0) (by simp [ownNames, *]) rfl) (sigma_at (i := 0) (by simp [ownNames, *]) rfl) rfl rfl) (told_of (by simp [ownNames, refL]))
  | true =>
    have hok2 := hok
    unfold proofOk at hok2
    simp only [Bool.and_eq_true, Bool.not_eq_eq_eq_not, Bool.not_true, bne_eq_false_iff_eq] at hok2
    obtain ⟨⟨⟨c1, c2⟩, c3⟩, c4⟩ := hok2
    subst c2; subst c4
    have z0 : (numsB [f1, f2, g2]).size ≤ 15 := numsB_size [f1, f2, g2] 3 (by simp)
    have z1 := prT_size (numsB [f1, f2, g2])
    have z2 := ktT_size (numsB [f1, f2, g2])
    unfold proofR
    rw [hok, if_pos rfl]
    simp only
    by_cases he : (macB most l key (prT (numsB [f1, f2, g2]))).2.1 = 0
    case neg =>
      rw [if_neg he]
      have hr := macB_code he
      refine wsq (wrg (vN tab rfl (vN tab rfl (vN tab rfl (vQ tab rfl (vQ tab rfl (vnl (qth (wsq (wsq (wrg (vQ tab rfl (vF rfl callable_48 (refpkt_may ⟨0, f1, f2, f3, f4, f5, f6, f7, d⟩) (vQ tab rfl (vQ tab rfl (vgd_op false rfl rfl rfl (by simp only [c1, c3, decide_eq_true_eq, decide_eq_false_iff_not, Bool.not_eq_eq_eq_not, Bool.not_true, Bool.not_false, bne_iff_ne, bne_eq_false_iff_eq, beq_iff_eq, beq_eq_false_iff_ne, ne_eq, beq_self_eq_true, bne_self_eq_false, Bool.and_eq_true, Bool.and_eq_false_iff, Bool.or_eq_true, Bool.or_eq_false_iff, and_self, and_true, true_and, Bool.false_eq_true, Bool.true_eq_false, not_false_eq_true, not_true_eq_false]; first | done | omega) ?_))))))))))))))))
      refine vQ tab rfl (vQ tab rfl (vQ tab rfl (vQ tab rfl (vQ tab rfl (vQ tab rfl (vF rfl callable_49 (refrpl_may ⟨0, g1, g2, g3, g4, g5, g6, g7, e⟩) (vQ tab rfl (vQ tab rfl (vQ tab rfl (vgd_op false rfl rfl rfl (by simp only [c1, c3, decide_eq_true_eq, decide_eq_false_iff_not, Bool.not_eq_eq_eq_not, Bool.not_true, Bool.not_false, bne_iff_ne, bne_eq_false_iff_eq, beq_iff_eq, beq_eq_false_iff_ne, ne_eq, beq_self_eq_true, bne_self_eq_false, Bool.and_eq_true, Bool.and_eq_false_iff, Bool.or_eq_true, Bool.or_eq_false_iff, and_self, and_true, true_and, Bool.false_eq_true, Bool.true_eq_false, not_false_eq_true, not_true_eq_false]; first | done | omega) ?_))))))))))
      refine vQ tab rfl (vQ tab rfl (vQ tab rfl (vQ tab rfl (vnl (qth (vc_false rfl (vw_skip (qth (wsq (wrg (vQ tab rfl (vQ tab rfl (vQ tab rfl (vQ tab rfl (vQ tab rfl (vQ tab rfl (vF rfl callable_50 (transcript_fun f1 f2 g2) (vQ tab rfl (vnl (qth (wsq (wrg (vQ tab rfl ?_)))))))))))))))))))))))
      refine vQ tab rfl (vQ tab rfl (vq_op tab rfl rfl rfl (cat_ev (b := numsB [f1, f2, g2]) rfl rfl (by show 5 + (numsB [f1, f2, g2]).size ≤ _; omega)) ?_))
      refine vT rfl callable_51 (refmac_as (t := 1) (s := prT (numsB [f1, f2, g2])) _ hr ⟨rfl, rfl, by decide⟩ (by decide) hl (by omega)) ?_
      refine vQ tab rfl (vQ tab rfl (vQ tab rfl (vQ tab rfl (vQ tab rfl (vnl (qth (wsq (wsq (wrg (vQ tab rfl (vQ tab rfl (vnl (qth (vc_true rfl (wsq (wrg (vQ tab rfl (vS tab rfl (vQ tab rfl (vQ tab rfl (vnl (qth (vw_ret ?_)))))))))))))))))))))))
      refine q_thenr ?_
      exact out_mk [5] (.inr rfl) ⟨rfl, rfl⟩ rfl (vrel_tuple (lrel_cons (pktRel zeroP) (lrel_cons (.int _ _) (lrel_cons (.int _ _) lrel_nil)))) (out_ref (sigma_own (a := 0) (by simp [ownNames, *]) rfl) (sigma_at (i := 0) (by simp [ownNames, *]) rfl) rfl rfl) (told_of (by simp [ownNames, refL]))
    rw [if_pos he]
    have hr := mac_split he
    have hl2 := macB_len (k := key) (s := prT (numsB [f1, f2, g2])) hmo hl
    by_cases he2 : (macB most (macB most l key (prT (numsB [f1, f2, g2]))).2.2 key (ktT (numsB [f1, f2, g2]))).2.1 = 0
    case neg =>
      rw [if_neg he2]
      have hr2 := macB_code he2
      refine wsq (wrg (vN tab rfl (vN tab rfl (vN tab rfl (vQ tab rfl (vQ tab rfl (vnl (qth (wsq (wsq (wrg (vQ tab rfl (vF rfl callable_48 (refpkt_may ⟨0, f1, f2, f3, f4, f5, f6, f7, d⟩) (vQ tab rfl (vQ tab rfl (vgd_op false rfl rfl rfl (by simp only [c1, c3, decide_eq_true_eq, decide_eq_false_iff_not, Bool.not_eq_eq_eq_not, Bool.not_true, Bool.not_false, bne_iff_ne, bne_eq_false_iff_eq, beq_iff_eq, beq_eq_false_iff_ne, ne_eq, beq_self_eq_true, bne_self_eq_false, Bool.and_eq_true, Bool.and_eq_false_iff, Bool.or_eq_true, Bool.or_eq_false_iff, and_self, and_true, true_and, Bool.false_eq_true, Bool.true_eq_false, not_false_eq_true, not_true_eq_false]; first | done | omega) ?_))))))))))))))))
      refine vQ tab rfl (vQ tab rfl (vQ tab rfl (vQ tab rfl (vQ tab rfl (vQ tab rfl (vF rfl callable_49 (refrpl_may ⟨0, g1, g2, g3, g4, g5, g6, g7, e⟩) (vQ tab rfl (vQ tab rfl (vQ tab rfl (vgd_op false rfl rfl rfl (by simp only [c1, c3, decide_eq_true_eq, decide_eq_false_iff_not, Bool.not_eq_eq_eq_not, Bool.not_true, Bool.not_false, bne_iff_ne, bne_eq_false_iff_eq, beq_iff_eq, beq_eq_false_iff_ne, ne_eq, beq_self_eq_true, bne_self_eq_false, Bool.and_eq_true, Bool.and_eq_false_iff, Bool.or_eq_true, Bool.or_eq_false_iff, and_self, and_true, true_and, Bool.false_eq_true, Bool.true_eq_false, not_false_eq_true, not_true_eq_false]; first | done | omega) ?_))))))))))
      refine vQ tab rfl (vQ tab rfl (vQ tab rfl (vQ tab rfl (vnl (qth (vc_false rfl (vw_skip (qth (wsq (wrg (vQ tab rfl (vQ tab rfl (vQ tab rfl (vQ tab rfl (vQ tab rfl (vQ tab rfl (vF rfl callable_50 (transcript_fun f1 f2 g2) (vQ tab rfl (vnl (qth (wsq (wrg (vQ tab rfl ?_)))))))))))))))))))))))
      refine vQ tab rfl (vQ tab rfl (vq_op tab rfl rfl rfl (cat_ev (b := numsB [f1, f2, g2]) rfl rfl (by show 5 + (numsB [f1, f2, g2]).size ≤ _; omega)) ?_))
      refine vT rfl callable_51 (refmac_as (t := 1) (s := prT (numsB [f1, f2, g2])) _ hr ⟨rfl, rfl, by decide⟩ (by decide) hl (by omega)) ?_
      refine vQ tab rfl (vQ tab rfl (vQ tab rfl (vQ tab rfl (vQ tab rfl (vnl (qth (wsq (wsq (wrg (vQ tab rfl (vQ tab rfl (vnl (qth (vc_false rfl (vw_skip (qth (wsq (wrg (vQ tab rfl (vQ tab rfl (vQ tab rfl (vq_op tab rfl rfl rfl (cat_ev (b := numsB [f1, f2, g2]) rfl rfl (by show 3 + (numsB [f1, f2, g2]).size ≤ _; omega)) ?_))))))))))))))))))))))
      refine vT rfl callable_51 (refmac_as (t := 5) (s := ktT (numsB [f1, f2, g2])) _ hr2 ⟨rfl, rfl, by decide⟩ (by decide) hl2 (by omega)) ?_
      refine vQ tab rfl (vQ tab rfl (vQ tab rfl (vQ tab rfl (vQ tab rfl (vnl (qth (wsq (wsq (wrg (vQ tab rfl (vQ tab rfl (vnl (qth (vc_true rfl (wsq (wrg (vQ tab rfl (vS tab rfl (vQ tab rfl (vQ tab rfl (vnl (qth (vw_ret ?_)))))))))))))))))))))))
      refine q_thenr ?_
      exact out_mk [6] (.inr rfl) ⟨rfl, rfl⟩ rfl (vrel_tuple (lrel_cons (pktRel zeroP) (lrel_cons (.int _ _) (lrel_cons (.int _ _) lrel_nil)))) (out_ref (sigma_own (a := 0) (by simp [ownNames, *]) rfl) (sigma_at (i := 0) (by simp [ownNames, *]) rfl) rfl rfl) (told_of (by simp [ownNames, refL]))
    rw [if_pos he2]
    have hr2 := mac_split he2
    have hl3 := macB_len (k := key) (s := ktT (numsB [f1, f2, g2])) hmo hl2
    by_cases he3 : (codeR most (macB most (macB most l key (prT (numsB [f1, f2, g2]))).2.2 key (ktT (numsB [f1, f2, g2]))).2.2 secret (stepR tick)).2.1 = 0
    case neg =>
      rw [if_neg he3]
      have hr3 := codeR_err he3
      refine wsq (wrg (vN tab rfl (vN tab rfl (vN tab rfl (vQ tab rfl (vQ tab rfl (vnl (qth (wsq (wsq (wrg (vQ tab rfl (vF rfl callable_48 (refpkt_may ⟨0, f1, f2, f3, f4, f5, f6, f7, d⟩) (vQ tab rfl (vQ tab rfl (vgd_op false rfl rfl rfl (by simp only [c1, c3, decide_eq_true_eq, decide_eq_false_iff_not, Bool.not_eq_eq_eq_not, Bool.not_true, Bool.not_false, bne_iff_ne, bne_eq_false_iff_eq, beq_iff_eq, beq_eq_false_iff_ne, ne_eq, beq_self_eq_true, bne_self_eq_false, Bool.and_eq_true, Bool.and_eq_false_iff, Bool.or_eq_true, Bool.or_eq_false_iff, and_self, and_true, true_and, Bool.false_eq_true, Bool.true_eq_false, not_false_eq_true, not_true_eq_false]; first | done | omega) ?_))))))))))))))))
      refine vQ tab rfl (vQ tab rfl (vQ tab rfl (vQ tab rfl (vQ tab rfl (vQ tab rfl (vF rfl callable_49 (refrpl_may ⟨0, g1, g2, g3, g4, g5, g6, g7, e⟩) (vQ tab rfl (vQ tab rfl (vQ tab rfl (vgd_op false rfl rfl rfl (by simp only [c1, c3, decide_eq_true_eq, decide_eq_false_iff_not, Bool.not_eq_eq_eq_not, Bool.not_true, Bool.not_false, bne_iff_ne, bne_eq_false_iff_eq, beq_iff_eq, beq_eq_false_iff_ne, ne_eq, beq_self_eq_true, bne_self_eq_false, Bool.and_eq_true, Bool.and_eq_false_iff, Bool.or_eq_true, Bool.or_eq_false_iff, and_self, and_true, true_and, Bool.false_eq_true, Bool.true_eq_false, not_false_eq_true, not_true_eq_false]; first | done | omega) ?_))))))))))
      refine vQ tab rfl (vQ tab rfl (vQ tab rfl (vQ tab rfl (vnl (qth (vc_false rfl (vw_skip (qth (wsq (wrg (vQ tab rfl (vQ tab rfl (vQ tab rfl (vQ tab rfl (vQ tab rfl (vQ tab rfl (vF rfl callable_50 (transcript_fun f1 f2 g2) (vQ tab rfl (vnl (qth (wsq (wrg (vQ tab rfl ?_)))))))))))))))))))))))
      refine vQ tab rfl (vQ tab rfl (vq_op tab rfl rfl rfl (cat_ev (b := numsB [f1, f2, g2]) rfl rfl (by show 5 + (numsB [f1, f2, g2]).size ≤ _; omega)) ?_))
      refine vT rfl callable_51 (refmac_as (t := 1) (s := prT (numsB [f1, f2, g2])) _ hr ⟨rfl, rfl, by decide⟩ (by decide) hl (by omega)) ?_
      refine vQ tab rfl (vQ tab rfl (vQ tab rfl (vQ tab rfl (vQ tab rfl (vnl (qth (wsq (wsq (wrg (vQ tab rfl (vQ tab rfl (vnl (qth (vc_false rfl (vw_skip (qth (wsq (wrg (vQ tab rfl (vQ tab rfl (vQ tab rfl (vq_op tab rfl rfl rfl (cat_ev (b := numsB [f1, f2, g2]) rfl rfl (by show 3 + (numsB [f1, f2, g2]).size ≤ _; omega)) ?_))))))))))))))))))))))
      refine vT rfl callable_51 (refmac_as (t := 5) (s := ktT (numsB [f1, f2, g2])) _ hr2 ⟨rfl, rfl, by decide⟩ (by decide) hl2 (by omega)) ?_
      refine vQ tab rfl (vQ tab rfl (vQ tab rfl (vQ tab rfl (vQ tab rfl (vnl (qth (wsq (wsq (wrg (vQ tab rfl (vQ tab rfl (vnl (qth (vc_false rfl (vw_skip (qth (wsq (wrg (vQ tab rfl (vQ tab rfl (vQ tab rfl (vF rfl callable_53 (refstep_fun tick) (vT rfl callable_52 (refcode_as _ hr3 ⟨rfl, rfl, by decide⟩ (by decide) hl3) ?_)))))))))))))))))))))))
      refine vQ tab rfl (vQ tab rfl (vQ tab rfl (vQ tab rfl (vQ tab rfl (vnl (qth (wsq (wsq (wrg (vQ tab rfl (vQ tab rfl (vnl (qth (vc_true rfl (wsq (wrg (vQ tab rfl (vS tab rfl (vQ tab rfl (vQ tab rfl (vnl (qth (vw_ret ?_)))))))))))))))))))))))
      refine q_thenr ?_
      exact out_mk [7] (.inr rfl) ⟨rfl, rfl⟩ rfl (vrel_tuple (lrel_cons (pktRel zeroP) (lrel_cons (.int _ _) (lrel_cons (.int _ _) lrel_nil)))) (out_ref (sigma_own (a := 0) (by simp [ownNames, *]) rfl) (sigma_at (i := 0) (by simp [ownNames, *]) rfl) rfl rfl) (told_of (by simp [ownNames, refL]))
    rw [if_pos he3]
    have hr3 := code_split he3
    refine wsq (wrg (vN tab rfl (vN tab rfl (vN tab rfl (vQ tab rfl (vQ tab rfl (vnl (qth (wsq (wsq (wrg (vQ tab rfl (vF rfl callable_48 (refpkt_may ⟨0, f1, f2, f3, f4, f5, f6, f7, d⟩) (vQ tab rfl (vQ tab rfl (vgd_op false rfl rfl rfl (by simp only [c1, c3, decide_eq_true_eq, decide_eq_false_iff_not, Bool.not_eq_eq_eq_not, Bool.not_true, Bool.not_false, bne_iff_ne, bne_eq_false_iff_eq, beq_iff_eq, beq_eq_false_iff_ne, ne_eq, beq_self_eq_true, bne_self_eq_false, Bool.and_eq_true, Bool.and_eq_false_iff, Bool.or_eq_true, Bool.or_eq_false_iff, and_self, and_true, true_and, Bool.false_eq_true, Bool.true_eq_false, not_false_eq_true, not_true_eq_false]; first | done | omega) ?_))))))))))))))))
    refine vQ tab rfl (vQ tab rfl (vQ tab rfl (vQ tab rfl (vQ tab rfl (vQ tab rfl (vF rfl callable_49 (refrpl_may ⟨0, g1, g2, g3, g4, g5, g6, g7, e⟩) (vQ tab rfl (vQ tab rfl (vQ tab rfl (vgd_op false rfl rfl rfl (by simp only [c1, c3, decide_eq_true_eq, decide_eq_false_iff_not, Bool.not_eq_eq_eq_not, Bool.not_true, Bool.not_false, bne_iff_ne, bne_eq_false_iff_eq, beq_iff_eq, beq_eq_false_iff_ne, ne_eq, beq_self_eq_true, bne_self_eq_false, Bool.and_eq_true, Bool.and_eq_false_iff, Bool.or_eq_true, Bool.or_eq_false_iff, and_self, and_true, true_and, Bool.false_eq_true, Bool.true_eq_false, not_false_eq_true, not_true_eq_false]; first | done | omega) ?_))))))))))
    refine vQ tab rfl (vQ tab rfl (vQ tab rfl (vQ tab rfl (vnl (qth (vc_false rfl (vw_skip (qth (wsq (wrg (vQ tab rfl (vQ tab rfl (vQ tab rfl (vQ tab rfl (vQ tab rfl (vQ tab rfl (vF rfl callable_50 (transcript_fun f1 f2 g2) (vQ tab rfl (vnl (qth (wsq (wrg (vQ tab rfl ?_)))))))))))))))))))))))
    refine vQ tab rfl (vQ tab rfl (vq_op tab rfl rfl rfl (cat_ev (b := numsB [f1, f2, g2]) rfl rfl (by show 5 + (numsB [f1, f2, g2]).size ≤ _; omega)) ?_))
    refine vT rfl callable_51 (refmac_as (t := 1) (s := prT (numsB [f1, f2, g2])) _ hr ⟨rfl, rfl, by decide⟩ (by decide) hl (by omega)) ?_
    refine vQ tab rfl (vQ tab rfl (vQ tab rfl (vQ tab rfl (vQ tab rfl (vnl (qth (wsq (wsq (wrg (vQ tab rfl (vQ tab rfl (vnl (qth (vc_false rfl (vw_skip (qth (wsq (wrg (vQ tab rfl (vQ tab rfl (vQ tab rfl (vq_op tab rfl rfl rfl (cat_ev (b := numsB [f1, f2, g2]) rfl rfl (by show 3 + (numsB [f1, f2, g2]).size ≤ _; omega)) ?_))))))))))))))))))))))
    refine vT rfl callable_51 (refmac_as (t := 5) (s := ktT (numsB [f1, f2, g2])) _ hr2 ⟨rfl, rfl, by decide⟩ (by decide) hl2 (by omega)) ?_
    refine vQ tab rfl (vQ tab rfl (vQ tab rfl (vQ tab rfl (vQ tab rfl (vnl (qth (wsq (wsq (wrg (vQ tab rfl (vQ tab rfl (vnl (qth (vc_false rfl (vw_skip (qth (wsq (wrg (vQ tab rfl (vQ tab rfl (vQ tab rfl (vF rfl callable_53 (refstep_fun tick) (vT rfl callable_52 (refcode_as _ hr3 ⟨rfl, rfl, by decide⟩ (by decide) hl3) ?_)))))))))))))))))))))))
    refine vQ tab rfl (vQ tab rfl (vQ tab rfl (vQ tab rfl (vQ tab rfl (vnl (qth (wsq (wsq (wrg (vQ tab rfl (vQ tab rfl (vnl (qth (vc_false rfl (vw_skip (qth (wsq (wrg (vQ tab rfl (vQ tab rfl (vQ tab rfl (vQ tab rfl (vQ tab rfl ?_)))))))))))))))))))))))
    refine vQ tab rfl (vS tab rfl (vQ tab rfl (vQ tab rfl (vnl (qth (vw_ret ?_))))))
    exact out_mk [7] (.inr rfl) ⟨rfl, rfl⟩ rfl (vrel_tuple (lrel_cons (pktRel _) (lrel_cons (.int _ _) (lrel_cons (.int _ _) lrel_nil)))) (out_ref (sigma_own (a := 0) (by simp [ownNames, *]) rfl) (sigma_at (i := 0) (by simp [ownNames, *]) rfl) rfl rfl) (told_of (by simp [ownNames, refL]))
end Go.Proofs.Ytjkidjplbddmmaa
