/- Package client: Proof. -/
import Derived.Test.YtjkidjplbddmmaaVg1
import Derived.Test.YtjkidjplbddmmaaCt2
namespace Go.Proofs.Ytjkidjplbddmmaa
open Go Vm IntWalk
set_option linter.unusedVariables false
set_option linter.unusedSimpArgs false
set_option maxHeartbeats 32000000
theorem all_as {V : Heap} {n : Nat} {sv : Value} {xs : List Int} (r : ByteArray × Bool) (hr : allR xs = r) (hl : Looks V 1 sv ((intR .i64).cells xs) xs.length) (hx : xs.length ≤ 1000) :
    Tri Try.prog 41 [sv] n 0 V (fun u L => u = .tuple #[.string r.1, .bool r.2] ∧ L = []) := by subst hr; exact all_tri hl hx
def prT (s : ByteArray) : ByteArray := ⟨#[112, 114, 111, 111, 102]⟩ ++ s
theorem prT_size (s : ByteArray) : (prT s).size = 5 + s.size := by unfold prT; rw [ByteArray.size_append]; rfl
/-- May a proof be made? -/
def proofOk (h : PacketV) (r : ReplyV) : Bool := pktMay h && !(h.kind != 0) && rplMay r && !(r.kind != 0)
def proofR (most : Int) (l : List ByteArray) (key secret : Int) (h : PacketV) (r : ReplyV) (tick : Int) : PacketV × Int × Int × List ByteArray :=
  if proofOk h r = true then
    (if (macB most l key (prT (numsB [h.user, h.nonce, r.nonce]))).2.1 = 0 then
      (if (macB most (macB most l key (prT (numsB [h.user, h.nonce, r.nonce]))).2.2 key (ktT (numsB [h.user, h.nonce, r.nonce]))).2.1 = 0 then
        (if (codeR most (macB most (macB most l key (prT (numsB [h.user, h.nonce, r.nonce]))).2.2 key (ktT (numsB [h.user, h.nonce, r.nonce]))).2.2 secret (stepR tick)).2.1 = 0 then
          (⟨1, 0, 0, r.half, (macB most l key (prT (numsB [h.user, h.nonce, r.nonce]))).1, (codeR most (macB most (macB most l key (prT (numsB [h.user, h.nonce, r.nonce]))).2.2 key (ktT (numsB [h.user, h.nonce, r.nonce]))).2.2 secret (stepR tick)).1, 0, 0, ⟨#[]⟩⟩,
            (macB most (macB most l key (prT (numsB [h.user, h.nonce, r.nonce]))).2.2 key (ktT (numsB [h.user, h.nonce, r.nonce]))).1, 0,
            (codeR most (macB most (macB most l key (prT (numsB [h.user, h.nonce, r.nonce]))).2.2 key (ktT (numsB [h.user, h.nonce, r.nonce]))).2.2 secret (stepR tick)).2.2)
        else (zeroP, 0, 2400, (macB most (macB most l key (prT (numsB [h.user, h.nonce, r.nonce]))).2.2 key (ktT (numsB [h.user, h.nonce, r.nonce]))).2.2))
      else (zeroP, 0, 2400, (macB most l key (prT (numsB [h.user, h.nonce, r.nonce]))).2.2))
    else (zeroP, 0, 2400, l))
  else (zeroP, 0, 2400, l)
theorem codeR_err {most : Int} {l : List ByteArray} {k s : Int} (h : (codeR most l k s).2.1 ≠ 0) : codeR most l k s = (0, 1200, l) := by
  unfold codeR at h ⊢
  split
  · split
    · rename_i h1 h2; rw [if_pos h1, if_pos h2] at h; exact (h rfl).elim
    · rfl
  · rfl
theorem code_as {V : Heap} {n p t m : Nat} {most : Int} {l : List ByteArray} {secret step : Int} (r : Int × Int × List ByteArray) (hr : codeR most l secret step = r) (h : BkAt V p t m most l) (hn : p < n ∧ t < n ∧ m < n) (hl : (l.length : Int) ≤ 65536) :
    Tri Try.prog 43 [.pointer (some ⟨p, 0, none⟩), .int .i64 secret, .int .i64 step] n 1 V (fun u L => u = .tuple #[.int .i64 r.1, .int .i64 r.2.1] ∧ L = nameL most p t m n r.2.2) := by subst hr; exact code_tri h hn hl secret step
theorem pkt_hello {u nn f3 f4 f5 f6 f7 : Int} {d : ByteArray} (h : pktMay ⟨0, u, nn, f3, f4, f5, f6, f7, d⟩ = true) : okN u = true ∧ okN nn = true := by
  have := pkt_may_nums h
  exact ⟨this u (by simp [pktNums]), this nn (by simp [pktNums])⟩
theorem rpl_chall {hf nn g3 g4 g5 g6 g7 : Int} {d : ByteArray} (h : rplMay ⟨0, hf, nn, g3, g4, g5, g6, g7, d⟩ = true) : okN hf = true ∧ okN nn = true := by
  have := rpl_may_nums h
  exact ⟨this hf (by simp [rplNums]), this nn (by simp [rplNums])⟩
theorem cproof_tri {V : Heap} {n p t m : Nat} {most : Int} {l : List ByteArray} (hb : BkAt V p t m most l) (hn : p < n ∧ t < n ∧ m < n) (hmo : most ≤ 65536) (hl : (l.length : Int) ≤ 65536) (key secret : Int) (h : PacketV) (r : ReplyV) (tick : Int) :
    Tri Try.prog 15 [.pointer (some ⟨p, 0, none⟩), .int .i64 key, .int .i64 secret, pktV h, rplV r, .int .i64 tick] n 1 V (fun u L => u = .tuple #[pktV (proofR most l key secret h r tick).1, .int .i64 (proofR most l key secret h r tick).2.1, .int .i64 (proofR most l key secret h r tick).2.2.1] ∧ L = nameL most p t m n (proofR most l key secret h r tick).2.2.2) := by
  obtain ⟨hp, ht, hm, d1, d2, d3⟩ := hb
  obtain ⟨n1, n2, n3⟩ := hn
  refine call_of_vw (K := 3) (argsI := [.pointer (some ⟨0, 0, none⟩), .int .i64 key, .int .i64 secret, pktV h, rplV r, .int .i64 tick]) tab Try.func15 rfl rfl (by simp [Try.f15]) [.own p, .own t, .own m] [bookC most 1 l.length 2, .opn (strR.cells l) 9 1, .map (ents 0 l) l.length] rfl (.own hp (ov_book (rel_slice rfl rfl) (rel_map rfl)) (.own ht (ov_opn strR rfl) (.own hm (ov_ents rfl rfl) .nil))) (by simp [ownNames, *]) (by simp [ownNames, lookNames, *]) (by simp [ownNames, *]) (al_cons (.val (rel_ptr rfl)) (al_cons (.val (.int _ _)) (al_cons (.val (.int _ _)) (al_cons (.val (pktRel h)) (al_cons (.val (rplRel r)) (al_cons (.val (.int _ _)) al_nil)))))) (seen_of (sn_own (sn_own (sn_own sn_nil)))) ?_
  obtain ⟨k, f1, f2, f3, f4, f5, f6, f7, d⟩ := h
  obtain ⟨q, g1, g2, g3, g4, g5, g6, g7, e⟩ := r
  cases hok : proofOk ⟨k, f1, f2, f3, f4, f5, f6, f7, d⟩ ⟨q, g1, g2, g3, g4, g5, g6, g7, e⟩ with
  | false =>
    unfold proofR
    rw [hok, if_neg (by decide)]
    unfold proofOk at hok
    simp only at hok
    cases c1 : pktMay ⟨k, f1, f2, f3, f4, f5, f6, f7, d⟩ with
    | false =>
      refine wsq (wrg (vN tab rfl (vN tab rfl (vN tab rfl (vQ tab rfl (vQ tab rfl (vnl (qth (wsq (wbk (wsq (wrg (vQ tab rfl (vQ tab rfl (vQ tab rfl (vnl (qth (vc_false rfl (wsq (wrg (vQ tab rfl (vF rfl callable_39 (pkt_may ⟨k, f1, f2, f3, f4, f5, f6, f7, d⟩) (vQ tab rfl ?_)))))))))))))))))))))))
      refine vQ tab rfl (vgd_op true rfl rfl rfl (by simp only [c1, decide_eq_true_eq, decide_eq_false_iff_not, Bool.not_eq_eq_eq_not, Bool.not_true, Bool.not_false, bne_iff_ne, bne_eq_false_iff_eq, beq_iff_eq, beq_eq_false_iff_ne, ne_eq, beq_self_eq_true, bne_self_eq_false, Bool.and_eq_true, Bool.and_eq_false_iff, Bool.or_eq_true, Bool.or_eq_false_iff, and_self, and_true, true_and, Bool.false_eq_true, Bool.true_eq_false, not_false_eq_true, not_true_eq_false]; first | done | omega) ?_)
      refine vK rfl (vK rfl (vK rfl (vQ tab rfl (vQ tab rfl (vK rfl (vK rfl (vK rfl (vQ tab rfl (vQ tab rfl (vK rfl (vK rfl (vK rfl (vQ tab rfl (vQ tab rfl (vnl (qth (vc_true rfl (wsq (wrg (vQ tab rfl (vS tab rfl (vQ tab rfl (vQ tab rfl ?_)))))))))))))))))))))))
      refine vnl (qth (vw_ret (q_ret (q_thenr ?_))))
      exact out_mk [1] (.inr rfl) ⟨rfl, rfl⟩ rfl (vrel_tuple (lrel_cons (pktRel zeroP) (lrel_cons (.int _ _) (lrel_cons (.int _ _) lrel_nil)))) (out_book0 (sigma_own (a := 0) (by simp [ownNames, *]) rfl) (sigma_at (i := 0) (by simp [ownNames, *]) rfl) (sigma_own (a := 2) (by simp [ownNames, *]) rfl) rfl rfl rfl) (told_of (by simp [ownNames, nameL]))
    | true =>
    cases c2 : (k != 0) with
    | true =>
      refine wsq (wrg (vN tab rfl (vN tab rfl (vN tab rfl (vQ tab rfl (vQ tab rfl (vnl (qth (wsq (wbk (wsq (wrg (vQ tab rfl (vQ tab rfl (vQ tab rfl (vnl (qth (vc_false rfl (wsq (wrg (vQ tab rfl (vF rfl callable_39 (pkt_may ⟨k, f1, f2, f3, f4, f5, f6, f7, d⟩) (vQ tab rfl ?_)))))))))))))))))))))))
      refine vQ tab rfl (vgd_op false rfl rfl rfl (by simp only [c1, c2, decide_eq_true_eq, decide_eq_false_iff_not, Bool.not_eq_eq_eq_not, Bool.not_true, Bool.not_false, bne_iff_ne, bne_eq_false_iff_eq, beq_iff_eq, beq_eq_false_iff_ne, ne_eq, beq_self_eq_true, bne_self_eq_false, Bool.and_eq_true, Bool.and_eq_false_iff, Bool.or_eq_true, Bool.or_eq_false_iff, and_self, and_true, true_and, Bool.false_eq_true, Bool.true_eq_false, not_false_eq_true, not_true_eq_false]; first | done | omega) ?_)
      refine vQ tab rfl (vQ tab rfl (vQ tab rfl (vQ tab rfl (vQ tab rfl (vgd_op true rfl rfl rfl (by simp only [c1, c2, decide_eq_true_eq, decide_eq_false_iff_not, Bool.not_eq_eq_eq_not, Bool.not_true, Bool.not_false, bne_iff_ne, bne_eq_false_iff_eq, beq_iff_eq, beq_eq_false_iff_ne, ne_eq, beq_self_eq_true, bne_self_eq_false, Bool.and_eq_true, Bool.and_eq_false_iff, Bool.or_eq_true, Bool.or_eq_false_iff, and_self, and_true, true_and, Bool.false_eq_true, Bool.true_eq_false, not_false_eq_true, not_true_eq_false]; first | done | omega) ?_)))))
      refine vK rfl (vK rfl (vK rfl (vQ tab rfl (vQ tab rfl (vK rfl (vK rfl (vK rfl (vQ tab rfl (vQ tab rfl (vnl (qth (vc_true rfl (wsq (wrg (vQ tab rfl (vS tab rfl (vQ tab rfl (vQ tab rfl (vnl (qth (vw_ret (q_ret (q_thenr ?_)))))))))))))))))))))))
      exact out_mk [1] (.inr rfl) ⟨rfl, rfl⟩ rfl (vrel_tuple (lrel_cons (pktRel zeroP) (lrel_cons (.int _ _) (lrel_cons (.int _ _) lrel_nil)))) (out_book0 (sigma_own (a := 0) (by simp [ownNames, *]) rfl) (sigma_at (i := 0) (by simp [ownNames, *]) rfl) (sigma_own (a := 2) (by simp [ownNames, *]) rfl) rfl rfl rfl) (told_of (by simp [ownNames, nameL]))
    | false =>
    cases c3 : rplMay ⟨q, g1, g2, g3, g4, g5, g6, g7, e⟩ with
    | false =>
      refine wsq (wrg (vN tab rfl (vN tab rfl (vN tab rfl (vQ tab rfl (vQ tab rfl (vnl (qth (wsq (wbk (wsq (wrg (vQ tab rfl (vQ tab rfl (vQ tab rfl (vnl (qth (vc_false rfl (wsq (wrg (vQ tab rfl (vF rfl callable_39 (pkt_may ⟨k, f1, f2, f3, f4, f5, f6, f7, d⟩) (vQ tab rfl ?_)))))))))))))))))))))))
      refine vQ tab rfl (vgd_op false rfl rfl rfl (by simp only [c1, c2, c3, decide_eq_true_eq, decide_eq_false_iff_not, Bool.not_eq_eq_eq_not, Bool.not_true, Bool.not_false, bne_iff_ne, bne_eq_false_iff_eq, beq_iff_eq, beq_eq_false_iff_ne, ne_eq, beq_self_eq_true, bne_self_eq_false, Bool.and_eq_true, Bool.and_eq_false_iff, Bool.or_eq_true, Bool.or_eq_false_iff, and_self, and_true, true_and, Bool.false_eq_true, Bool.true_eq_false, not_false_eq_true, not_true_eq_false]; first | done | omega) ?_)
      refine vQ tab rfl (vQ tab rfl (vQ tab rfl (vQ tab rfl (vQ tab rfl (vgd_op false rfl rfl rfl (by simp only [c1, c2, c3, decide_eq_true_eq, decide_eq_false_iff_not, Bool.not_eq_eq_eq_not, Bool.not_true, Bool.not_false, bne_iff_ne, bne_eq_false_iff_eq, beq_iff_eq, beq_eq_false_iff_ne, ne_eq, beq_self_eq_true, bne_self_eq_false, Bool.and_eq_true, Bool.and_eq_false_iff, Bool.or_eq_true, Bool.or_eq_false_iff, and_self, and_true, true_and, Bool.false_eq_true, Bool.true_eq_false, not_false_eq_true, not_true_eq_false]; first | done | omega) ?_)))))
      refine vQ tab rfl (vF rfl callable_40 (rpl_may ⟨q, g1, g2, g3, g4, g5, g6, g7, e⟩) (vQ tab rfl (vQ tab rfl (vQ tab rfl (vgd_op true rfl rfl rfl (by simp only [c1, c2, c3, decide_eq_true_eq, decide_eq_false_iff_not, Bool.not_eq_eq_eq_not, Bool.not_true, Bool.not_false, bne_iff_ne, bne_eq_false_iff_eq, beq_iff_eq, beq_eq_false_iff_ne, ne_eq, beq_self_eq_true, bne_self_eq_false, Bool.and_eq_true, Bool.and_eq_false_iff, Bool.or_eq_true, Bool.or_eq_false_iff, and_self, and_true, true_and, Bool.false_eq_true, Bool.true_eq_false, not_false_eq_true, not_true_eq_false]; first | done | omega) ?_)))))
      refine vK rfl (vK rfl (vK rfl (vQ tab rfl (vQ tab rfl (vnl (qth (vc_true rfl (wsq (wrg (vQ tab rfl (vS tab rfl (vQ tab rfl (vQ tab rfl (vnl (qth (vw_ret (q_ret (q_thenr ?_))))))))))))))))))
      exact out_mk [1] (.inr rfl) ⟨rfl, rfl⟩ rfl (vrel_tuple (lrel_cons (pktRel zeroP) (lrel_cons (.int _ _) (lrel_cons (.int _ _) lrel_nil)))) (out_book0 (sigma_own (a := 0) (by simp [ownNames, *]) rfl) (sigma_at (i := 0) (by simp [ownNames, *]) rfl) (sigma_own (a := 2) (by simp [ownNames, *]) rfl) rfl rfl rfl) (told_of (by simp [ownNames, nameL]))
    | true =>
      have c4 : (q != 0) = true := by rw [c1, c2, c3] at hok; simpa using hok
      refine wsq (wrg (vN tab rfl (vN tab rfl (vN tab rfl (vQ tab rfl (vQ tab rfl (vnl (qth (wsq (wbk (wsq (wrg (vQ tab rfl (vQ tab rfl (vQ tab rfl (vnl (qth (vc_false rfl (wsq (wrg (vQ tab rfl (vF rfl callable_39 (pkt_may ⟨k, f1, f2, f3, f4, f5, f6, f7, d⟩) (vQ tab rfl ?_)))))))))))))))))))))))
      refine vQ tab rfl (vgd_op false rfl rfl rfl (by simp only [c1, c2, c3, c4, decide_eq_true_eq, decide_eq_false_iff_not, Bool.not_eq_eq_eq_not, Bool.not_true, Bool.not_false, bne_iff_ne, bne_eq_false_iff_eq, beq_iff_eq, beq_eq_false_iff_ne, ne_eq, beq_self_eq_true, bne_self_eq_false, Bool.and_eq_true, Bool.and_eq_false_iff, Bool.or_eq_true, Bool.or_eq_false_iff, and_self, and_true, true_and, Bool.false_eq_true, Bool.true_eq_false, not_false_eq_true, not_true_eq_false]; first | done | omega) ?_)
      refine vQ tab rfl (vQ tab rfl (vQ tab rfl (vQ tab rfl (vQ tab rfl (vgd_op false rfl rfl rfl (by simp only [c1, c2, c3, c4, decide_eq_true_eq, decide_eq_false_iff_not, Bool.not_eq_eq_eq_not, Bool.not_true, Bool.not_false, bne_iff_ne, bne_eq_false_iff_eq, beq_iff_eq, beq_eq_false_iff_ne, ne_eq, beq_self_eq_true, bne_self_eq_false, Bool.and_eq_true, Bool.and_eq_false_iff, Bool.or_eq_true, Bool.or_eq_false_iff, and_self, and_true, true_and, Bool.false_eq_true, Bool.true_eq_false, not_false_eq_true, not_true_eq_false]; first | done | omega) ?_)))))
      refine vQ tab rfl (vF rfl callable_40 (rpl_may ⟨q, g1, g2, g3, g4, g5, g6, g7, e⟩) (vQ tab rfl (vQ tab rfl (vQ tab rfl (vgd_op false rfl rfl rfl (by simp only [c1, c2, c3, c4, decide_eq_true_eq, decide_eq_false_iff_not, Bool.not_eq_eq_eq_not, Bool.not_true, Bool.not_false, bne_iff_ne, bne_eq_false_iff_eq, beq_iff_eq, beq_eq_false_iff_ne, ne_eq, beq_self_eq_true, bne_self_eq_false, Bool.and_eq_true, Bool.and_eq_false_iff, Bool.or_eq_true, Bool.or_eq_false_iff, and_self, and_true, true_and, Bool.false_eq_true, Bool.true_eq_false, not_false_eq_true, not_true_eq_false]; first | done | omega) ?_)))))
      refine vQ tab rfl (vQ tab rfl (vQ tab rfl (vQ tab rfl (vQ tab rfl (vnl (qth (vcd_true rfl (by simp only [c1, c2, c3, c4, decide_eq_true_eq, decide_eq_false_iff_not, Bool.not_eq_eq_eq_not, Bool.not_true, Bool.not_false, bne_iff_ne, bne_eq_false_iff_eq, beq_iff_eq, beq_eq_false_iff_ne, ne_eq, beq_self_eq_true, bne_self_eq_false, Bool.and_eq_true, Bool.and_eq_false_iff, Bool.or_eq_true, Bool.or_eq_false_iff, and_self, and_true, true_and, Bool.false_eq_true, Bool.true_eq_false, not_false_eq_true, not_true_eq_false]; first | done | omega) ?_)))))))
      refine wsq (wrg (vQ tab rfl (vS tab rfl (vQ tab rfl (vQ tab rfl (vnl (qth (vw_ret (q_ret (q_thenr ?_))))))))))
      exact out_mk [1] (.inr rfl) ⟨rfl, rfl⟩ rfl (vrel_tuple (lrel_cons (pktRel zeroP) (lrel_cons (.int _ _) (lrel_cons (.int _ _) lrel_nil)))) (out_book0 (sigma_own (a := 0) (by simp [ownNames, *]) rfl) (sigma_at (i := 0) (by simp [ownNames, *]) rfl) (sigma_own (a := 2) (by simp [ownNames, *]) rfl) rfl rfl rfl) (told_of (by simp [ownNames, nameL]))
  | true =>
    have hok2 := hok
    unfold proofOk at hok2
    simp only [Bool.and_eq_true, Bool.not_eq_eq_eq_not, Bool.not_true, bne_eq_false_iff_eq] at hok2
    obtain ⟨⟨⟨c1, c2⟩, c3⟩, c4⟩ := hok2
    subst c2; subst c4
    obtain ⟨o1, o2⟩ := pkt_hello c1
    obtain ⟨o3, o4⟩ := rpl_chall c3
    have hall : allR [f1, f2, g2] = (numsB [f1, f2, g2], true) := allR_ok (by simp [o1, o2, o4])
    have z0 : (numsB [f1, f2, g2]).size ≤ 15 := numsB_size [f1, f2, g2] 3 (by simp)
    have z1 := prT_size (numsB [f1, f2, g2])
    have z2 := ktT_size (numsB [f1, f2, g2])
    unfold proofR
    rw [hok, if_pos rfl]
    simp only
    by_cases he : (macB most l key (prT (numsB [f1, f2, g2]))).2.1 = 0
    case neg =>
      rw [if_neg he]
      have hr := macB_code he
      refine wsq (wrg (vN tab rfl (vN tab rfl (vN tab rfl (vQ tab rfl (vQ tab rfl (vnl (qth (wsq (wbk (wsq (wrg (vQ tab rfl (vQ tab rfl (vQ tab rfl (vnl (qth (vc_false rfl (wsq (wrg (vQ tab rfl (vF rfl callable_39 (pkt_may ⟨0, f1, f2, f3, f4, f5, f6, f7, d⟩) (vQ tab rfl ?_)))))))))))))))))))))))
      refine vQ tab rfl (vgd_op false rfl rfl rfl (by simp only [c1, c3, decide_eq_true_eq, decide_eq_false_iff_not, Bool.not_eq_eq_eq_not, Bool.not_true, Bool.not_false, bne_iff_ne, bne_eq_false_iff_eq, beq_iff_eq, beq_eq_false_iff_ne, ne_eq, beq_self_eq_true, bne_self_eq_false, Bool.and_eq_true, Bool.and_eq_false_iff, Bool.or_eq_true, Bool.or_eq_false_iff, and_self, and_true, true_and, Bool.false_eq_true, Bool.true_eq_false, not_false_eq_true, not_true_eq_false]; first | done | omega) ?_)
      refine vQ tab rfl (vQ tab rfl (vQ tab rfl (vQ tab rfl (vQ tab rfl (vQ tab rfl (vF rfl callable_40 (rpl_may ⟨0, g1, g2, g3, g4, g5, g6, g7, e⟩) (vQ tab rfl (vQ tab rfl (vQ tab rfl (vgd_op false rfl rfl rfl (by simp only [c1, c3, decide_eq_true_eq, decide_eq_false_iff_not, Bool.not_eq_eq_eq_not, Bool.not_true, Bool.not_false, bne_iff_ne, bne_eq_false_iff_eq, beq_iff_eq, beq_eq_false_iff_ne, ne_eq, beq_self_eq_true, bne_self_eq_false, Bool.and_eq_true, Bool.and_eq_false_iff, Bool.or_eq_true, Bool.or_eq_false_iff, and_self, and_true, true_and, Bool.false_eq_true, Bool.true_eq_false, not_false_eq_true, not_true_eq_false]; first | done | omega) ?_))))))))))
      refine vQ tab rfl (vQ tab rfl (vQ tab rfl (vQ tab rfl (vQ tab rfl (vnl (qth (vc_false rfl (vw_skip (q_norm (qth (wsq (wrg (vQ tab rfl (vQ tab rfl (vQ tab rfl (vQ tab rfl (vQ tab rfl (vQ tab rfl (vN tab rfl (vR rfl callable_41 (all_as _ hall (looks_opn (intR .i64) (xs := [f1, f2, g2]) rfl rfl) (by simp)) ?_))))))))))))))))))))
      refine vQ tab rfl (vQ tab rfl (vQ tab rfl (vQ tab rfl (vQ tab rfl (vnl (qth (wsq (wrg (vQ tab rfl (vQ tab rfl (vQ tab rfl (vN tab rfl (vQ tab rfl (vnl (qth (wsq (vw_draw mixed (dq_op tab rfl rfl rfl rfl (dq_op tab rfl rfl rfl rfl (dq_op tab rfl rfl rfl rfl (dq_op tab rfl rfl rfl rfl (dq_op tab rfl rfl (cat_ev (b := numsB [f1, f2, g2]) rfl rfl (by show 5 + (numsB [f1, f2, g2]).size ≤ _; omega)) (cat_ev (b := numsB [f1, f2, g2]) rfl rfl (by show 5 + (numsB [f1, f2, g2]).size ≤ _; omega)) ?_))))))))))))))))))))))
      refine dt_op [7, 0, 1, 2] rfl rfl rfl rfl rfl callable_42 (tag_bad (i := 7) (p := 0) (t := 1) (m := 2) (s := prT (numsB [f1, f2, g2])) rfl ⟨rfl, rfl, rfl, by decide, by decide, by decide⟩ (by decide) (by decide) hl (by omega) hr) ?_
      refine dq_op tab rfl rfl rfl rfl (dn_op tab rfl rfl rfl rfl (ds_op tab rfl rfl rfl rfl (vd_nil (by kernel_rfl) ?_)))
      refine qth (wsq (wrg (vQ tab rfl (vQ tab rfl (vq_op tab rfl rfl rfl (cat_ev (b := numsB [f1, f2, g2]) rfl rfl (by show 3 + (numsB [f1, f2, g2]).size ≤ _; omega)) ?_)))))
      refine vR rfl callable_42 (tag_err (i := 7) (p := 0) (t := 8) (m := 2) rfl ⟨rfl, rfl, rfl, by decide, by decide, by decide⟩ (by decide)) ?_
      refine vQ tab rfl (vnl (qth (wsq (wsq (wrg (vQ tab rfl (vQ tab rfl (vQ tab rfl (vQ tab rfl (vQ tab rfl (vnl (qth (vc_true rfl (wsq (wrg (vQ tab rfl (vS tab rfl (vQ tab rfl (vQ tab rfl (vnl (qth (vw_ret (q_thenr ?_)))))))))))))))))))))))
      exact out_mk [8] (.inr rfl) ⟨rfl, rfl⟩ rfl (vrel_tuple (lrel_cons (pktRel zeroP) (lrel_cons (.int _ _) (lrel_cons (.int _ _) lrel_nil)))) (out_book0 (sigma_own (a := 0) (by simp [ownNames, *]) rfl) (sigma_at (i := 0) (by simp [ownNames, *]) rfl) (sigma_own (a := 2) (by simp [ownNames, *]) rfl) rfl rfl rfl) (told_of (by simp [ownNames, nameL]))
    rw [if_pos he]
    have hr := mac_split he
    have hl2 := macB_len (k := key) (s := prT (numsB [f1, f2, g2])) hmo hl
    by_cases he2 : (macB most (macB most l key (prT (numsB [f1, f2, g2]))).2.2 key (ktT (numsB [f1, f2, g2]))).2.1 = 0
    case neg =>
      rw [if_neg he2]
      have hr2 := macB_code he2
      refine wsq (wrg (vN tab rfl (vN tab rfl (vN tab rfl (vQ tab rfl (vQ tab rfl (vnl (qth (wsq (wbk (wsq (wrg (vQ tab rfl (vQ tab rfl (vQ tab rfl (vnl (qth (vc_false rfl (wsq (wrg (vQ tab rfl (vF rfl callable_39 (pkt_may ⟨0, f1, f2, f3, f4, f5, f6, f7, d⟩) (vQ tab rfl ?_)))))))))))))))))))))))
      refine vQ tab rfl (vgd_op false rfl rfl rfl (by simp only [c1, c3, decide_eq_true_eq, decide_eq_false_iff_not, Bool.not_eq_eq_eq_not, Bool.not_true, Bool.not_false, bne_iff_ne, bne_eq_false_iff_eq, beq_iff_eq, beq_eq_false_iff_ne, ne_eq, beq_self_eq_true, bne_self_eq_false, Bool.and_eq_true, Bool.and_eq_false_iff, Bool.or_eq_true, Bool.or_eq_false_iff, and_self, and_true, true_and, Bool.false_eq_true, Bool.true_eq_false, not_false_eq_true, not_true_eq_false]; first | done | omega) ?_)
      refine vQ tab rfl (vQ tab rfl (vQ tab rfl (vQ tab rfl (vQ tab rfl (vQ tab rfl (vF rfl callable_40 (rpl_may ⟨0, g1, g2, g3, g4, g5, g6, g7, e⟩) (vQ tab rfl (vQ tab rfl (vQ tab rfl (vgd_op false rfl rfl rfl (by simp only [c1, c3, decide_eq_true_eq, decide_eq_false_iff_not, Bool.not_eq_eq_eq_not, Bool.not_true, Bool.not_false, bne_iff_ne, bne_eq_false_iff_eq, beq_iff_eq, beq_eq_false_iff_ne, ne_eq, beq_self_eq_true, bne_self_eq_false, Bool.and_eq_true, Bool.and_eq_false_iff, Bool.or_eq_true, Bool.or_eq_false_iff, and_self, and_true, true_and, Bool.false_eq_true, Bool.true_eq_false, not_false_eq_true, not_true_eq_false]; first | done | omega) ?_))))))))))
      refine vQ tab rfl (vQ tab rfl (vQ tab rfl (vQ tab rfl (vQ tab rfl (vnl (qth (vc_false rfl (vw_skip (q_norm (qth (wsq (wrg (vQ tab rfl (vQ tab rfl (vQ tab rfl (vQ tab rfl (vQ tab rfl (vQ tab rfl (vN tab rfl (vR rfl callable_41 (all_as _ hall (looks_opn (intR .i64) (xs := [f1, f2, g2]) rfl rfl) (by simp)) ?_))))))))))))))))))))
      refine vQ tab rfl (vQ tab rfl (vQ tab rfl (vQ tab rfl (vQ tab rfl (vnl (qth (wsq (wrg (vQ tab rfl (vQ tab rfl (vQ tab rfl (vN tab rfl (vQ tab rfl (vnl (qth (wsq (vw_draw mixed (dq_op tab rfl rfl rfl rfl (dq_op tab rfl rfl rfl rfl (dq_op tab rfl rfl rfl rfl (dq_op tab rfl rfl rfl rfl (dq_op tab rfl rfl (cat_ev (b := numsB [f1, f2, g2]) rfl rfl (by show 5 + (numsB [f1, f2, g2]).size ≤ _; omega)) (cat_ev (b := numsB [f1, f2, g2]) rfl rfl (by show 5 + (numsB [f1, f2, g2]).size ≤ _; omega)) ?_))))))))))))))))))))))
      refine dt_op [7, 0, 1, 2] rfl rfl rfl rfl rfl callable_42 (tag_ok (i := 7) (p := 0) (t := 1) (m := 2) (s := prT (numsB [f1, f2, g2])) rfl ⟨rfl, rfl, rfl, by decide, by decide, by decide⟩ (by decide) (by decide) hl (by omega) hr) ?_
      refine dq_op tab rfl rfl rfl rfl (dn_op tab rfl rfl rfl rfl (ds_op tab rfl rfl rfl rfl (vd_nil (by kernel_rfl) ?_)))
      refine qth (wsq (wrg (vQ tab rfl (vQ tab rfl (vq_op tab rfl rfl rfl (cat_ev (b := numsB [f1, f2, g2]) rfl rfl (by show 3 + (numsB [f1, f2, g2]).size ≤ _; omega)) ?_)))))
      refine vT rfl callable_42 (tag_bad (i := 7) (p := 0) (t := 8) (m := 2) (s := ktT (numsB [f1, f2, g2])) rfl ⟨rfl, rfl, rfl, by decide, by decide, by decide⟩ (by decide) (by decide) hl2 (by omega) hr2) ?_
      refine vQ tab rfl (vnl (qth (wsq (wsq (wrg (vQ tab rfl (vQ tab rfl (vQ tab rfl (vQ tab rfl (vQ tab rfl (vnl (qth (vc_true rfl (wsq (wrg (vQ tab rfl (vS tab rfl (vQ tab rfl (vQ tab rfl (vnl (qth (vw_ret (q_thenr ?_)))))))))))))))))))))))
      exact out_mk [10] (.inr rfl) ⟨rfl, rfl⟩ rfl (vrel_tuple (lrel_cons (pktRel zeroP) (lrel_cons (.int _ _) (lrel_cons (.int _ _) lrel_nil)))) (out_book0 (sigma_own (a := 0) (by simp [ownNames, *]) rfl) (sigma_at (i := 0) (by simp [ownNames, *]) rfl) (sigma_own (a := 2) (by simp [ownNames, *]) rfl) rfl rfl rfl) (told_of (by simp [ownNames, nameL]))
    rw [if_pos he2]
    have hr2 := mac_split he2
    have hl3 := macB_len (k := key) (s := ktT (numsB [f1, f2, g2])) hmo hl2
    by_cases he3 : (codeR most (macB most (macB most l key (prT (numsB [f1, f2, g2]))).2.2 key (ktT (numsB [f1, f2, g2]))).2.2 secret (stepR tick)).2.1 = 0
    case neg =>
      rw [if_neg he3]
      have hr3 := codeR_err he3
      refine wsq (wrg (vN tab rfl (vN tab rfl (vN tab rfl (vQ tab rfl (vQ tab rfl (vnl (qth (wsq (wbk (wsq (wrg (vQ tab rfl (vQ tab rfl (vQ tab rfl (vnl (qth (vc_false rfl (wsq (wrg (vQ tab rfl (vF rfl callable_39 (pkt_may ⟨0, f1, f2, f3, f4, f5, f6, f7, d⟩) (vQ tab rfl ?_)))))))))))))))))))))))
      refine vQ tab rfl (vgd_op false rfl rfl rfl (by simp only [c1, c3, decide_eq_true_eq, decide_eq_false_iff_not, Bool.not_eq_eq_eq_not, Bool.not_true, Bool.not_false, bne_iff_ne, bne_eq_false_iff_eq, beq_iff_eq, beq_eq_false_iff_ne, ne_eq, beq_self_eq_true, bne_self_eq_false, Bool.and_eq_true, Bool.and_eq_false_iff, Bool.or_eq_true, Bool.or_eq_false_iff, and_self, and_true, true_and, Bool.false_eq_true, Bool.true_eq_false, not_false_eq_true, not_true_eq_false]; first | done | omega) ?_)
      refine vQ tab rfl (vQ tab rfl (vQ tab rfl (vQ tab rfl (vQ tab rfl (vQ tab rfl (vF rfl callable_40 (rpl_may ⟨0, g1, g2, g3, g4, g5, g6, g7, e⟩) (vQ tab rfl (vQ tab rfl (vQ tab rfl (vgd_op false rfl rfl rfl (by simp only [c1, c3, decide_eq_true_eq, decide_eq_false_iff_not, Bool.not_eq_eq_eq_not, Bool.not_true, Bool.not_false, bne_iff_ne, bne_eq_false_iff_eq, beq_iff_eq, beq_eq_false_iff_ne, ne_eq, beq_self_eq_true, bne_self_eq_false, Bool.and_eq_true, Bool.and_eq_false_iff, Bool.or_eq_true, Bool.or_eq_false_iff, and_self, and_true, true_and, Bool.false_eq_true, Bool.true_eq_false, not_false_eq_true, not_true_eq_false]; first | done | omega) ?_))))))))))
      refine vQ tab rfl (vQ tab rfl (vQ tab rfl (vQ tab rfl (vQ tab rfl (vnl (qth (vc_false rfl (vw_skip (q_norm (qth (wsq (wrg (vQ tab rfl (vQ tab rfl (vQ tab rfl (vQ tab rfl (vQ tab rfl (vQ tab rfl (vN tab rfl (vR rfl callable_41 (all_as _ hall (looks_opn (intR .i64) (xs := [f1, f2, g2]) rfl rfl) (by simp)) ?_))))))))))))))))))))
      refine vQ tab rfl (vQ tab rfl (vQ tab rfl (vQ tab rfl (vQ tab rfl (vnl (qth (wsq (wrg (vQ tab rfl (vQ tab rfl (vQ tab rfl (vN tab rfl (vQ tab rfl (vnl (qth (wsq (vw_draw mixed (dq_op tab rfl rfl rfl rfl (dq_op tab rfl rfl rfl rfl (dq_op tab rfl rfl rfl rfl (dq_op tab rfl rfl rfl rfl (dq_op tab rfl rfl (cat_ev (b := numsB [f1, f2, g2]) rfl rfl (by show 5 + (numsB [f1, f2, g2]).size ≤ _; omega)) (cat_ev (b := numsB [f1, f2, g2]) rfl rfl (by show 5 + (numsB [f1, f2, g2]).size ≤ _; omega)) ?_))))))))))))))))))))))
      refine dt_op [7, 0, 1, 2] rfl rfl rfl rfl rfl callable_42 (tag_ok (i := 7) (p := 0) (t := 1) (m := 2) (s := prT (numsB [f1, f2, g2])) rfl ⟨rfl, rfl, rfl, by decide, by decide, by decide⟩ (by decide) (by decide) hl (by omega) hr) ?_
      refine dq_op tab rfl rfl rfl rfl (dn_op tab rfl rfl rfl rfl (ds_op tab rfl rfl rfl rfl (vd_nil (by kernel_rfl) ?_)))
      refine qth (wsq (wrg (vQ tab rfl (vQ tab rfl (vq_op tab rfl rfl rfl (cat_ev (b := numsB [f1, f2, g2]) rfl rfl (by show 3 + (numsB [f1, f2, g2]).size ≤ _; omega)) ?_)))))
      refine vT rfl callable_42 (tag_ok (i := 7) (p := 0) (t := 8) (m := 2) (s := ktT (numsB [f1, f2, g2])) rfl ⟨rfl, rfl, rfl, by decide, by decide, by decide⟩ (by decide) (by decide) hl2 (by omega) hr2) ?_
      refine vQ tab rfl (vnl (qth (wsq (wsq (wrg (vQ tab rfl (vQ tab rfl (vQ tab rfl (vQ tab rfl (vQ tab rfl (vnl (qth (vc_false rfl (vw_skip (qth (wsq (wrg (vQ tab rfl (vQ tab rfl (vQ tab rfl (vF rfl callable_44 (step_fun tick) (vT rfl callable_43 (code_as _ hr3 ⟨rfl, rfl, rfl, by decide, by decide, by decide⟩ (by decide) hl3) ?_))))))))))))))))))))))
      refine vQ tab rfl (vQ tab rfl (vQ tab rfl (vQ tab rfl (vQ tab rfl (vnl (qth (wsq (wsq (wrg (vQ tab rfl (vQ tab rfl (vnl (qth (vc_true rfl (wsq (wrg (vQ tab rfl (vS tab rfl (vQ tab rfl (vQ tab rfl (vnl (qth (vw_ret ?_)))))))))))))))))))))))
      refine q_thenr ?_
      exact out_mk [11] (.inr rfl) ⟨rfl, rfl⟩ rfl (vrel_tuple (lrel_cons (pktRel zeroP) (lrel_cons (.int _ _) (lrel_cons (.int _ _) lrel_nil)))) (out_book0 (sigma_own (a := 0) (by simp [ownNames, *]) rfl) (sigma_at (i := 0) (by simp [ownNames, *]) rfl) (sigma_own (a := 2) (by simp [ownNames, *]) rfl) rfl rfl rfl) (told_of (by simp [ownNames, nameL]))
    rw [if_pos he3]
    have h0 : ((codeR most (macB most (macB most l key (prT (numsB [f1, f2, g2]))).2.2 key (ktT (numsB [f1, f2, g2]))).2.2 secret (stepR tick)).2.1 != 0) = false := by rw [he3]; rfl
    refine wsq (wrg (vN tab rfl (vN tab rfl (vN tab rfl (vQ tab rfl (vQ tab rfl (vnl (qth (wsq (wbk (wsq (wrg (vQ tab rfl (vQ tab rfl (vQ tab rfl (vnl (qth (vc_false rfl (wsq (wrg (vQ tab rfl (vF rfl callable_39 (pkt_may ⟨0, f1, f2, f3, f4, f5, f6, f7, d⟩) (vQ tab rfl ?_)))))))))))))))))))))))
    refine vQ tab rfl (vgd_op false rfl rfl rfl (by simp only [c1, c3, h0, decide_eq_true_eq, decide_eq_false_iff_not, Bool.not_eq_eq_eq_not, Bool.not_true, Bool.not_false, bne_iff_ne, bne_eq_false_iff_eq, beq_iff_eq, beq_eq_false_iff_ne, ne_eq, beq_self_eq_true, bne_self_eq_false, Bool.and_eq_true, Bool.and_eq_false_iff, Bool.or_eq_true, Bool.or_eq_false_iff, and_self, and_true, true_and, Bool.false_eq_true, Bool.true_eq_false, not_false_eq_true, not_true_eq_false]; first | done | omega) ?_)
    refine vQ tab rfl (vQ tab rfl (vQ tab rfl (vQ tab rfl (vQ tab rfl (vQ tab rfl (vF rfl callable_40 (rpl_may ⟨0, g1, g2, g3, g4, g5, g6, g7, e⟩) (vQ tab rfl (vQ tab rfl (vQ tab rfl (vgd_op false rfl rfl rfl (by simp only [c1, c3, h0, decide_eq_true_eq, decide_eq_false_iff_not, Bool.not_eq_eq_eq_not, Bool.not_true, Bool.not_false, bne_iff_ne, bne_eq_false_iff_eq, beq_iff_eq, beq_eq_false_iff_ne, ne_eq, beq_self_eq_true, bne_self_eq_false, Bool.and_eq_true, Bool.and_eq_false_iff, Bool.or_eq_true, Bool.or_eq_false_iff, and_self, and_true, true_and, Bool.false_eq_true, Bool.true_eq_false, not_false_eq_true, not_true_eq_false]; first | done | omega) ?_))))))))))
    refine vQ tab rfl (vQ tab rfl (vQ tab rfl (vQ tab rfl (vQ tab rfl (vnl (qth (vc_false rfl (vw_skip (q_norm (qth (wsq (wrg (vQ tab rfl (vQ tab rfl (vQ tab rfl (vQ tab rfl (vQ tab rfl (vQ tab rfl (vN tab rfl (vR rfl callable_41 (all_as _ hall (looks_opn (intR .i64) (xs := [f1, f2, g2]) rfl rfl) (by simp)) ?_))))))))))))))))))))
    refine vQ tab rfl (vQ tab rfl (vQ tab rfl (vQ tab rfl (vQ tab rfl (vnl (qth (wsq (wrg (vQ tab rfl (vQ tab rfl (vQ tab rfl (vN tab rfl (vQ tab rfl (vnl (qth (wsq (vw_draw mixed (dq_op tab rfl rfl rfl rfl (dq_op tab rfl rfl rfl rfl (dq_op tab rfl rfl rfl rfl (dq_op tab rfl rfl rfl rfl (dq_op tab rfl rfl (cat_ev (b := numsB [f1, f2, g2]) rfl rfl (by show 5 + (numsB [f1, f2, g2]).size ≤ _; omega)) (cat_ev (b := numsB [f1, f2, g2]) rfl rfl (by show 5 + (numsB [f1, f2, g2]).size ≤ _; omega)) ?_))))))))))))))))))))))
    refine dt_op [7, 0, 1, 2] rfl rfl rfl rfl rfl callable_42 (tag_ok (i := 7) (p := 0) (t := 1) (m := 2) (s := prT (numsB [f1, f2, g2])) rfl ⟨rfl, rfl, rfl, by decide, by decide, by decide⟩ (by decide) (by decide) hl (by omega) hr) ?_
    refine dq_op tab rfl rfl rfl rfl (dn_op tab rfl rfl rfl rfl (ds_op tab rfl rfl rfl rfl (vd_nil (by kernel_rfl) ?_)))
    refine qth (wsq (wrg (vQ tab rfl (vQ tab rfl (vq_op tab rfl rfl rfl (cat_ev (b := numsB [f1, f2, g2]) rfl rfl (by show 3 + (numsB [f1, f2, g2]).size ≤ _; omega)) ?_)))))
    refine vT rfl callable_42 (tag_ok (i := 7) (p := 0) (t := 8) (m := 2) (s := ktT (numsB [f1, f2, g2])) rfl ⟨rfl, rfl, rfl, by decide, by decide, by decide⟩ (by decide) (by decide) hl2 (by omega) hr2) ?_
    refine vQ tab rfl (vnl (qth (wsq (wsq (wrg (vQ tab rfl (vQ tab rfl (vQ tab rfl (vQ tab rfl (vQ tab rfl (vnl (qth (vc_false rfl (vw_skip (qth (wsq (wrg (vQ tab rfl (vQ tab rfl (vQ tab rfl (vF rfl callable_44 (step_fun tick) (vT rfl callable_43 (code_tri ⟨rfl, rfl, rfl, by decide, by decide, by decide⟩ (by decide) hl3 secret (stepR tick)) ?_))))))))))))))))))))))
    refine vQ tab rfl (vQ tab rfl (vQ tab rfl (vQ tab rfl (vQ tab rfl (vnl (qth (wsq (wsq (wrg (vQ tab rfl (vQ tab rfl (vnl (qth (vcd_false rfl (by simp only [c1, c3, h0, decide_eq_true_eq, decide_eq_false_iff_not, Bool.not_eq_eq_eq_not, Bool.not_true, Bool.not_false, bne_iff_ne, bne_eq_false_iff_eq, beq_iff_eq, beq_eq_false_iff_ne, ne_eq, beq_self_eq_true, bne_self_eq_false, Bool.and_eq_true, Bool.and_eq_false_iff, Bool.or_eq_true, Bool.or_eq_false_iff, and_self, and_true, true_and, Bool.false_eq_true, Bool.true_eq_false, not_false_eq_true, not_true_eq_false]; first | done | omega) ?_))))))))))))))
    refine vw_skip (qth (wsq (wrg (vQ tab rfl (vQ tab rfl (vS tab rfl (vnl (qth (wsq (wrg (vQ tab rfl (vQ tab rfl (vS tab rfl (vQ tab rfl (vQ tab rfl (vnl (qth (vw_ret ?_))))))))))))))))))
    exact out_mk [11] (.inr rfl) ⟨rfl, rfl⟩ rfl (vrel_tuple (lrel_cons (pktRel _) (lrel_cons (.int _ _) (lrel_cons (.int _ _) lrel_nil)))) (out_book0 (sigma_own (a := 0) (by simp [ownNames, *]) rfl) (sigma_at (i := 0) (by simp [ownNames, *]) rfl) (sigma_own (a := 2) (by simp [ownNames, *]) rfl) rfl rfl rfl) (told_of (by simp [ownNames, nameL]))
end Go.Proofs.Ytjkidjplbddmmaa
