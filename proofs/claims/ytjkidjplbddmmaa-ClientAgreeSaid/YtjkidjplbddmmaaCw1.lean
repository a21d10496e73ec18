/- Law 24: Clients. -/
import Derived.Test.YtjkidjplbddmmaaVg1
import Derived.Test.YtjkidjplbddmmaaCw0
namespace Go.Proofs.Ytjkidjplbddmmaa
open Go Vm IntWalk
set_option linter.unusedVariables false
set_option linter.unusedSimpArgs false
theorem codeR_len {most : Int} {l : List ByteArray} {k s : Int} (hm : most ≤ 65536) (hl : (l.length : Int) ≤ 65536) : ((codeR most l k s).2.2.length : Int) ≤ 65536 := by
  unfold codeR
  split
  · split
    · exact macB_len hm hl
    · exact hl
  · exact hl
theorem proofR_len {most : Int} {l : List ByteArray} {key secret tick : Int} {h : PacketV} {r : ReplyV} (hm : most ≤ 65536) (hl : (l.length : Int) ≤ 65536) : ((proofR most l key secret h r tick).2.2.2.length : Int) ≤ 65536 := by
  unfold proofR
  split
  · split
    · split
      · split
        · exact codeR_len hm (macB_len hm (macB_len hm hl))
        · exact macB_len hm (macB_len hm hl)
      · exact macB_len hm hl
    · exact hl
  · exact hl
theorem resumeR_len {most : Int} {l : List ByteArray} {key ticket nonce : Int} (hm : most ≤ 65536) (hl : (l.length : Int) ≤ 65536) : ((resumeR most l key ticket nonce).2.2.2.length : Int) ≤ 65536 := by
  unfold resumeR
  split
  · split
    · split
      · exact macB_len hm (macB_len hm hl)
      · exact macB_len hm hl
    · exact hl
  · exact hl
theorem taggedR_len {most : Int} {l : List ByteArray} {key : Int} {p : PacketV} {s : ByteArray} (hm : most ≤ 65536) (hl : (l.length : Int) ≤ 65536) : ((taggedR most l key p s).2.2.length : Int) ≤ 65536 := by
  unfold taggedR
  split
  · split
    · exact macB_len hm hl
    · exact hl
  · exact hl
set_option maxHeartbeats 32000000 in
theorem Clients_law (most key secret : Int) (h : PacketV) (r : ReplyV) (tick session seq : Int) (data : ByteArray) (hd0 : data.size ≤ maxLen) :
    Fun Try.prog 6 [.int .i64 most, .int .i64 key, .int .i64 secret, pktV h, rplV r, .int .i64 tick, .int .i64 session, .int .i64 seq, .string data] (.bool true) := by
  have hd : data.size ≤ 9223372036854775807 := by unfold maxLen at hd0; omega
  refine fun_of_vw tab Try.func6 rfl rfl (by simp [Try.f6]) (lrel_cons (.int _ _) (lrel_cons (.int _ _) (lrel_cons (.int _ _) (lrel_cons (pktRel h) (lrel_cons (rplRel r) (lrel_cons (.int _ _) (lrel_cons (.int _ _) (lrel_cons (.int _ _) (lrel_cons (.string _) lrel_nil))))))))) (.bool _) ?_
  by_cases hbad : badNew most
  · refine wsq (wrg (vN tab rfl (vN tab rfl (vQ tab rfl (vnl (qth (wsq (wrg (vQ tab rfl (vF rfl callable_14 (twin_bad hbad) (vQ tab rfl (vQ tab rfl (vQ tab rfl (vQ tab rfl (vQ tab rfl (vnl (qth (wsq (wsq (wrg (vQ tab rfl (vQ tab rfl (vQ tab rfl ?_)))))))))))))))))))))))
    refine vK rfl (vK rfl (vQ tab rfl (vnl (qth (vc_true rfl (wsq (wrg (vF rfl callable_13 (client_awake) (vQ tab rfl (vnl (qth (vw_ret (q_thenr ?_)))))))))))))
    exact ⟨.inr rfl, rfl⟩
  have hmo : most ≤ 65536 := by unfold badNew at hbad; omega
  obtain ⟨k, f1, f2, f3, f4, f5, f6, f7, d⟩ := h
  obtain ⟨q, g1, g2, g3, g4, g5, g6, g7, e⟩ := r
  have hl0 : (([] : List ByteArray).length : Int) ≤ 65536 := by simp
  obtain ⟨⟨p1, a1, c1, l1⟩, hp1⟩ : ∃ x, proofR most [] key secret ⟨k, f1, f2, f3, f4, f5, f6, f7, d⟩ ⟨q, g1, g2, g3, g4, g5, g6, g7, e⟩ tick = x := ⟨_, rfl⟩
  have hl1 : (l1.length : Int) ≤ 65536 := by have := proofR_len (key := key) (secret := secret) (tick := tick) (h := ⟨k, f1, f2, f3, f4, f5, f6, f7, d⟩) (r := ⟨q, g1, g2, g3, g4, g5, g6, g7, e⟩) hmo hl0; rw [hp1] at this; exact this
  obtain ⟨⟨p2, a2, c2, l2⟩, hp2⟩ : ∃ x, resumeR most l1 key secret tick = x := ⟨_, rfl⟩
  have hl2 : (l2.length : Int) ≤ 65536 := by have := resumeR_len (key := key) (ticket := secret) (nonce := tick) hmo hl1; rw [hp2] at this; exact this
  obtain ⟨⟨p3, c3, l3⟩, hp3⟩ : ∃ x, dataR most l2 key session seq data = x := ⟨_, rfl⟩
  have hl3 : (l3.length : Int) ≤ 65536 := by have := taggedR_len (key := key) (p := ⟨3, 0, 0, 0, 0, 0, session, seq, data⟩) (s := dataT seq data) hmo hl2; rw [show taggedR most l2 key ⟨3, 0, 0, 0, 0, 0, session, seq, data⟩ (dataT seq data) = (p3, c3, l3) from hp3] at this; exact this
  obtain ⟨⟨p4, c4, l4⟩, hp4⟩ : ∃ x, byeR most l3 key session = x := ⟨_, rfl⟩
  have hl4 : (l4.length : Int) ≤ 65536 := by have := taggedR_len (key := key) (p := ⟨4, 0, 0, 0, 0, 0, session, 0, ⟨#[]⟩⟩) (s := byeT) hmo hl3; rw [show taggedR most l3 key ⟨4, 0, 0, 0, 0, 0, session, 0, ⟨#[]⟩⟩ byeT = (p4, c4, l4) from hp4] at this; exact this
  obtain ⟨x0, x1, x2, x3, x4, x5, x6, x7, x8⟩ := p1
  obtain ⟨y0, y1, y2, y3, y4, y5, y6, y7, y8⟩ := p2
  obtain ⟨z0, z1, z2, z3, z4, z5, z6, z7, z8⟩ := p3
  obtain ⟨w0, w1, w2, w3, w4, w5, w6, w7, w8⟩ := p4
  refine wsq (wrg (vN tab rfl (vN tab rfl (vQ tab rfl (vnl (qth (wsq (wrg (vQ tab rfl (vT rfl callable_14 (twin_ok hbad) (vQ tab rfl (vQ tab rfl (vQ tab rfl (vQ tab rfl (vQ tab rfl (vnl (qth (wsq (wsq (wrg (vQ tab rfl (vQ tab rfl (vQ tab rfl ?_)))))))))))))))))))))))
  refine vQ tab rfl (vQ tab rfl (vQ tab rfl (vnl (qth (vc_false rfl (vw_skip (qth (wsq (wrg (vQ tab rfl (vQ tab rfl (vQ tab rfl (vQ tab rfl (vQ tab rfl (vQ tab rfl (vT rfl callable_15 (cproof_as _ hp1 ⟨rfl, rfl, rfl, by decide, by decide, by decide⟩ (by decide) hmo hl0) ?_))))))))))))))))
  refine vQ tab rfl (vQ tab rfl (vQ tab rfl (vQ tab rfl (vN tab rfl (vS tab rfl (vQ tab rfl (vQ tab rfl (vnl (qth (wsq (wrg (vQ tab rfl (vQ tab rfl (vQ tab rfl (vQ tab rfl (vQ tab rfl (vQ tab rfl (vT rfl callable_21 (refproof_as _ hp1 ⟨rfl, rfl, by decide⟩ (by decide) hmo hl0) ?_))))))))))))))))))
  refine vQ tab rfl (vQ tab rfl (vQ tab rfl (vQ tab rfl (vN tab rfl (vS tab rfl (vQ tab rfl (vQ tab rfl (vnl (qth (wsq (wsq (wrg (vQ tab rfl (vQ tab rfl (vq_op tab rfl rfl rfl (ev_neq rfl rfl rfl (pkt_eq ⟨x0, x1, x2, x3, x4, x5, x6, x7, x8⟩ ⟨x0, x1, x2, x3, x4, x5, x6, x7, x8⟩)) (vQ tab rfl (vgd_op false rfl rfl rfl (by simp only [eq_self, decide_true, decide_eq_true_eq, decide_eq_false_iff_not, Bool.not_eq_eq_eq_not, Bool.not_true, Bool.not_false, bne_iff_ne, bne_eq_false_iff_eq, beq_iff_eq, beq_eq_false_iff_ne, ne_eq, beq_self_eq_true, bne_self_eq_false, Bool.and_eq_true, Bool.and_eq_false_iff, Bool.or_eq_true, Bool.or_eq_false_iff, and_self, and_true, true_and, Bool.false_eq_true, Bool.true_eq_false, not_false_eq_true, not_true_eq_false]; first | done | omega) ?_)))))))))))))))))
  refine vQ tab rfl (vQ tab rfl (vQ tab rfl (vQ tab rfl (vQ tab rfl (vgd_op false rfl rfl rfl (by simp only [eq_self, decide_true, decide_eq_true_eq, decide_eq_false_iff_not, Bool.not_eq_eq_eq_not, Bool.not_true, Bool.not_false, bne_iff_ne, bne_eq_false_iff_eq, beq_iff_eq, beq_eq_false_iff_ne, ne_eq, beq_self_eq_true, bne_self_eq_false, Bool.and_eq_true, Bool.and_eq_false_iff, Bool.or_eq_true, Bool.or_eq_false_iff, and_self, and_true, true_and, Bool.false_eq_true, Bool.true_eq_false, not_false_eq_true, not_true_eq_false]; first | done | omega) ?_)))))
  refine vQ tab rfl (vF rfl callable_16 (num_fun _) (vQ tab rfl (vQ tab rfl (vQ tab rfl (vQ tab rfl (vgd_op false rfl rfl rfl (by simp only [eq_self, decide_true, decide_eq_true_eq, decide_eq_false_iff_not, Bool.not_eq_eq_eq_not, Bool.not_true, Bool.not_false, bne_iff_ne, bne_eq_false_iff_eq, beq_iff_eq, beq_eq_false_iff_ne, ne_eq, beq_self_eq_true, bne_self_eq_false, Bool.and_eq_true, Bool.and_eq_false_iff, Bool.or_eq_true, Bool.or_eq_false_iff, and_self, and_true, true_and, Bool.false_eq_true, Bool.true_eq_false, not_false_eq_true, not_true_eq_false]; first | done | omega) ?_))))))
  refine vQ tab rfl (vQ tab rfl (vR rfl callable_22 (csame_books (l := l1) ⟨rfl, rfl, rfl, by decide, by decide, by decide⟩ ⟨rfl, rfl, by decide⟩ (by decide) hl1) ?_))
  refine vQ tab rfl (vQ tab rfl (vnl (qth (vc_false rfl (vw_skip (qth (wsq (wrg (vQ tab rfl (vQ tab rfl (vQ tab rfl (vQ tab rfl (vT rfl callable_17 (cresume_as _ hp2 ⟨rfl, rfl, rfl, by decide, by decide, by decide⟩ (by decide) hmo hl1) ?_)))))))))))))
  refine vQ tab rfl (vQ tab rfl (vQ tab rfl (vQ tab rfl (vS tab rfl (vQ tab rfl (vQ tab rfl (vnl (qth (wsq (wrg (vQ tab rfl (vQ tab rfl (vQ tab rfl (vQ tab rfl (vT rfl callable_23 (refresume_as _ hp2 ⟨rfl, rfl, by decide⟩ (by decide) hmo hl1) ?_)))))))))))))))
  refine vQ tab rfl (vQ tab rfl (vQ tab rfl (vQ tab rfl (vS tab rfl (vQ tab rfl (vQ tab rfl (vnl (qth (wsq (wsq (wrg (vQ tab rfl (vQ tab rfl (vq_op tab rfl rfl rfl (ev_neq rfl rfl rfl (pkt_eq ⟨y0, y1, y2, y3, y4, y5, y6, y7, y8⟩ ⟨y0, y1, y2, y3, y4, y5, y6, y7, y8⟩)) (vQ tab rfl (vgd_op false rfl rfl rfl (by simp only [eq_self, decide_true, decide_eq_true_eq, decide_eq_false_iff_not, Bool.not_eq_eq_eq_not, Bool.not_true, Bool.not_false, bne_iff_ne, bne_eq_false_iff_eq, beq_iff_eq, beq_eq_false_iff_ne, ne_eq, beq_self_eq_true, bne_self_eq_false, Bool.and_eq_true, Bool.and_eq_false_iff, Bool.or_eq_true, Bool.or_eq_false_iff, and_self, and_true, true_and, Bool.false_eq_true, Bool.true_eq_false, not_false_eq_true, not_true_eq_false]; first | done | omega) ?_))))))))))))))))
  refine vQ tab rfl (vQ tab rfl (vQ tab rfl (vQ tab rfl (vQ tab rfl (vgd_op false rfl rfl rfl (by simp only [eq_self, decide_true, decide_eq_true_eq, decide_eq_false_iff_not, Bool.not_eq_eq_eq_not, Bool.not_true, Bool.not_false, bne_iff_ne, bne_eq_false_iff_eq, beq_iff_eq, beq_eq_false_iff_ne, ne_eq, beq_self_eq_true, bne_self_eq_false, Bool.and_eq_true, Bool.and_eq_false_iff, Bool.or_eq_true, Bool.or_eq_false_iff, and_self, and_true, true_and, Bool.false_eq_true, Bool.true_eq_false, not_false_eq_true, not_true_eq_false]; first | done | omega) ?_)))))
  refine vQ tab rfl (vF rfl callable_16 (num_fun _) (vQ tab rfl (vQ tab rfl (vQ tab rfl (vQ tab rfl (vgd_op false rfl rfl rfl (by simp only [eq_self, decide_true, decide_eq_true_eq, decide_eq_false_iff_not, Bool.not_eq_eq_eq_not, Bool.not_true, Bool.not_false, bne_iff_ne, bne_eq_false_iff_eq, beq_iff_eq, beq_eq_false_iff_ne, ne_eq, beq_self_eq_true, bne_self_eq_false, Bool.and_eq_true, Bool.and_eq_false_iff, Bool.or_eq_true, Bool.or_eq_false_iff, and_self, and_true, true_and, Bool.false_eq_true, Bool.true_eq_false, not_false_eq_true, not_true_eq_false]; first | done | omega) ?_))))))
  refine vQ tab rfl (vQ tab rfl (vR rfl callable_22 (csame_books (l := l2) ⟨rfl, rfl, rfl, by decide, by decide, by decide⟩ ⟨rfl, rfl, by decide⟩ (by decide) hl2) ?_))
  refine vQ tab rfl (vQ tab rfl (vnl (qth (vc_false rfl (vw_skip (qth (wsq (wrg (vQ tab rfl (vQ tab rfl (vQ tab rfl (vQ tab rfl (vQ tab rfl (vT rfl callable_18 (cdata_as _ hp3 ⟨rfl, rfl, rfl, by decide, by decide, by decide⟩ (by decide) hl2 hd) ?_))))))))))))))
  refine vQ tab rfl (vQ tab rfl (vQ tab rfl (vN tab rfl (vS tab rfl (vQ tab rfl (vnl (qth (wsq (wrg (vQ tab rfl (vQ tab rfl (vQ tab rfl (vQ tab rfl (vQ tab rfl (vT rfl callable_24 (refdata_as _ hp3 ⟨rfl, rfl, by decide⟩ (by decide) hl2) ?_)))))))))))))))
  refine vQ tab rfl (vQ tab rfl (vQ tab rfl (vN tab rfl (vS tab rfl (vQ tab rfl (vnl (qth (wsq (wrg (vQ tab rfl (vQ tab rfl (vQ tab rfl (vT rfl callable_19 (cbye_as _ hp4 ⟨rfl, rfl, rfl, by decide, by decide, by decide⟩ (by decide) hl3) ?_)))))))))))))
  refine vQ tab rfl (vQ tab rfl (vQ tab rfl (vN tab rfl (vS tab rfl (vQ tab rfl (vnl (qth (wsq (wrg (vQ tab rfl (vQ tab rfl (vQ tab rfl (vT rfl callable_25 (refbye_as _ hp4 ⟨rfl, rfl, by decide⟩ (by decide) hl3) ?_)))))))))))))
  refine vQ tab rfl (vQ tab rfl (vQ tab rfl (vN tab rfl (vS tab rfl (vQ tab rfl (vnl (qth (wsq (wrg (vQ tab rfl (vQ tab rfl (vq_op tab rfl rfl rfl (ev_eql rfl rfl rfl (pkt_eq ⟨z0, z1, z2, z3, z4, z5, z6, z7, z8⟩ ⟨z0, z1, z2, z3, z4, z5, z6, z7, z8⟩)) (vQ tab rfl (vgd_op true rfl rfl rfl (by simp only [eq_self, decide_true, decide_eq_true_eq, decide_eq_false_iff_not, Bool.not_eq_eq_eq_not, Bool.not_true, Bool.not_false, bne_iff_ne, bne_eq_false_iff_eq, beq_iff_eq, beq_eq_false_iff_ne, ne_eq, beq_self_eq_true, bne_self_eq_false, Bool.and_eq_true, Bool.and_eq_false_iff, Bool.or_eq_true, Bool.or_eq_false_iff, and_self, and_true, true_and, Bool.false_eq_true, Bool.true_eq_false, not_false_eq_true, not_true_eq_false]; first | done | omega) ?_))))))))))))))
  refine vQ tab rfl (vF rfl callable_16 (num_fun _) (vQ tab rfl (vQ tab rfl (vQ tab rfl (vQ tab rfl (vgd_op true rfl rfl rfl (by simp only [eq_self, decide_true, decide_eq_true_eq, decide_eq_false_iff_not, Bool.not_eq_eq_eq_not, Bool.not_true, Bool.not_false, bne_iff_ne, bne_eq_false_iff_eq, beq_iff_eq, beq_eq_false_iff_ne, ne_eq, beq_self_eq_true, bne_self_eq_false, Bool.and_eq_true, Bool.and_eq_false_iff, Bool.or_eq_true, Bool.or_eq_false_iff, and_self, and_true, true_and, Bool.false_eq_true, Bool.true_eq_false, not_false_eq_true, not_true_eq_false]; first | done | omega) ?_))))))
  refine vQ tab rfl (vQ tab rfl (vq_op tab ⟨_, _, rfl, rfl, rfl⟩ rfl rfl (ev_eql rfl rfl rfl (pkt_eq ⟨w0, w1, w2, w3, w4, w5, w6, w7, w8⟩ ⟨w0, w1, w2, w3, w4, w5, w6, w7, w8⟩)) (vQ tab rfl (vQ tab rfl (vgd_op true rfl rfl rfl (by simp only [eq_self, decide_true, decide_eq_true_eq, decide_eq_false_iff_not, Bool.not_eq_eq_eq_not, Bool.not_true, Bool.not_false, bne_iff_ne, bne_eq_false_iff_eq, beq_iff_eq, beq_eq_false_iff_ne, ne_eq, beq_self_eq_true, bne_self_eq_false, Bool.and_eq_true, Bool.and_eq_false_iff, Bool.or_eq_true, Bool.or_eq_false_iff, and_self, and_true, true_and, Bool.false_eq_true, Bool.true_eq_false, not_false_eq_true, not_true_eq_false]; first | done | omega) ?_)))))
  refine vQ tab rfl (vF rfl callable_16 (num_fun _) (vQ tab rfl (vQ tab rfl (vQ tab rfl (vQ tab rfl (vgd_op true rfl rfl rfl (by simp only [eq_self, decide_true, decide_eq_true_eq, decide_eq_false_iff_not, Bool.not_eq_eq_eq_not, Bool.not_true, Bool.not_false, bne_iff_ne, bne_eq_false_iff_eq, beq_iff_eq, beq_eq_false_iff_ne, ne_eq, beq_self_eq_true, bne_self_eq_false, Bool.and_eq_true, Bool.and_eq_false_iff, Bool.or_eq_true, Bool.or_eq_false_iff, and_self, and_true, true_and, Bool.false_eq_true, Bool.true_eq_false, not_false_eq_true, not_true_eq_false]; first | done | omega) ?_))))))
  refine vQ tab rfl (vQ tab rfl (vR rfl callable_22 (csame_books (l := l4) ⟨rfl, rfl, rfl, by decide, by decide, by decide⟩ ⟨rfl, rfl, by decide⟩ (by decide) hl4) ?_))
  refine vQ tab rfl (vQ tab rfl (vF rfl callable_13 (client_awake) (vQ tab rfl (vQ tab rfl (vnl (qth (vw_ret ?_)))))))
  all_goals exact ⟨.inr rfl, rfl⟩
end Go.Proofs.Ytjkidjplbddmmaa
