/- Package client: Resume, Proof. -/
import Derived.Test.YtjkidjplbddmmaaVg1
import Derived.Test.YtjkidjplbddmmaaCt1
namespace Go.Proofs.Ytjkidjplbddmmaa
open Go Vm IntWalk
set_option linter.unusedVariables false
set_option linter.unusedSimpArgs false
set_option maxHeartbeats 16000000
theorem nameB_len {most : Int} {l : List ByteArray} {s : ByteArray} (hm : most ≤ 65536) (hl : (l.length : Int) ≤ 65536) : ((nameB most l s).2.2.length : Int) ≤ 65536 := by
  unfold nameB
  split
  · exact hl
  · split
    · exact hl
    · split
      · exact hl
      · simp only [List.length_append, List.length_singleton]; omega
theorem craftB_len {most : Int} {l : List ByteArray} {s : ByteArray} {b : Bool} (hm : most ≤ 65536) (hl : (l.length : Int) ≤ 65536) : ((craftB most l s b).2.2.length : Int) ≤ 65536 := by
  unfold craftB
  split
  · split
    · exact nameB_len hm hl
    · exact hl
  · exact hl
theorem macB_len {most : Int} {l : List ByteArray} {k : Int} {s : ByteArray} (hm : most ≤ 65536) (hl : (l.length : Int) ≤ 65536) : ((macB most l k s).2.2.length : Int) ≤ 65536 := craftB_len hm hl
theorem tag_err {V : Heap} {n i p t m : Nat} {most key e : Int} {l : List ByteArray} {s : ByteArray} (hi : V i = some (makX p key e)) (h : BkAt V p t m most l) (hd : i ≠ p ∧ i ≠ t ∧ i ≠ m) :
    Tri Try.prog 42 [.pointer (some ⟨i, 0, none⟩), .string s] n 0 V (fun u L => u = .int .i64 0 ∧ L = []) := by
  obtain ⟨hp, ht, hm, d1, d2, d3⟩ := h
  obtain ⟨e1, e2, e3⟩ := hd
  refine reads_of_vw (K := 4) (argsI := [.pointer (some ⟨0, 0, none⟩), .string s]) tab Try.func42 rfl rfl (by simp [Try.f42]) [.own i, .own p, .own t, .own m] [makX 1 key e, bookC most 2 l.length 3, .opn (strR.cells l) 9 1, .map (ents 0 l) l.length] rfl (.own hi (ov_makX rfl) (.own hp (ov_book (rel_slice rfl rfl) (rel_map rfl)) (.own ht (ov_opn strR rfl) (.own hm (ov_ents rfl rfl) .nil)))) (by simp [ownNames, *]) (by simp [ownNames, lookNames, *]) (al_cons (.val (rel_ptr rfl)) (al_cons (.val (.string _)) al_nil)) (seen_of (sn_own (sn_own (sn_own (sn_own sn_nil))))) (.int _ _) ?_
  refine wsq (wrg (vQ tab rfl (vnl (qth (wsq (wsq (wrg (vQ tab rfl (vQ tab rfl (vQ tab rfl (vQ tab rfl (vQ tab rfl (vnl (qth (vc_true rfl (wsq (wrg (vQ tab rfl (vnl (qth (vw_ret (q_thenr ?_))))))))))))))))))))))
  exact ⟨⟨.inr rfl, rfl⟩, fun _ => rfl, fun _ => rfl, fun _ => rfl, fun _ => rfl, trivial⟩
def resT (x : Int) : ByteArray := ⟨#[114, 101, 115, 117, 109, 101]⟩ ++ (numR x).1
def ktT (s : ByteArray) : ByteArray := ⟨#[107, 101, 121]⟩ ++ s
theorem resT_size (x : Int) : (resT x).size ≤ 11 := by
  unfold resT
  have := numR_size x
  rw [ByteArray.size_append]; show 6 + _ ≤ _; omega
theorem ktT_size (s : ByteArray) : (ktT s).size = 3 + s.size := by unfold ktT; rw [ByteArray.size_append]; rfl
def resumeR (most : Int) (l : List ByteArray) (key ticket nonce : Int) : PacketV × Int × Int × List ByteArray :=
  if pktMay ⟨2, 0, nonce, 0, ticket, 0, 0, 0, ⟨#[]⟩⟩ = true then
    (if (macB most l key (resT nonce)).2.1 = 0 then
      (if (macB most (macB most l key (resT nonce)).2.2 key (ktT (numR nonce).1)).2.1 = 0 then
        (⟨2, 0, nonce, 0, ticket, (macB most l key (resT nonce)).1, 0, 0, ⟨#[]⟩⟩, (macB most (macB most l key (resT nonce)).2.2 key (ktT (numR nonce).1)).1, 0, (macB most (macB most l key (resT nonce)).2.2 key (ktT (numR nonce).1)).2.2)
      else (zeroP, 0, 2400, (macB most l key (resT nonce)).2.2))
    else (zeroP, 0, 2400, l))
  else (zeroP, 0, 2400, l)
theorem cresume_tri {V : Heap} {n p t m : Nat} {most : Int} {l : List ByteArray} (h : BkAt V p t m most l) (hn : p < n ∧ t < n ∧ m < n) (hmo : most ≤ 65536) (hl : (l.length : Int) ≤ 65536) (key ticket nonce : Int) :
    Tri Try.prog 17 [.pointer (some ⟨p, 0, none⟩), .int .i64 key, .int .i64 ticket, .int .i64 nonce] n 1 V (fun u L => u = .tuple #[pktV (resumeR most l key ticket nonce).1, .int .i64 (resumeR most l key ticket nonce).2.1, .int .i64 (resumeR most l key ticket nonce).2.2.1] ∧ L = nameL most p t m n (resumeR most l key ticket nonce).2.2.2) := by
  obtain ⟨hp, ht, hm, d1, d2, d3⟩ := h
  obtain ⟨n1, n2, n3⟩ := hn
  refine call_of_vw (K := 3) (argsI := [.pointer (some ⟨0, 0, none⟩), .int .i64 key, .int .i64 ticket, .int .i64 nonce]) tab Try.func17 rfl rfl (by simp [Try.f17]) [.own p, .own t, .own m] [bookC most 1 l.length 2, .opn (strR.cells l) 9 1, .map (ents 0 l) l.length] rfl (.own hp (ov_book (rel_slice rfl rfl) (rel_map rfl)) (.own ht (ov_opn strR rfl) (.own hm (ov_ents rfl rfl) .nil))) (by simp [ownNames, *]) (by simp [ownNames, lookNames, *]) (by simp [ownNames, *]) (al_cons (.val (rel_ptr rfl)) (al_cons (.val (.int _ _)) (al_cons (.val (.int _ _)) (al_cons (.val (.int _ _)) al_nil)))) (seen_of (sn_own (sn_own (sn_own sn_nil)))) ?_
  have z1 := numR_size nonce
  have z2 := resT_size nonce
  have z3 := ktT_size (numR nonce).1
  unfold resumeR
  cases hk : pktMay ⟨2, 0, nonce, 0, ticket, 0, 0, 0, ⟨#[]⟩⟩ with
  | false =>
    rw [if_neg (by decide)]
    refine wsq (wrg (vN tab rfl (vQ tab rfl (vQ tab rfl (vnl (qth (wsq (wrg (vQ tab rfl (vQ tab rfl (vQ tab rfl (vN tab rfl (vS tab rfl (vnl (qth (wsq (wbk (wsq (wrg (vQ tab rfl (vQ tab rfl (vQ tab rfl (vnl ?_)))))))))))))))))))))))
    refine qth (vc_false rfl (wsq (wrg (vQ tab rfl (vF rfl callable_39 (pkt_may ⟨2, 0, nonce, 0, ticket, 0, 0, 0, ⟨#[]⟩⟩) (vQ tab rfl (vQ tab rfl (vnl (qth (vcd_true rfl (by simp only [hk, decide_eq_true_eq, decide_eq_false_iff_not, Bool.not_eq_eq_eq_not, Bool.not_true, Bool.not_false, bne_iff_ne, bne_eq_false_iff_eq, beq_iff_eq, beq_eq_false_iff_ne, ne_eq, beq_self_eq_true, bne_self_eq_false, Bool.and_eq_true, Bool.and_eq_false_iff, Bool.or_eq_true, Bool.or_eq_false_iff, and_self, and_true, true_and, Bool.false_eq_true, Bool.true_eq_false, not_false_eq_true, not_true_eq_false]; first | done | omega) ?_))))))))))
    refine wsq (wrg (vQ tab rfl (vS tab rfl (vQ tab rfl (vQ tab rfl (vnl (qth (vw_ret (q_ret (q_thenr ?_))))))))))
    exact out_mk [1] (.inr rfl) ⟨rfl, rfl⟩ rfl (vrel_tuple (lrel_cons (pktRel zeroP) (lrel_cons (.int _ _) (lrel_cons (.int _ _) lrel_nil)))) (out_book0 (sigma_own (a := 0) (by simp [ownNames, *]) rfl) (sigma_at (i := 0) (by simp [ownNames, *]) rfl) (sigma_own (a := 2) (by simp [ownNames, *]) rfl) rfl rfl rfl) (told_of (by simp [ownNames, nameL]))
  | true =>
    rw [if_pos rfl]
    by_cases he : (macB most l key (resT nonce)).2.1 = 0
    case neg =>
      rw [if_neg he]
      have hr := macB_code he
      refine wsq (wrg (vN tab rfl (vQ tab rfl (vQ tab rfl (vnl (qth (wsq (wrg (vQ tab rfl (vQ tab rfl (vQ tab rfl (vN tab rfl (vS tab rfl (vnl (qth (wsq (wbk (wsq (wrg (vQ tab rfl (vQ tab rfl (vQ tab rfl (vnl ?_)))))))))))))))))))))))
      refine qth (vc_false rfl (wsq (wrg (vQ tab rfl (vF rfl callable_39 (pkt_may ⟨2, 0, nonce, 0, ticket, 0, 0, 0, ⟨#[]⟩⟩) (vQ tab rfl (vQ tab rfl (vnl (qth (vcd_false rfl (by simp only [hk, decide_eq_true_eq, decide_eq_false_iff_not, Bool.not_eq_eq_eq_not, Bool.not_true, Bool.not_false, bne_iff_ne, bne_eq_false_iff_eq, beq_iff_eq, beq_eq_false_iff_ne, ne_eq, beq_self_eq_true, bne_self_eq_false, Bool.and_eq_true, Bool.and_eq_false_iff, Bool.or_eq_true, Bool.or_eq_false_iff, and_self, and_true, true_and, Bool.false_eq_true, Bool.true_eq_false, not_false_eq_true, not_true_eq_false]; first | done | omega) ?_))))))))))
      refine vw_skip (q_norm (qth (wsq (wrg (vQ tab rfl (vF rfl callable_45 (num_fun_ nonce) (vQ tab rfl (vQ tab rfl (vQ tab rfl (vQ tab rfl (vQ tab rfl (vnl (qth (wsq (wrg (vQ tab rfl (vQ tab rfl (vQ tab rfl (vN tab rfl (vQ tab rfl (vnl (qth (wsq ?_)))))))))))))))))))))))
      refine wrg (vQ tab rfl (vQ tab rfl (vq_op tab rfl rfl rfl (cat_ev rfl rfl (by show 6 + _ ≤ _; omega)) ?_)))
      refine vT rfl callable_42 (tag_bad (i := 5) (p := 0) (t := 1) (m := 2) (s := resT nonce) rfl ⟨rfl, rfl, rfl, by decide, by decide, by decide⟩ (by decide) (by decide) hl (by omega) hr) ?_
      refine vQ tab rfl (vS tab rfl (vnl (qth (wsq (wrg (vQ tab rfl (vQ tab rfl (vq_op tab rfl rfl rfl (cat_ev rfl rfl (by show 3 + _ ≤ _; omega)) ?_))))))))
      refine vR rfl callable_42 (tag_err (i := 5) (p := 0) (t := 6) (m := 2) rfl ⟨rfl, rfl, rfl, by decide, by decide, by decide⟩ (by decide)) ?_
      refine vQ tab rfl (vnl (qth (wsq (wsq (wrg (vQ tab rfl (vQ tab rfl (vQ tab rfl (vQ tab rfl (vQ tab rfl (vnl (qth (vc_true rfl (wsq (wrg (vQ tab rfl (vS tab rfl (vQ tab rfl (vQ tab rfl (vnl (qth (vw_ret (q_thenr ?_)))))))))))))))))))))))
      exact out_mk [6] (.inr rfl) ⟨rfl, rfl⟩ rfl (vrel_tuple (lrel_cons (pktRel zeroP) (lrel_cons (.int _ _) (lrel_cons (.int _ _) lrel_nil)))) (out_book0 (sigma_own (a := 0) (by simp [ownNames, *]) rfl) (sigma_at (i := 0) (by simp [ownNames, *]) rfl) (sigma_own (a := 2) (by simp [ownNames, *]) rfl) rfl rfl rfl) (told_of (by simp [ownNames, nameL]))
    rw [if_pos he]
    have hr := mac_split he
    have hl2 := macB_len (k := key) (s := resT nonce) hmo hl
    by_cases he2 : (macB most (macB most l key (resT nonce)).2.2 key (ktT (numR nonce).1)).2.1 = 0
    case neg =>
      rw [if_neg he2]
      have hr2 := macB_code he2
      refine wsq (wrg (vN tab rfl (vQ tab rfl (vQ tab rfl (vnl (qth (wsq (wrg (vQ tab rfl (vQ tab rfl (vQ tab rfl (vN tab rfl (vS tab rfl (vnl (qth (wsq (wbk (wsq (wrg (vQ tab rfl (vQ tab rfl (vQ tab rfl (vnl ?_)))))))))))))))))))))))
      refine qth (vc_false rfl (wsq (wrg (vQ tab rfl (vF rfl callable_39 (pkt_may ⟨2, 0, nonce, 0, ticket, 0, 0, 0, ⟨#[]⟩⟩) (vQ tab rfl (vQ tab rfl (vnl (qth (vcd_false rfl (by simp only [hk, decide_eq_true_eq, decide_eq_false_iff_not, Bool.not_eq_eq_eq_not, Bool.not_true, Bool.not_false, bne_iff_ne, bne_eq_false_iff_eq, beq_iff_eq, beq_eq_false_iff_ne, ne_eq, beq_self_eq_true, bne_self_eq_false, Bool.and_eq_true, Bool.and_eq_false_iff, Bool.or_eq_true, Bool.or_eq_false_iff, and_self, and_true, true_and, Bool.false_eq_true, Bool.true_eq_false, not_false_eq_true, not_true_eq_false]; first | done | omega) ?_))))))))))
      refine vw_skip (q_norm (qth (wsq (wrg (vQ tab rfl (vF rfl callable_45 (num_fun_ nonce) (vQ tab rfl (vQ tab rfl (vQ tab rfl (vQ tab rfl (vQ tab rfl (vnl (qth (wsq (wrg (vQ tab rfl (vQ tab rfl (vQ tab rfl (vN tab rfl (vQ tab rfl (vnl (qth (wsq ?_)))))))))))))))))))))))
      refine wrg (vQ tab rfl (vQ tab rfl (vq_op tab rfl rfl rfl (cat_ev rfl rfl (by show 6 + _ ≤ _; omega)) ?_)))
      refine vT rfl callable_42 (tag_ok (i := 5) (p := 0) (t := 1) (m := 2) (s := resT nonce) rfl ⟨rfl, rfl, rfl, by decide, by decide, by decide⟩ (by decide) (by decide) hl (by omega) hr) ?_
      refine vQ tab rfl (vS tab rfl (vnl (qth (wsq (wrg (vQ tab rfl (vQ tab rfl (vq_op tab rfl rfl rfl (cat_ev rfl rfl (by show 3 + _ ≤ _; omega)) ?_))))))))
      refine vT rfl callable_42 (tag_bad (i := 5) (p := 0) (t := 6) (m := 2) (s := ktT (numR nonce).1) rfl ⟨rfl, rfl, rfl, by decide, by decide, by decide⟩ (by decide) (by decide) hl2 (by omega) hr2) ?_
      refine vQ tab rfl (vnl (qth (wsq (wsq (wrg (vQ tab rfl (vQ tab rfl (vQ tab rfl (vQ tab rfl (vQ tab rfl (vnl (qth (vc_true rfl (wsq (wrg (vQ tab rfl (vS tab rfl (vQ tab rfl (vQ tab rfl (vnl (qth (vw_ret (q_thenr ?_)))))))))))))))))))))))
      exact out_mk [7] (.inr rfl) ⟨rfl, rfl⟩ rfl (vrel_tuple (lrel_cons (pktRel zeroP) (lrel_cons (.int _ _) (lrel_cons (.int _ _) lrel_nil)))) (out_book0 (sigma_own (a := 0) (by simp [ownNames, *]) rfl) (sigma_at (i := 0) (by simp [ownNames, *]) rfl) (sigma_own (a := 2) (by simp [ownNames, *]) rfl) rfl rfl rfl) (told_of (by simp [ownNames, nameL]))
    rw [if_pos he2]
    have hr2 := mac_split he2
    refine wsq (wrg (vN tab rfl (vQ tab rfl (vQ tab rfl (vnl (qth (wsq (wrg (vQ tab rfl (vQ tab rfl (vQ tab rfl (vN tab rfl (vS tab rfl (vnl (qth (wsq (wbk (wsq (wrg (vQ tab rfl (vQ tab rfl (vQ tab rfl (vnl ?_)))))))))))))))))))))))
    refine qth (vc_false rfl (wsq (wrg (vQ tab rfl (vF rfl callable_39 (pkt_may ⟨2, 0, nonce, 0, ticket, 0, 0, 0, ⟨#[]⟩⟩) (vQ tab rfl (vQ tab rfl (vnl (qth (vcd_false rfl (by simp only [hk, decide_eq_true_eq, decide_eq_false_iff_not, Bool.not_eq_eq_eq_not, Bool.not_true, Bool.not_false, bne_iff_ne, bne_eq_false_iff_eq, beq_iff_eq, beq_eq_false_iff_ne, ne_eq, beq_self_eq_true, bne_self_eq_false, Bool.and_eq_true, Bool.and_eq_false_iff, Bool.or_eq_true, Bool.or_eq_false_iff, and_self, and_true, true_and, Bool.false_eq_true, Bool.true_eq_false, not_false_eq_true, not_true_eq_false]; first | done | omega) ?_))))))))))
    refine vw_skip (q_norm (qth (wsq (wrg (vQ tab rfl (vF rfl callable_45 (num_fun_ nonce) (vQ tab rfl (vQ tab rfl (vQ tab rfl (vQ tab rfl (vQ tab rfl (vnl (qth (wsq (wrg (vQ tab rfl (vQ tab rfl (vQ tab rfl (vN tab rfl (vQ tab rfl (vnl (qth (wsq ?_)))))))))))))))))))))))
    refine wrg (vQ tab rfl (vQ tab rfl (vq_op tab rfl rfl rfl (cat_ev rfl rfl (by show 6 + _ ≤ _; omega)) ?_)))
    refine vT rfl callable_42 (tag_ok (i := 5) (p := 0) (t := 1) (m := 2) (s := resT nonce) rfl ⟨rfl, rfl, rfl, by decide, by decide, by decide⟩ (by decide) (by decide) hl (by omega) hr) ?_
    refine vQ tab rfl (vS tab rfl (vnl (qth (wsq (wrg (vQ tab rfl (vQ tab rfl (vq_op tab rfl rfl rfl (cat_ev rfl rfl (by show 3 + _ ≤ _; omega)) ?_))))))))
    refine vT rfl callable_42 (tag_ok (i := 5) (p := 0) (t := 6) (m := 2) (s := ktT (numR nonce).1) rfl ⟨rfl, rfl, rfl, by decide, by decide, by decide⟩ (by decide) (by decide) hl2 (by omega) hr2) ?_
    refine vQ tab rfl (vnl (qth (wsq (wsq (wrg (vQ tab rfl (vQ tab rfl (vQ tab rfl (vQ tab rfl (vQ tab rfl (vnl (qth (vc_false rfl (vw_skip (qth (wsq (wrg (vQ tab rfl (vQ tab rfl (vS tab rfl (vQ tab rfl (vQ tab rfl (vnl ?_)))))))))))))))))))))))
    refine qth (vw_ret ?_)
    exact out_mk [7] (.inr rfl) ⟨rfl, rfl⟩ rfl (vrel_tuple (lrel_cons (pktRel _) (lrel_cons (.int _ _) (lrel_cons (.int _ _) lrel_nil)))) (out_book0 (sigma_own (a := 0) (by simp [ownNames, *]) rfl) (sigma_at (i := 0) (by simp [ownNames, *]) rfl) (sigma_own (a := 2) (by simp [ownNames, *]) rfl) rfl rfl rfl) (told_of (by simp [ownNames, nameL]))
end Go.Proofs.Ytjkidjplbddmmaa
