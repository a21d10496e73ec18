/- Package client: the maker's tag; tagged, Data, Bye. -/
import Derived.Test.YtjkidjplbddmmaaVg1
import Derived.Test.YtjkidjplbddmmaaCt0
namespace Go.Proofs.Ytjkidjplbddmmaa
open Go Vm IntWalk
set_option linter.unusedVariables false
set_option linter.unusedSimpArgs false
set_option maxHeartbeats 8000000
abbrev makO (p : Nat) (key : Int) : VObj := .cells [.pointer (some ⟨p, 0, none⟩), .int .i64 key, .nilIface] 105 (0, 0)
abbrev makX (p : Nat) (key e : Int) : VObj := .cells [.pointer (some ⟨p, 0, none⟩), .int .i64 key, .iface 32 (.int .i64 e)] 105 (0, 0)
theorem ov_makO {σ : Ren} {p q : Nat} {key : Int} (h : σ p = some ⟨q, none, 0⟩) : OV σ (makO p key) (makO q key) := .cells _ _ (lrel_cons (rel_ptr h) (lrel_cons (.int _ _) (lrel_cons .nilIface lrel_nil)))
theorem ov_makX {σ : Ren} {p q : Nat} {key e : Int} (h : σ p = some ⟨q, none, 0⟩) : OV σ (makX p key e) (makX q key e) := .cells _ _ (lrel_cons (rel_ptr h) (lrel_cons (.int _ _) (lrel_cons (.iface _ (.int _ _)) lrel_nil)))
theorem craftB_code {most : Int} {l : List ByteArray} {s : ByteArray} {b : Bool} (h : (craftB most l s b).2.1 ≠ 0) : craftB most l s b = (0, 300, l) := by
  unfold craftB at h ⊢
  split
  · split
    · rename_i h1 h2; rw [if_pos h1, if_pos h2] at h; exact (h rfl).elim
    · rfl
  · rfl
theorem macB_code {most : Int} {l : List ByteArray} {k : Int} {s : ByteArray} (h : (macB most l k s).2.1 ≠ 0) : macB most l k s = (0, 300, l) := craftB_code h
theorem mac_as {V : Heap} {n p t m : Nat} {most : Int} {l : List ByteArray} {key : Int} {s : ByteArray} (r : Int × Int × List ByteArray) (hr : macB most l key s = r) (h : BkAt V p t m most l) (hn : p < n ∧ t < n ∧ m < n) (hl : (l.length : Int) ≤ 65536) (hs : s.size ≤ 100000) :
    Tri Try.prog 69 [.pointer (some ⟨p, 0, none⟩), .int .i64 key, .string s] n 1 V (fun u L => u = .tuple #[.int .i64 r.1, .int .i64 r.2.1] ∧ L = nameL most p t m n r.2.2) := by subst hr; exact mac_tri h hn hl key s hs
/-- A tag that was made: its name a, the terms l'. -/
theorem tag_ok {V : Heap} {n i p t m : Nat} {most key : Int} {l l' : List ByteArray} {a : Int} {s : ByteArray} (hi : V i = some (makO p key)) (h : BkAt V p t m most l) (hd : i ≠ p ∧ i ≠ t ∧ i ≠ m) (hn : i < n ∧ p < n ∧ t < n ∧ m < n) (hl : (l.length : Int) ≤ 65536) (hs : s.size ≤ 100000) (hr : macB most l key s = (a, 0, l')) :
    Tri Try.prog 42 [.pointer (some ⟨i, 0, none⟩), .string s] n 1 V (fun u L => u = .int .i64 a ∧ L = (i, some (makO p key)) :: nameL most p t m n l') := by
  obtain ⟨hp, ht, hm, d1, d2, d3⟩ := h
  obtain ⟨e1, e2, e3⟩ := hd
  obtain ⟨n0, n1, n2, n3⟩ := hn
  refine call_of_vw (K := 4) (argsI := [.pointer (some ⟨0, 0, none⟩), .string s]) tab Try.func42 rfl rfl (by simp [Try.f42]) [.own i, .own p, .own t, .own m] [makO 1 key, bookC most 2 l.length 3, .opn (strR.cells l) 9 1, .map (ents 0 l) l.length] rfl (.own hi (ov_makO rfl) (.own hp (ov_book (rel_slice rfl rfl) (rel_map rfl)) (.own ht (ov_opn strR rfl) (.own hm (ov_ents rfl rfl) .nil)))) (by simp [ownNames, *]) (by simp [ownNames, lookNames, *]) (by simp [ownNames, *]) (al_cons (.val (rel_ptr rfl)) (al_cons (.val (.string _)) al_nil)) (seen_of (sn_own (sn_own (sn_own (sn_own sn_nil))))) ?_
  refine wsq (wrg (vQ tab rfl (vnl (qth (wsq (wsq (wrg (vQ tab rfl (vQ tab rfl (vQ tab rfl (vQ tab rfl (vQ tab rfl (vnl (qth (vc_false rfl (vw_skip (qth (wsq (vw_draw mixed (dq_op tab rfl rfl rfl rfl (dq_op tab rfl rfl rfl rfl (dq_op tab rfl rfl rfl rfl (dq_op tab rfl rfl rfl rfl ?_)))))))))))))))))))))))
  refine dq_op tab rfl rfl rfl rfl (dq_op tab rfl rfl rfl rfl (dq_op tab rfl rfl rfl rfl (dq_op tab rfl rfl rfl rfl (dq_op tab rfl rfl rfl rfl (dt_op [1, 2, 3] rfl rfl rfl rfl rfl callable_69 (mac_as (a, 0, l') hr ⟨rfl, rfl, rfl, by decide, by decide, by decide⟩ (by decide) hl hs) ?_)))))
  refine dq_op tab rfl rfl rfl rfl (dq_op tab rfl rfl rfl rfl (dq_op tab rfl rfl rfl rfl (dq_op tab rfl rfl rfl rfl (dq_op tab rfl rfl rfl rfl (vd_nil (by kernel_rfl) ?_)))))
  refine qth (wsq (wsq (wrg (vQ tab rfl (vQ tab rfl (vnl (qth (vc_false rfl (vw_skip (qth (wsq (wrg (vQ tab rfl (vQ tab rfl (vnl (qth (vw_ret ?_)))))))))))))))))
  exact out_mk [4] (.inr rfl) ⟨rfl, rfl⟩ rfl (.int _ _) (op_cons (sigma_own (a := 0) (by simp [ownNames, *]) rfl) rfl rfl (ov_makO (sigma_own (a := 1) (by simp [ownNames, *]) rfl)) rfl (out_book0 (sigma_own (a := 1) (by simp [ownNames, *]) rfl) (sigma_at (i := 0) (by simp [ownNames, *]) rfl) (sigma_own (a := 3) (by simp [ownNames, *]) rfl) rfl rfl rfl)) (told_of (by simp [ownNames, nameL]))
theorem tag_bad {V : Heap} {n i p t m : Nat} {most key : Int} {l : List ByteArray} {s : ByteArray} (hi : V i = some (makO p key)) (h : BkAt V p t m most l) (hd : i ≠ p ∧ i ≠ t ∧ i ≠ m) (hn : i < n ∧ p < n ∧ t < n ∧ m < n) (hl : (l.length : Int) ≤ 65536) (hs : s.size ≤ 100000) (hr : macB most l key s = (0, 300, l)) :
    Tri Try.prog 42 [.pointer (some ⟨i, 0, none⟩), .string s] n 1 V (fun u L => u = .int .i64 0 ∧ L = (i, some (makX p key 300)) :: nameL most p t m n l) := by
  obtain ⟨hp, ht, hm, d1, d2, d3⟩ := h
  obtain ⟨e1, e2, e3⟩ := hd
  obtain ⟨n0, n1, n2, n3⟩ := hn
  refine call_of_vw (K := 4) (argsI := [.pointer (some ⟨0, 0, none⟩), .string s]) tab Try.func42 rfl rfl (by simp [Try.f42]) [.own i, .own p, .own t, .own m] [makO 1 key, bookC most 2 l.length 3, .opn (strR.cells l) 9 1, .map (ents 0 l) l.length] rfl (.own hi (ov_makO rfl) (.own hp (ov_book (rel_slice rfl rfl) (rel_map rfl)) (.own ht (ov_opn strR rfl) (.own hm (ov_ents rfl rfl) .nil)))) (by simp [ownNames, *]) (by simp [ownNames, lookNames, *]) (by simp [ownNames, *]) (al_cons (.val (rel_ptr rfl)) (al_cons (.val (.string _)) al_nil)) (seen_of (sn_own (sn_own (sn_own (sn_own sn_nil))))) ?_
  refine wsq (wrg (vQ tab rfl (vnl (qth (wsq (wsq (wrg (vQ tab rfl (vQ tab rfl (vQ tab rfl (vQ tab rfl (vQ tab rfl (vnl (qth (vc_false rfl (vw_skip (qth (wsq (vw_draw mixed (dq_op tab rfl rfl rfl rfl (dq_op tab rfl rfl rfl rfl (dq_op tab rfl rfl rfl rfl (dq_op tab rfl rfl rfl rfl ?_)))))))))))))))))))))))
  refine dq_op tab rfl rfl rfl rfl (dq_op tab rfl rfl rfl rfl (dq_op tab rfl rfl rfl rfl (dq_op tab rfl rfl rfl rfl (dq_op tab rfl rfl rfl rfl (dt_op [1, 2, 3] rfl rfl rfl rfl rfl callable_69 (mac_as (0, 300, l) hr ⟨rfl, rfl, rfl, by decide, by decide, by decide⟩ (by decide) hl hs) ?_)))))
  refine dq_op tab rfl rfl rfl rfl (dq_op tab rfl rfl rfl rfl (dq_op tab rfl rfl rfl rfl (dq_op tab rfl rfl rfl rfl (dq_op tab rfl rfl rfl rfl (vd_nil (by kernel_rfl) ?_)))))
  refine qth (wsq (wsq (wrg (vQ tab rfl (vQ tab rfl (vnl (qth (vc_true rfl (wrg (vQ tab rfl (vQ tab rfl (vQ tab rfl (vQ tab rfl (vQ tab rfl (vS tab rfl (vnl (qth (wsq (wrg (vQ tab rfl (vQ tab rfl (vnl (qth ?_)))))))))))))))))))))))
  refine vw_ret ?_
  exact out_mk [4] (.inr rfl) ⟨rfl, rfl⟩ rfl (.int _ _) (op_cons (sigma_own (a := 0) (by simp [ownNames, *]) rfl) rfl rfl (ov_makX (sigma_own (a := 1) (by simp [ownNames, *]) rfl)) rfl (out_book0 (sigma_own (a := 1) (by simp [ownNames, *]) rfl) (sigma_at (i := 0) (by simp [ownNames, *]) rfl) (sigma_own (a := 3) (by simp [ownNames, *]) rfl) rfl rfl rfl)) (told_of (by simp [ownNames, nameL]))
def zeroP : PacketV := ⟨0, 0, 0, 0, 0, 0, 0, 0, ⟨#[]⟩⟩
def taggedR (most : Int) (l : List ByteArray) (key : Int) (p : PacketV) (s : ByteArray) : PacketV × Int × List ByteArray :=
  if pktMay p = true then (if (macB most l key s).2.1 = 0 then ({ p with tag := (macB most l key s).1 }, 0, (macB most l key s).2.2) else (zeroP, 2400, l)) else (zeroP, 2400, l)
theorem taggedR_no {most : Int} {l : List ByteArray} {key : Int} {p : PacketV} {s : ByteArray} (h : pktMay p = false) : taggedR most l key p s = (zeroP, 2400, l) := if_neg (by rw [h]; decide)
theorem taggedR_bad {most : Int} {l : List ByteArray} {key : Int} {p : PacketV} {s : ByteArray} (h : pktMay p = true) (he : (macB most l key s).2.1 ≠ 0) : taggedR most l key p s = (zeroP, 2400, l) := by unfold taggedR; rw [if_pos h, if_neg he]
theorem taggedR_ok {most : Int} {l : List ByteArray} {key : Int} {p : PacketV} {s : ByteArray} (h : pktMay p = true) (he : (macB most l key s).2.1 = 0) : taggedR most l key p s = ({ p with tag := (macB most l key s).1 }, 0, (macB most l key s).2.2) := by unfold taggedR; rw [if_pos h, if_pos he]
theorem mac_split {most : Int} {l : List ByteArray} {k : Int} {s : ByteArray} (h : (macB most l k s).2.1 = 0) : macB most l k s = ((macB most l k s).1, 0, (macB most l k s).2.2) := by
  rw [Prod.ext_iff, Prod.ext_iff]; exact ⟨rfl, h, rfl⟩
theorem tagged_tri {V : Heap} {n p t m : Nat} {most : Int} {l : List ByteArray} (h : BkAt V p t m most l) (hn : p < n ∧ t < n ∧ m < n) (hl : (l.length : Int) ≤ 65536) (key : Int) (a : PacketV) (s : ByteArray) (hs : s.size ≤ 100000) :
    Tri Try.prog 47 [.pointer (some ⟨p, 0, none⟩), .int .i64 key, pktV a, .string s] n 1 V (fun u L => u = .tuple #[pktV (taggedR most l key a s).1, .int .i64 (taggedR most l key a s).2.1] ∧ L = nameL most p t m n (taggedR most l key a s).2.2) := by
  obtain ⟨hp, ht, hm, d1, d2, d3⟩ := h
  obtain ⟨n1, n2, n3⟩ := hn
  refine call_of_vw (K := 3) (argsI := [.pointer (some ⟨0, 0, none⟩), .int .i64 key, pktV a, .string s]) tab Try.func47 rfl rfl (by simp [Try.f47]) [.own p, .own t, .own m] [bookC most 1 l.length 2, .opn (strR.cells l) 9 1, .map (ents 0 l) l.length] rfl (.own hp (ov_book (rel_slice rfl rfl) (rel_map rfl)) (.own ht (ov_opn strR rfl) (.own hm (ov_ents rfl rfl) .nil))) (by simp [ownNames, *]) (by simp [ownNames, lookNames, *]) (by simp [ownNames, *]) (al_cons (.val (rel_ptr rfl)) (al_cons (.val (.int _ _)) (al_cons (.val (pktRel a)) (al_cons (.val (.string _)) al_nil)))) (seen_of (sn_own (sn_own (sn_own sn_nil)))) ?_
  cases hk : pktMay a with
  | false =>
    rw [taggedR_no hk]
    obtain ⟨k, f1, f2, f3, f4, f5, f6, f7, d⟩ := a
    refine wsq (wrg (vN tab rfl (vN tab rfl (vQ tab rfl (vnl (qth (wsq (wbk (wsq (wrg (vQ tab rfl (vQ tab rfl (vQ tab rfl (vnl (qth (vc_false rfl (wsq (wrg (vQ tab rfl (vF rfl callable_39 (pkt_may ⟨k, f1, f2, f3, f4, f5, f6, f7, d⟩) (vQ tab rfl (vQ tab rfl (vnl ?_)))))))))))))))))))))))
    refine qth (vcd_true rfl (by simp only [hk, decide_eq_true_eq, decide_eq_false_iff_not, Bool.not_eq_eq_eq_not, Bool.not_true, Bool.not_false, bne_iff_ne, bne_eq_false_iff_eq, beq_iff_eq, beq_eq_false_iff_ne, ne_eq, beq_self_eq_true, bne_self_eq_false, Bool.and_eq_true, Bool.and_eq_false_iff, Bool.or_eq_true, Bool.or_eq_false_iff, and_self, and_true, true_and, Bool.false_eq_true, Bool.true_eq_false, not_false_eq_true, not_true_eq_false]; first | done | omega) ?_)
    refine wsq (wrg (vQ tab rfl (vS tab rfl (vQ tab rfl (vnl (qth (vw_ret (q_ret (q_thenr ?_)))))))))
    exact out_mk [1] (.inr rfl) ⟨rfl, rfl⟩ rfl (vrel_tuple (lrel_cons (pktRel zeroP) (lrel_cons (.int _ _) lrel_nil))) (out_book0 (sigma_own (a := 0) (by simp [ownNames, *]) rfl) (sigma_at (i := 0) (by simp [ownNames, *]) rfl) (sigma_own (a := 2) (by simp [ownNames, *]) rfl) rfl rfl rfl) (told_of (by simp [ownNames, nameL]))
  | true =>
    by_cases he : (macB most l key s).2.1 = 0
    · rw [taggedR_ok hk he]
      have hr := mac_split he
      obtain ⟨k, f1, f2, f3, f4, f5, f6, f7, d⟩ := a
      refine wsq (wrg (vN tab rfl (vN tab rfl (vQ tab rfl (vnl (qth (wsq (wbk (wsq (wrg (vQ tab rfl (vQ tab rfl (vQ tab rfl (vnl (qth (vc_false rfl (wsq (wrg (vQ tab rfl (vF rfl callable_39 (pkt_may ⟨k, f1, f2, f3, f4, f5, f6, f7, d⟩) (vQ tab rfl (vQ tab rfl (vnl ?_)))))))))))))))))))))))
      refine qth (vcd_false rfl (by simp only [hk, decide_eq_true_eq, decide_eq_false_iff_not, Bool.not_eq_eq_eq_not, Bool.not_true, Bool.not_false, bne_iff_ne, bne_eq_false_iff_eq, beq_iff_eq, beq_eq_false_iff_ne, ne_eq, beq_self_eq_true, bne_self_eq_false, Bool.and_eq_true, Bool.and_eq_false_iff, Bool.or_eq_true, Bool.or_eq_false_iff, and_self, and_true, true_and, Bool.false_eq_true, Bool.true_eq_false, not_false_eq_true, not_true_eq_false]; first | done | omega) ?_)
      refine vw_skip (q_norm (qth (wsq (wrg (vQ tab rfl (vQ tab rfl (vQ tab rfl (vN tab rfl (vQ tab rfl (vnl (qth (wsq (wrg (vQ tab rfl (vQ tab rfl (vT rfl callable_42 (tag_ok (i := 5) (p := 0) (t := 1) (m := 2) rfl ⟨rfl, rfl, rfl, by decide, by decide, by decide⟩ (by decide) (by decide) hl hs hr) ?_))))))))))))))))
      refine vQ tab rfl (vS tab rfl (vnl (qth (wsq (wsq (wrg (vQ tab rfl (vQ tab rfl (vQ tab rfl (vQ tab rfl (vQ tab rfl (vnl (qth (vc_false rfl (vw_skip (qth (wsq (wrg (vQ tab rfl (vS tab rfl (vQ tab rfl (vnl (qth ?_)))))))))))))))))))))))
      refine vw_ret ?_
      exact out_mk [6] (.inr rfl) ⟨rfl, rfl⟩ rfl (vrel_tuple (lrel_cons (pktRel _) (lrel_cons (.int _ _) lrel_nil))) (out_book0 (sigma_own (a := 0) (by simp [ownNames, *]) rfl) (sigma_at (i := 0) (by simp [ownNames, *]) rfl) (sigma_own (a := 2) (by simp [ownNames, *]) rfl) rfl rfl rfl) (told_of (by simp [ownNames, nameL]))
    · rw [taggedR_bad hk he]
      have hr := macB_code he
      obtain ⟨k, f1, f2, f3, f4, f5, f6, f7, d⟩ := a
      refine wsq (wrg (vN tab rfl (vN tab rfl (vQ tab rfl (vnl (qth (wsq (wbk (wsq (wrg (vQ tab rfl (vQ tab rfl (vQ tab rfl (vnl (qth (vc_false rfl (wsq (wrg (vQ tab rfl (vF rfl callable_39 (pkt_may ⟨k, f1, f2, f3, f4, f5, f6, f7, d⟩) (vQ tab rfl (vQ tab rfl (vnl ?_)))))))))))))))))))))))
      refine qth (vcd_false rfl (by simp only [hk, decide_eq_true_eq, decide_eq_false_iff_not, Bool.not_eq_eq_eq_not, Bool.not_true, Bool.not_false, bne_iff_ne, bne_eq_false_iff_eq, beq_iff_eq, beq_eq_false_iff_ne, ne_eq, beq_self_eq_true, bne_self_eq_false, Bool.and_eq_true, Bool.and_eq_false_iff, Bool.or_eq_true, Bool.or_eq_false_iff, and_self, and_true, true_and, Bool.false_eq_true, Bool.true_eq_false, not_false_eq_true, not_true_eq_false]; first | done | omega) ?_)
      refine vw_skip (q_norm (qth (wsq (wrg (vQ tab rfl (vQ tab rfl (vQ tab rfl (vN tab rfl (vQ tab rfl (vnl (qth (wsq (wrg (vQ tab rfl (vQ tab rfl (vT rfl callable_42 (tag_bad (i := 5) (p := 0) (t := 1) (m := 2) rfl ⟨rfl, rfl, rfl, by decide, by decide, by decide⟩ (by decide) (by decide) hl hs hr) ?_))))))))))))))))
      refine vQ tab rfl (vS tab rfl (vnl (qth (wsq (wsq (wrg (vQ tab rfl (vQ tab rfl (vQ tab rfl (vQ tab rfl (vQ tab rfl (vnl (qth (vc_true rfl (wsq (wrg (vQ tab rfl (vS tab rfl (vQ tab rfl (vnl (qth (vw_ret (q_thenr ?_)))))))))))))))))))))))
      exact out_mk [6] (.inr rfl) ⟨rfl, rfl⟩ rfl (vrel_tuple (lrel_cons (pktRel zeroP) (lrel_cons (.int _ _) lrel_nil))) (out_book0 (sigma_own (a := 0) (by simp [ownNames, *]) rfl) (sigma_at (i := 0) (by simp [ownNames, *]) rfl) (sigma_own (a := 2) (by simp [ownNames, *]) rfl) rfl rfl rfl) (told_of (by simp [ownNames, nameL]))
def dataT (seq : Int) (data : ByteArray) : ByteArray := ⟨#[100, 97, 116, 97]⟩ ++ (numR seq).1 ++ (textR data).1
theorem dataT_size (seq : Int) (data : ByteArray) : (dataT seq data).size ≤ 70000 := by
  unfold dataT
  have := numR_size seq
  have := textR_size data
  rw [ByteArray.size_append, ByteArray.size_append]; show 4 + _ + _ ≤ _; omega
def dataR (most : Int) (l : List ByteArray) (key session seq : Int) (data : ByteArray) : PacketV × Int × List ByteArray := taggedR most l key ⟨3, 0, 0, 0, 0, 0, session, seq, data⟩ (dataT seq data)
theorem cdata_tri {V : Heap} {n p t m : Nat} {most : Int} {l : List ByteArray} (h : BkAt V p t m most l) (hn : p < n ∧ t < n ∧ m < n) (hl : (l.length : Int) ≤ 65536) (key session seq : Int) (data : ByteArray) (hd : data.size ≤ 9223372036854775807) :
    Tri Try.prog 18 [.pointer (some ⟨p, 0, none⟩), .int .i64 key, .int .i64 session, .int .i64 seq, .string data] n 1 V (fun u L => u = .tuple #[pktV (dataR most l key session seq data).1, .int .i64 (dataR most l key session seq data).2.1] ∧ L = nameL most p t m n (dataR most l key session seq data).2.2) := by
  obtain ⟨hp, ht, hm, d1, d2, d3⟩ := h
  obtain ⟨n1, n2, n3⟩ := hn
  refine call_of_vw (K := 3) (argsI := [.pointer (some ⟨0, 0, none⟩), .int .i64 key, .int .i64 session, .int .i64 seq, .string data]) tab Try.func18 rfl rfl (by simp [Try.f18]) [.own p, .own t, .own m] [bookC most 1 l.length 2, .opn (strR.cells l) 9 1, .map (ents 0 l) l.length] rfl (.own hp (ov_book (rel_slice rfl rfl) (rel_map rfl)) (.own ht (ov_opn strR rfl) (.own hm (ov_ents rfl rfl) .nil))) (by simp [ownNames, *]) (by simp [ownNames, lookNames, *]) (by simp [ownNames, *]) (al_cons (.val (rel_ptr rfl)) (al_cons (.val (.int _ _)) (al_cons (.val (.int _ _)) (al_cons (.val (.int _ _)) (al_cons (.val (.string _)) al_nil))))) (seen_of (sn_own (sn_own (sn_own sn_nil)))) ?_
  have z1 := numR_size seq
  have z2 := textR_size data
  have z3 := dataT_size seq data
  refine wsq (wrg (vN tab rfl (vQ tab rfl (vnl (qth (wsq (wrg (vQ tab rfl (vF rfl callable_45 (num_fun_ seq) (vQ tab rfl (vQ tab rfl (vQ tab rfl (vQ tab rfl (vQ tab rfl (vnl (qth (wsq (wrg (vQ tab rfl (vF rfl callable_46 (textA_fun data hd) (vQ tab rfl (vQ tab rfl (vQ tab rfl ?_)))))))))))))))))))))))
  refine vQ tab rfl (vQ tab rfl (vnl (qth (wsq (wrg (vQ tab rfl (vQ tab rfl (vQ tab rfl (vQ tab rfl (vQ tab rfl (vQ tab rfl (vQ tab rfl (vq_op tab rfl rfl rfl (cat_ev rfl rfl (by show 4 + _ ≤ _; omega)) ?_)))))))))))))
  refine vQ tab rfl (vq_op tab rfl rfl rfl (cat_ev (a := ⟨#[100, 97, 116, 97]⟩ ++ (numR seq).1) rfl rfl (by rw [ByteArray.size_append]; show 4 + _ + _ ≤ _; omega)) ?_)
  refine vT rfl callable_47 (tagged_tri ⟨rfl, rfl, rfl, by decide, by decide, by decide⟩ (by decide) hl key ⟨3, 0, 0, 0, 0, 0, session, seq, data⟩ (dataT seq data) (by omega)) ?_
  refine vQ tab rfl (vQ tab rfl (vS tab rfl (vQ tab rfl (vnl (qth (vw_ret ?_))))))
  exact out_mk [4] (.inr rfl) ⟨rfl, rfl⟩ rfl (vrel_tuple (lrel_cons (pktRel _) (lrel_cons (.int _ _) lrel_nil))) (out_book0 (sigma_own (a := 0) (by simp [ownNames, *]) rfl) (sigma_at (i := 0) (by simp [ownNames, *]) rfl) (sigma_own (a := 2) (by simp [ownNames, *]) rfl) rfl rfl rfl) (told_of (by simp [ownNames, nameL]))
def byeT : ByteArray := ⟨#[98, 121, 101]⟩
def byeR (most : Int) (l : List ByteArray) (key session : Int) : PacketV × Int × List ByteArray := taggedR most l key ⟨4, 0, 0, 0, 0, 0, session, 0, ⟨#[]⟩⟩ byeT
theorem cbye_tri {V : Heap} {n p t m : Nat} {most : Int} {l : List ByteArray} (h : BkAt V p t m most l) (hn : p < n ∧ t < n ∧ m < n) (hl : (l.length : Int) ≤ 65536) (key session : Int) :
    Tri Try.prog 19 [.pointer (some ⟨p, 0, none⟩), .int .i64 key, .int .i64 session] n 1 V (fun u L => u = .tuple #[pktV (byeR most l key session).1, .int .i64 (byeR most l key session).2.1] ∧ L = nameL most p t m n (byeR most l key session).2.2) := by
  obtain ⟨hp, ht, hm, d1, d2, d3⟩ := h
  obtain ⟨n1, n2, n3⟩ := hn
  refine call_of_vw (K := 3) (argsI := [.pointer (some ⟨0, 0, none⟩), .int .i64 key, .int .i64 session]) tab Try.func19 rfl rfl (by simp [Try.f19]) [.own p, .own t, .own m] [bookC most 1 l.length 2, .opn (strR.cells l) 9 1, .map (ents 0 l) l.length] rfl (.own hp (ov_book (rel_slice rfl rfl) (rel_map rfl)) (.own ht (ov_opn strR rfl) (.own hm (ov_ents rfl rfl) .nil))) (by simp [ownNames, *]) (by simp [ownNames, lookNames, *]) (by simp [ownNames, *]) (al_cons (.val (rel_ptr rfl)) (al_cons (.val (.int _ _)) (al_cons (.val (.int _ _)) al_nil))) (seen_of (sn_own (sn_own (sn_own sn_nil)))) ?_
  refine wsq (wrg (vN tab rfl (vQ tab rfl (vnl (qth (wsq (wrg (vQ tab rfl (vQ tab rfl (vQ tab rfl (vQ tab rfl (vT rfl callable_47 (tagged_tri ⟨rfl, rfl, rfl, by decide, by decide, by decide⟩ (by decide) hl key ⟨4, 0, 0, 0, 0, 0, session, 0, ⟨#[]⟩⟩ byeT (by decide)) ?_))))))))))))
  refine vQ tab rfl (vQ tab rfl (vS tab rfl (vQ tab rfl (vnl (qth (vw_ret ?_))))))
  exact out_mk [4] (.inr rfl) ⟨rfl, rfl⟩ rfl (vrel_tuple (lrel_cons (pktRel _) (lrel_cons (.int _ _) lrel_nil))) (out_book0 (sigma_own (a := 0) (by simp [ownNames, *]) rfl) (sigma_at (i := 0) (by simp [ownNames, *]) rfl) (sigma_own (a := 2) (by simp [ownNames, *]) rfl) rfl rfl rfl) (told_of (by simp [ownNames, nameL]))
end Go.Proofs.Ytjkidjplbddmmaa
