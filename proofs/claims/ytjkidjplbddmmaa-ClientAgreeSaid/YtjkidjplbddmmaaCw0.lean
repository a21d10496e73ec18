/- Law 24: twins; what every program answers that is one. -/
import Derived.Test.YtjkidjplbddmmaaVg1
import Derived.Test.YtjkidjplbddmmaaCd0
namespace Go.Proofs.Ytjkidjplbddmmaa
open Go Vm IntWalk
set_option linter.unusedVariables false
set_option linter.unusedSimpArgs false
set_option maxHeartbeats 16000000
theorem csame_books {V : Heap} {n p t m q u : Nat} {most most' : Int} {l : List ByteArray} (h : BkAt V p t m most l) (k : RkAt V q u most' l) (hd : [p, t, m, q, u].Nodup) (hl : (l.length : Int) ≤ 65536) :
    Tri Try.prog 22 [.pointer (some ⟨p, 0, none⟩), .pointer (some ⟨q, 0, none⟩)] n 0 V (fun w L => w = .bool true ∧ L = []) := by
  obtain ⟨hp, ht, hm, d1, d2, d3⟩ := h
  obtain ⟨kp, kt, e1⟩ := k
  simp [List.nodup_cons] at hd
  obtain ⟨⟨a1, a2, a3, a4⟩, ⟨b1, b2, b3⟩, ⟨c1, c2⟩, f1⟩ := hd
  refine reads_of_vw (K := 5) (argsI := [.pointer (some ⟨0, 0, none⟩), .pointer (some ⟨3, 0, none⟩)]) tab Try.func22 rfl rfl (by simp [Try.f22]) [.own p, .own t, .own m, .own q, .own u] [bookC most 1 l.length 2, .opn (strR.cells l) 9 1, .map (ents 0 l) l.length, refC most' 4 l.length, .opn (strR.cells l) 9 1] rfl (.own hp (ov_book (rel_slice rfl rfl) (rel_map rfl)) (.own ht (ov_opn strR rfl) (.own hm (ov_ents rfl rfl) (.own kp (ov_ref (rel_slice rfl rfl)) (.own kt (ov_opn strR rfl) .nil))))) (by simp [ownNames, *]) (by simp [ownNames, lookNames, *]) (al_cons (.val (rel_ptr rfl)) (al_cons (.val (rel_ptr rfl)) al_nil)) (seen_of (sn_own (sn_own (sn_own (sn_own (sn_own sn_nil)))))) (.bool _) ?_
  refine wsq (wrg (vQ tab rfl (vnl (qth (wsq (wsq (vw_draw mixed (dq_op tab rfl rfl rfl rfl (dt_op [0, 1, 2] rfl rfl rfl rfl rfl callable_54 (len_tri (l := l) ⟨rfl, rfl, rfl, by decide, by decide, by decide⟩) (dq_op tab rfl rfl rfl rfl (dq_op tab rfl rfl rfl rfl (dq_op tab rfl rfl rfl rfl (dq_op tab rfl rfl rfl rfl (dq_op tab rfl rfl rfl rfl (dq_op tab rfl rfl rfl rfl (vd_nil (by kernel_rfl) ?_))))))))))))))))
  refine qth (vcd_false rfl (by simp only [decide_eq_true_eq, decide_eq_false_iff_not, Bool.not_eq_eq_eq_not, Bool.not_true, Bool.not_false, bne_iff_ne, bne_eq_false_iff_eq, beq_iff_eq, beq_eq_false_iff_ne, ne_eq, beq_self_eq_true, bne_self_eq_false, Bool.and_eq_true, Bool.and_eq_false_iff, Bool.or_eq_true, Bool.or_eq_false_iff, and_self, and_true, true_and, Bool.false_eq_true, Bool.true_eq_false, not_false_eq_true, not_true_eq_false]; first | done | omega) ?_)
  refine vw_skip (qth (wsq (wsq (wrg (vQ tab rfl (vQ tab rfl (vQ tab rfl (vQ tab rfl (vQ tab rfl (vQ tab rfl (vQ tab rfl (vQ tab rfl (vnl (qth (wbk ?_)))))))))))))))
  obtain ⟨j0, hj0⟩ : ∃ j0 : Int, j0 = if 0 < IntKind.i64.wrap ((l.length : Int) - 40) then IntKind.i64.wrap ((l.length : Int) - 40) else 0 := ⟨_, rfl⟩
  have hj1 : 0 ≤ j0 ∧ j0 ≤ l.length := by rw [hj0, i64_in _ (by omega)]; split <;> omega
  refine vw_loop_sub (fun k st => ∃ j : Int, 0 ≤ j ∧ j ≤ l.length ∧ k = (l.length - j).toNat ∧
      st = ⟨[(0, .pointer (some ⟨0, 0, none⟩)), (1, .pointer (some ⟨3, 0, none⟩)), (5, .int .i64 j)], lkp [(0, bookC most 1 l.length 2), (1, .opn (strR.cells l) 9 1), (2, .map (ents 0 l) l.length), (3, refC most' 4 l.length), (4, .opn (strR.cells l) 9 1)], 5⟩) (l.length - j0).toNat
    ⟨_, (sub_of (g := 5) [] (by decide) (by decide) (by repeat' first | exact ep_nil | exact ov_ref (rel_slice rfl rfl) | exact ov_book (rel_slice rfl rfl) (rel_map rfl) | exact ov_ents rfl rfl | exact ri hj0 | refine ep_cons rfl ?_ ?_ | exact .int _ _ | exact .bool _ | exact .string _ | exact rel_slice rfl rfl | exact rel_nil rfl rfl | exact rel_ptr rfl | exact .nilPtr | exact .nilIface | exact .nilSlice) (by repeat' first | exact hp_nil | exact ov_ref (rel_slice rfl rfl) | exact ov_book (rel_slice rfl rfl) (rel_map rfl) | exact ov_ents rfl rfl | exact ri hj0 | refine hp_cons rfl rfl ?_ ?_ | refine hp_void rfl rfl ?_ | exact ov_win _ | exact ov_opn _ rfl | exact ov_cells _ _ (by decide))), j0, hj1.1, hj1.2, rfl, rfl⟩ ?_
  rintro k st ⟨j, h0, h1, rfl, rfl⟩
  by_cases hj : j < (l.length : Int)
  case neg =>
    refine wsq (wsq (wrg (vQ tab rfl (vQ tab rfl (vQ tab rfl (vQ tab rfl (vQ tab rfl (vQ tab rfl (vQ tab rfl (vnl (qth (vcd_false rfl (by simp only [decide_eq_true_eq, decide_eq_false_iff_not, Bool.not_eq_eq_eq_not, Bool.not_true, Bool.not_false, bne_iff_ne, bne_eq_false_iff_eq, beq_iff_eq, beq_eq_false_iff_ne, ne_eq, beq_self_eq_true, bne_self_eq_false, Bool.and_eq_true, Bool.and_eq_false_iff, Bool.or_eq_true, Bool.or_eq_false_iff, and_self, and_true, true_and, Bool.false_eq_true, Bool.true_eq_false, not_false_eq_true, not_true_eq_false]; first | done | omega) ?_))))))))))))
    refine vw_exit (q_thenx (q_thenx (q_here (qth (wsq (wrg (vQ tab rfl (vnl (qth (vw_ret ?_))))))))))
    exact ⟨⟨.inr rfl, rfl⟩, fun _ => rfl, fun _ => rfl, fun _ => rfl, fun _ => rfl, fun _ => rfl, trivial⟩
  obtain ⟨x, hx⟩ := get_some h0 hj
  have hj2 : IntKind.i64.wrap (j + 1) = j + 1 := i64_in _ (by omega)
  have hs := termS_is h0 hx
  have he := termE_is h0 hx
  have hb : (x == x) = true := by rw [ba_beq]; exact decide_eq_true rfl
  refine wsq (wsq (wrg (vQ tab rfl (vQ tab rfl (vQ tab rfl (vQ tab rfl (vQ tab rfl (vQ tab rfl (vQ tab rfl (vnl (qth (vcd_true rfl (by simp only [hs, he, hb, decide_eq_true_eq, decide_eq_false_iff_not, Bool.not_eq_eq_eq_not, Bool.not_true, Bool.not_false, bne_iff_ne, bne_eq_false_iff_eq, beq_iff_eq, beq_eq_false_iff_ne, ne_eq, beq_self_eq_true, bne_self_eq_false, Bool.and_eq_true, Bool.and_eq_false_iff, Bool.or_eq_true, Bool.or_eq_false_iff, and_self, and_true, true_and, Bool.false_eq_true, Bool.true_eq_false, not_false_eq_true, not_true_eq_false]; first | done | omega) ?_))))))))))))
  refine vw_skip (qth (wsq (wbk (wsq (wrg (vQ tab rfl (vQ tab rfl (vR rfl callable_55 (term_tri (l := l) ⟨rfl, rfl, rfl, by decide, by decide, by decide⟩ _) (vQ tab rfl (vQ tab rfl (vQ tab rfl (vQ tab rfl (vQ tab rfl (vnl (qth (wsq (wrg (vQ tab rfl (vF rfl callable_16 (num_fun _) (vQ tab rfl (vQ tab rfl (vgd_op false rfl rfl rfl (by simp only [hs, he, hb, decide_eq_true_eq, decide_eq_false_iff_not, Bool.not_eq_eq_eq_not, Bool.not_true, Bool.not_false, bne_iff_ne, bne_eq_false_iff_eq, beq_iff_eq, beq_eq_false_iff_ne, ne_eq, beq_self_eq_true, bne_self_eq_false, Bool.and_eq_true, Bool.and_eq_false_iff, Bool.or_eq_true, Bool.or_eq_false_iff, and_self, and_true, true_and, Bool.false_eq_true, Bool.true_eq_false, not_false_eq_true, not_true_eq_false]; first | done | omega) ?_))))))))))))))))))))))
  refine vQ tab rfl (vQ tab rfl (vQ tab rfl (vQ tab rfl (vQ tab rfl (vQ tab rfl (vq_op tab ⟨_, _, rfl, rfl, rfl⟩ rfl rfl (ev_index rfl rfl rfl rfl rfl (by omega) (by omega)) ?_))))))
  refine vq_op tab ⟨_, _, rfl, rfl, rfl⟩ rfl rfl (ev_val strR rfl rfl rfl rfl rfl hx rfl) (vQ tab rfl (vQ tab rfl (vnl (qth (vcd_false rfl (by simp only [hs, he, hb, decide_eq_true_eq, decide_eq_false_iff_not, Bool.not_eq_eq_eq_not, Bool.not_true, Bool.not_false, bne_iff_ne, bne_eq_false_iff_eq, beq_iff_eq, beq_eq_false_iff_ne, ne_eq, beq_self_eq_true, bne_self_eq_false, Bool.and_eq_true, Bool.and_eq_false_iff, Bool.or_eq_true, Bool.or_eq_false_iff, and_self, and_true, true_and, Bool.false_eq_true, Bool.true_eq_false, not_false_eq_true, not_true_eq_false]; first | done | omega) ?_)))))
  refine vw_skip (q_norm (qth (wrg (vQ tab rfl (vQ tab rfl (vQ tab rfl (vnl (qth ?_))))))))
  exact ⟨(l.length - (j + 1)).toNat, _, by omega, (sub_of (g := 5) [] (by decide) (by decide) (by repeat' first | exact ep_nil | exact ov_ref (rel_slice rfl rfl) | exact ov_book (rel_slice rfl rfl) (rel_map rfl) | exact ov_ents rfl rfl | exact ri hj2.symm | refine ep_cons rfl ?_ ?_ | exact .int _ _ | exact .bool _ | exact .string _ | exact rel_slice rfl rfl | exact rel_nil rfl rfl | exact rel_ptr rfl | exact .nilPtr | exact .nilIface | exact .nilSlice) (by repeat' first | exact hp_nil | exact ov_ref (rel_slice rfl rfl) | exact ov_book (rel_slice rfl rfl) (rel_map rfl) | exact ov_ents rfl rfl | exact ri hj2.symm | refine hp_cons rfl rfl ?_ ?_ | refine hp_void rfl rfl ?_ | exact ov_win _ | exact ov_opn _ rfl | exact ov_cells _ _ (by decide))), j + 1, by omega, by omega, rfl, rfl⟩
theorem twin_bad {most : Int} (h : badNew most) : Fun Try.prog 14 [.int .i64 most, .slice none 0 0] (.tuple #[.pointer none, .pointer none]) := by
  refine fun_of_vw tab Try.func14 rfl rfl (by simp [Try.f14]) (lrel_cons (.int _ _) (lrel_cons .nilSlice lrel_nil)) (vrel_tuple (lrel_cons .nilPtr (lrel_cons .nilPtr lrel_nil))) ?_
  refine wsq (wrg (vQ tab rfl (vQ tab rfl (vnl (qth (wsq (wrg (vQ tab rfl (vF rfl callable_20 (new_bad h) (vQ tab rfl (vQ tab rfl (vQ tab rfl (vQ tab rfl (vQ tab rfl (vnl (qth (wsq (wrg (vQ tab rfl (vF rfl callable_36 (refnew_bad h) (vQ tab rfl (vQ tab rfl (vQ tab rfl ?_)))))))))))))))))))))))
  refine vQ tab rfl (vQ tab rfl (vnl (qth (wsq (wsq (wrg (vQ tab rfl (vF rfl callable_16 (num_fun _) (vQ tab rfl (vQ tab rfl (vK rfl (vK rfl (vQ tab rfl (vQ tab rfl (vK rfl (vK rfl (vQ tab rfl (vnl (qth (vc_true rfl (wsq (wrg (vQ tab rfl ?_)))))))))))))))))))))))
  refine vQ tab rfl (vnl (qth (vw_ret (q_thenr ?_))))
  exact ⟨.inr rfl, rfl⟩
def twinL (most : Int) (n : Nat) : List (Nat × Option VObj) :=
  [(n, some (bookC most (n + 1) 0 (n + 2))), (n + 1, some (.opn (strR.cells []) 9 1)), (n + 2, some (.map (ents 0 []) 0)), (n + 3, some (refC most (n + 4) 0)), (n + 4, some (.opn (strR.cells []) 9 1))]
theorem twin_ok {V : Heap} {n : Nat} {most : Int} (h : ¬ badNew most) : Tri Try.prog 14 [.int .i64 most, .slice none 0 0] n 5 V (fun u L => u = .tuple #[.pointer (some ⟨n, 0, none⟩), .pointer (some ⟨n + 3, 0, none⟩)] ∧ L = twinL most n) := by
  refine call_of_vw (K := 0) (argsI := [.int .i64 most, .slice none 0 0]) tab Try.func14 rfl rfl (by simp [Try.f14]) [] [] rfl .nil (by simp [ownNames]) (by simp [ownNames, lookNames]) (by simp [ownNames, *]) (al_cons (.val (.int _ _)) (al_cons (.val (.nilSlice)) al_nil)) (seen_of sn_nil) ?_
  refine wsq (wrg (vQ tab rfl (vQ tab rfl (vnl (qth (wsq (wrg (vQ tab rfl (vT rfl callable_20 (bknew_tri h) (vQ tab rfl (vQ tab rfl (vQ tab rfl (vQ tab rfl (vQ tab rfl (vnl (qth (wsq (wrg (vQ tab rfl (vT rfl callable_36 (refbk_tri h) (vQ tab rfl (vQ tab rfl (vQ tab rfl ?_)))))))))))))))))))))))
  refine vQ tab rfl (vQ tab rfl (vnl (qth (wsq (wsq (wrg (vQ tab rfl (vF rfl callable_16 (num_fun _) (vQ tab rfl (vQ tab rfl (vQ tab rfl (vQ tab rfl (vQ tab rfl (vQ tab rfl (vQ tab rfl (vQ tab rfl (vQ tab rfl (vnl (qth (vc_false rfl (vw_skip (qth (wsq ?_)))))))))))))))))))))))
  refine wsq (wrg (vQ tab rfl (vnl (qth (wbk (vw_rounds 1 (rd_step (wsq (wsq (wrg (vQ tab rfl (vQ tab rfl (vQ tab rfl (vQ tab rfl (vQ tab rfl (vK rfl (vK rfl (vQ tab rfl (vnl (qth (vc_false rfl (vw_exit (q_thenx ?_)))))))))))))))))))))))
  refine q_thenx (q_here (qth (wsq (wrg (vQ tab rfl (vQ tab rfl (vQ tab rfl (vQ tab rfl (vnl (qth (vw_ret ?_)))))))))))
  exact out_mk [0, 1, 2, 3, 4] (.inr rfl) ⟨rfl, rfl⟩ rfl (vrel_tuple (lrel_cons (rel_ptr (sigma_look (i := 0) rfl)) (lrel_cons (rel_ptr (sigma_look (i := 3) rfl)) lrel_nil)))
    (op_cons (sigma_look (i := 0) rfl) rfl rfl (ov_book (rel_slice (sigma_look (i := 1) rfl) rfl) (rel_map (sigma_look (i := 2) rfl))) rfl (op_cons (sigma_look (i := 1) rfl) rfl rfl (ov_opn strR rfl) rfl (op_cons (sigma_look (i := 2) rfl) rfl rfl (ov_ents rfl rfl) rfl
      (op_cons (sigma_look (i := 3) rfl) rfl rfl (ov_ref (rel_slice (sigma_look (i := 4) rfl) rfl)) rfl (op_cons (sigma_look (i := 4) rfl) rfl rfl (ov_opn strR rfl) rfl op_nil))))) trivial
theorem proof_nil (key secret : Int) (h : PacketV) (r : ReplyV) (tick : Int) : Fun Try.prog 15 [.pointer none, .int .i64 key, .int .i64 secret, pktV h, rplV r, .int .i64 tick] (.tuple #[pktV zeroP, .int .i64 0, .int .i64 1]) := by
  refine fun_of_vw tab Try.func15 rfl rfl (by simp [Try.f15]) (lrel_cons .nilPtr (lrel_cons (.int _ _) (lrel_cons (.int _ _) (lrel_cons (pktRel h) (lrel_cons (rplRel r) (lrel_cons (.int _ _) lrel_nil)))))) (vrel_tuple (lrel_cons (pktRel zeroP) (lrel_cons (.int _ _) (lrel_cons (.int _ _) lrel_nil)))) ?_
  obtain ⟨k, f1, f2, f3, f4, f5, f6, f7, d⟩ := h
  obtain ⟨q, g1, g2, g3, g4, g5, g6, g7, e⟩ := r
  refine wsq (wrg (vN tab rfl (vN tab rfl (vN tab rfl (vQ tab rfl (vQ tab rfl (vnl (qth (wsq (wbk (wsq (wrg (vQ tab rfl (vQ tab rfl (vQ tab rfl (vnl (qth (vc_true rfl (wsq (wrg (vQ tab rfl (vS tab rfl (vQ tab rfl ?_)))))))))))))))))))))))
  refine vQ tab rfl (vnl (qth (vw_ret (q_ret (q_thenr ?_)))))
  exact ⟨.inr rfl, rfl⟩
section
variable {V : Heap} {n p t m : Nat} {most : Int} {l : List ByteArray}
theorem cproof_as {key secret tick : Int} {h : PacketV} {r : ReplyV} (x : PacketV × Int × Int × List ByteArray) (hx : proofR most l key secret h r tick = x) (hb : BkAt V p t m most l) (hn : p < n ∧ t < n ∧ m < n) (hmo : most ≤ 65536) (hl : (l.length : Int) ≤ 65536) :
    Tri Try.prog 15 [.pointer (some ⟨p, 0, none⟩), .int .i64 key, .int .i64 secret, pktV h, rplV r, .int .i64 tick] n 1 V (fun u L => u = .tuple #[pktV x.1, .int .i64 x.2.1, .int .i64 x.2.2.1] ∧ L = nameL most p t m n x.2.2.2) := by subst hx; exact cproof_tri hb hn hmo hl key secret h r tick
theorem cresume_as {key ticket nonce : Int} (x : PacketV × Int × Int × List ByteArray) (hx : resumeR most l key ticket nonce = x) (hb : BkAt V p t m most l) (hn : p < n ∧ t < n ∧ m < n) (hmo : most ≤ 65536) (hl : (l.length : Int) ≤ 65536) :
    Tri Try.prog 17 [.pointer (some ⟨p, 0, none⟩), .int .i64 key, .int .i64 ticket, .int .i64 nonce] n 1 V (fun u L => u = .tuple #[pktV x.1, .int .i64 x.2.1, .int .i64 x.2.2.1] ∧ L = nameL most p t m n x.2.2.2) := by subst hx; exact cresume_tri hb hn hmo hl key ticket nonce
theorem cdata_as {key session seq : Int} {data : ByteArray} (x : PacketV × Int × List ByteArray) (hx : dataR most l key session seq data = x) (hb : BkAt V p t m most l) (hn : p < n ∧ t < n ∧ m < n) (hl : (l.length : Int) ≤ 65536) (hd : data.size ≤ 9223372036854775807) :
    Tri Try.prog 18 [.pointer (some ⟨p, 0, none⟩), .int .i64 key, .int .i64 session, .int .i64 seq, .string data] n 1 V (fun u L => u = .tuple #[pktV x.1, .int .i64 x.2.1] ∧ L = nameL most p t m n x.2.2) := by subst hx; exact cdata_tri hb hn hl key session seq data hd
theorem cbye_as {key session : Int} (x : PacketV × Int × List ByteArray) (hx : byeR most l key session = x) (hb : BkAt V p t m most l) (hn : p < n ∧ t < n ∧ m < n) (hl : (l.length : Int) ≤ 65536) :
    Tri Try.prog 19 [.pointer (some ⟨p, 0, none⟩), .int .i64 key, .int .i64 session] n 1 V (fun u L => u = .tuple #[pktV x.1, .int .i64 x.2.1] ∧ L = nameL most p t m n x.2.2) := by subst hx; exact cbye_tri hb hn hl key session
end
section
variable {V : Heap} {n p t : Nat} {most : Int} {l : List ByteArray}
theorem refproof_as {key secret tick : Int} {h : PacketV} {r : ReplyV} (x : PacketV × Int × Int × List ByteArray) (hx : proofR most l key secret h r tick = x) (hb : RkAt V p t most l) (hn : p < n ∧ t < n) (hmo : most ≤ 65536) (hl : (l.length : Int) ≤ 65536) :
    Tri Try.prog 21 [.pointer (some ⟨p, 0, none⟩), .int .i64 key, .int .i64 secret, pktV h, rplV r, .int .i64 tick] n 1 V (fun u L => u = .tuple #[pktV x.1, .int .i64 x.2.1, .int .i64 x.2.2.1] ∧ L = refL most p t n x.2.2.2) := by subst hx; exact refproof_tri hb hn hmo hl key secret h r tick
theorem refresume_as {key ticket nonce : Int} (x : PacketV × Int × Int × List ByteArray) (hx : resumeR most l key ticket nonce = x) (hb : RkAt V p t most l) (hn : p < n ∧ t < n) (hmo : most ≤ 65536) (hl : (l.length : Int) ≤ 65536) :
    Tri Try.prog 23 [.pointer (some ⟨p, 0, none⟩), .int .i64 key, .int .i64 ticket, .int .i64 nonce] n 1 V (fun u L => u = .tuple #[pktV x.1, .int .i64 x.2.1, .int .i64 x.2.2.1] ∧ L = refL most p t n x.2.2.2) := by subst hx; exact refresume_tri hb hn hmo hl key ticket nonce
theorem refdata_as {key session seq : Int} {data : ByteArray} (x : PacketV × Int × List ByteArray) (hx : dataR most l key session seq data = x) (hb : RkAt V p t most l) (hn : p < n ∧ t < n) (hl : (l.length : Int) ≤ 65536) :
    Tri Try.prog 24 [.pointer (some ⟨p, 0, none⟩), .int .i64 key, .int .i64 session, .int .i64 seq, .string data] n 1 V (fun u L => u = .tuple #[pktV x.1, .int .i64 x.2.1] ∧ L = refL most p t n x.2.2) := by subst hx; exact refdata_tri hb hn hl key session seq data
theorem refbye_as {key session : Int} (x : PacketV × Int × List ByteArray) (hx : byeR most l key session = x) (hb : RkAt V p t most l) (hn : p < n ∧ t < n) (hl : (l.length : Int) ≤ 65536) :
    Tri Try.prog 25 [.pointer (some ⟨p, 0, none⟩), .int .i64 key, .int .i64 session] n 1 V (fun u L => u = .tuple #[pktV x.1, .int .i64 x.2.1] ∧ L = refL most p t n x.2.2) := by subst hx; exact refbye_tri hb hn hl key session
end
def aT1 : List ByteArray := [macT 5 (prT (numsB [1, 2, 4])), macT 5 (ktT (numsB [1, 2, 4])), macT 6 (codeT 1)]
def aT2 : List ByteArray := aT1 ++ [macT 5 (resT 9), macT 5 (ktT (numR 9).1)]
def aT3 : List ByteArray := aT2 ++ [macT 5 (dataT 1 ⟨#[120]⟩)]
def aT4 : List ByteArray := aT3 ++ [macT 5 byeT]
theorem aw1 : proofR 99 [] 5 6 ⟨0, 1, 2, 0, 0, 0, 0, 0, ⟨#[]⟩⟩ ⟨0, 3, 4, 0, 0, 0, 0, 0, ⟨#[]⟩⟩ 0 = (⟨1, 0, 0, 3, 0, 2, 0, 0, ⟨#[]⟩⟩, 1, 0, aT1) := by decide +kernel
theorem aw2 : proofR 99 aT1 5 6 ⟨0, 1, 2, 0, 0, 0, 0, 0, ⟨#[]⟩⟩ ⟨5, 0, 0, 0, 0, 0, 0, 0, ⟨#[]⟩⟩ 0 = (zeroP, 0, 2400, aT1) := by decide +kernel
theorem aw3 : resumeR 99 aT1 5 8 9 = (⟨2, 0, 9, 0, 8, 3, 0, 0, ⟨#[]⟩⟩, 4, 0, aT2) := by decide +kernel
theorem aw4 : dataR 99 aT2 5 0 1 ⟨#[120]⟩ = (⟨3, 0, 0, 0, 5, 0, 0, 1, ⟨#[120]⟩⟩, 0, aT3) := by decide +kernel
theorem aw5 : byeR 99 aT3 5 0 = (⟨4, 0, 0, 0, 6, 0, 0, 0, ⟨#[]⟩⟩, 0, aT4) := by decide +kernel
theorem client_awake : Fun Try.prog 13 [] (.bool true) := by
  refine fun_of_vw tab Try.func13 rfl rfl (by simp [Try.f13]) lrel_nil (.bool _) ?_
  refine wsq (wrg (vQ tab rfl (vnl (qth (wsq (wrg (vT rfl callable_14 (twin_ok (most := 99) (by unfold badNew; omega)) ?_)))))))
  refine vQ tab rfl (vQ tab rfl (vQ tab rfl (vQ tab rfl (vQ tab rfl (vnl (qth (wsq (wrg (vQ tab rfl (vQ tab rfl (vN tab rfl (vN tab rfl (vS tab rfl (vS tab rfl (vnl (qth (wsq (wrg (vQ tab rfl (vQ tab rfl (vQ tab rfl (vT rfl callable_15 (cproof_as _ aw1 ⟨rfl, rfl, rfl, by decide, by decide, by decide⟩ (by decide) (by decide) (by decide)) ?_))))))))))))))))))))))
  refine vQ tab rfl (vQ tab rfl (vQ tab rfl (vQ tab rfl (vN tab rfl (vS tab rfl (vQ tab rfl (vQ tab rfl (vnl (qth (wsq (wrg (vQ tab rfl (vQ tab rfl (vQ tab rfl (vT rfl callable_15 (cproof_as _ aw2 ⟨rfl, rfl, rfl, by decide, by decide, by decide⟩ (by decide) (by decide) (by decide)) ?_)))))))))))))))
  refine vQ tab rfl (vQ tab rfl (vQ tab rfl (vQ tab rfl (vN tab rfl (vS tab rfl (vQ tab rfl (vQ tab rfl (vnl (qth (wsq (wrg (vQ tab rfl (vQ tab rfl (vF rfl callable_15 (proof_nil 5 6 ⟨0, 1, 2, 0, 0, 0, 0, 0, ⟨#[]⟩⟩ ⟨0, 3, 4, 0, 0, 0, 0, 0, ⟨#[]⟩⟩ 0) (vQ tab rfl (vQ tab rfl (vQ tab rfl (vQ tab rfl (vN tab rfl (vS tab rfl (vQ tab rfl (vQ tab rfl (vnl ?_)))))))))))))))))))))))
  refine qth (wsq (wrg (vQ tab rfl (vT rfl callable_17 (cresume_as _ aw3 ⟨rfl, rfl, rfl, by decide, by decide, by decide⟩ (by decide) (by decide) (by decide)) ?_))))
  refine vQ tab rfl (vQ tab rfl (vQ tab rfl (vQ tab rfl (vN tab rfl (vS tab rfl (vQ tab rfl (vQ tab rfl (vnl (qth (wsq (wrg (vQ tab rfl (vT rfl callable_18 (cdata_as _ aw4 ⟨rfl, rfl, rfl, by decide, by decide, by decide⟩ (by decide) (by decide) (by decide)) ?_)))))))))))))
  refine vQ tab rfl (vQ tab rfl (vQ tab rfl (vN tab rfl (vS tab rfl (vQ tab rfl (vnl (qth (wsq (wrg (vQ tab rfl (vT rfl callable_19 (cbye_as _ aw5 ⟨rfl, rfl, rfl, by decide, by decide, by decide⟩ (by decide) (by decide)) ?_)))))))))))
  refine vQ tab rfl (vQ tab rfl (vQ tab rfl (vN tab rfl (vS tab rfl (vQ tab rfl (vnl (qth (wsq (wrg (vQ tab rfl (vQ tab rfl (vq_op tab rfl rfl rfl (ev_eql rfl rfl rfl (pkt_eq ⟨1, 0, 0, 3, 0, 2, 0, 0, ⟨#[]⟩⟩ ⟨1, 0, 0, 3, 0, 2, 0, 0, ⟨#[]⟩⟩)) (vQ tab rfl (vQ tab rfl (vQ tab rfl (vQ tab rfl (vQ tab rfl (vQ tab rfl (vF rfl callable_16 (num_fun _) (vQ tab rfl (vQ tab rfl (vQ tab rfl (vQ tab rfl ?_)))))))))))))))))))))))
  refine vF rfl callable_16 (num_fun _) (vQ tab rfl (vQ tab rfl (vQ tab rfl (vQ tab rfl (vF rfl callable_16 (num_fun _) (vQ tab rfl (vQ tab rfl (vQ tab rfl (vQ tab rfl (vQ tab rfl (vq_op tab ⟨_, _, rfl, rfl, rfl⟩ rfl rfl (ev_eql rfl rfl rfl (pkt_eq ⟨1, 0, 0, 3, 0, 2, 0, 0, ⟨#[]⟩⟩ ⟨1, 0, 0, 3, 0, 2, 0, 0, ⟨#[]⟩⟩)) (vQ tab rfl (vQ tab rfl (vQ tab rfl (vQ tab rfl (vQ tab rfl (vQ tab rfl (vQ tab rfl (vF rfl callable_16 (num_fun _) (vQ tab rfl (vQ tab rfl (vQ tab rfl (vQ tab rfl ?_)))))))))))))))))))))))
  refine vQ tab rfl (vq_op tab ⟨_, _, rfl, rfl, rfl⟩ rfl rfl (ev_eql rfl rfl rfl (pkt_eq ⟨1, 0, 0, 3, 0, 2, 0, 0, ⟨#[]⟩⟩ ⟨1, 0, 0, 3, 0, 2, 0, 0, ⟨#[]⟩⟩)) (vQ tab rfl (vQ tab rfl (vQ tab rfl (vF rfl callable_16 (num_fun _) (vQ tab rfl (vQ tab rfl (vQ tab rfl (vQ tab rfl (vQ tab rfl (vq_op tab ⟨_, _, rfl, rfl, rfl⟩ rfl rfl (ev_eql rfl rfl rfl (pkt_eq ⟨1, 0, 0, 3, 0, 2, 0, 0, ⟨#[]⟩⟩ ⟨1, 0, 0, 3, 0, 2, 0, 0, ⟨#[]⟩⟩)) (vQ tab rfl (vQ tab rfl (vQ tab rfl (vF rfl callable_16 (num_fun _) (vQ tab rfl (vQ tab rfl (vQ tab rfl (vnl (qth (vw_ret ?_)))))))))))))))))))))
  exact ⟨.inr rfl, rfl⟩
end Go.Proofs.Ytjkidjplbddmmaa
