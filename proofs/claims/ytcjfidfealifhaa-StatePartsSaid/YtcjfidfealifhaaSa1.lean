/- Package state: what looks through a turn's own slices; what deletes, puts. -/
import Derived.Test.YtcjfidfealifhaaVg1
import Derived.Test.YtcjfidfealifhaaSt9
import Derived.Test.YtcjfidfealifhaaSa0
namespace Go.Proofs.Ytcjfidfealifhaa
open Go Vm IntWalk
set_option linter.unusedVariables false
set_option linter.unusedSimpArgs false
set_option maxHeartbeats 16000000
set_option maxHeartbeats 4000000 in
theorem indexown_users {V : Heap} {n : Nat} {xs : List UserV} {F' : FuncId} {caps : List Value} (capsI : List Value) (p : UserV → Bool) (r : Int) (hr : findI p xs = r) (is : List Nat) (os : List VObj) (j : Nat) (i : Nat) (hij : is[j]? = some i) (hj : os[j]? = some (.opn (userR.cells xs) 49 9)) (hx : xs.length ≤ 140737488355328)
    (he : EList V (is.map .own) (is.map .own) os) (hn : is.Nodup) (hcaps : LRel (ownR (is.map .own)) capsI caps) (hF : Callable Try.prog F')
    (hcall : ∀ n' (V' : Heap), (∀ (a : Nat) (o : VObj), os[a]? = some o → V' a = some o) → ∀ x ∈ xs, Tri Try.prog F' (.agg (userR.f x).toArray :: capsI) n' 0 V' (fun u L => u = .bool (p x) ∧ L = [])) :
    Tri Try.prog 46 [.slice (some ⟨i, 0, none⟩) xs.length 0, .func (.func F') #[] caps.toArray] n 0 V (fun u L => u = .int .i64 r ∧ L = []) := by
  subst hr
  have hsi : (is.map Src.own)[j]? = some (.own i) := by rw [List.getElem?_map, hij]; rfl
  refine reads_of_vw (argsI := [.slice (some ⟨j, 0, none⟩) xs.length 0, .func (.func F') #[] capsI.toArray]) tab Try.func46 rfl rfl (by simp [Try.f46]) (is.map .own) os rfl he
    (by rw [ownNames_map]; exact hn) (by intro i hi; rw [lookNames_owns] at hi; cases hi) (al_cons (.val (rel_slice (ownR_of hsi) rfl)) (al_cons (.val (rel_func hcaps)) al_nil)) (seen_of (seen_owns is)) (.int _ _) ?_
  have hos : ∀ (a : Nat) (o : VObj), os[a]? = some o → lkp (oHeap 0 os) a = some o := fun a o h => by
    have := oHeap_get (k := 0) (os := os) (a := a) (o := o) h
    rw [Nat.zero_add] at this; exact this
  have hst : Stays (lkp (oHeap 0 os)) 0 (is.map .own) os := stays_self fun a o h => oHeap_get h
  have hH : (lkp (oHeap 0 os) j).bind cellsOf = some (userR.cells xs) := by rw [hos j _ hj]; rfl
  refine wsq (wrg (vQ tab rfl (vnl (qth (wsq (wsq (wrg (vQ tab rfl (vQ tab rfl (vQ tab rfl (vnl (qth (wbk ?_)))))))))))))
  refine vw_loop_env (fun k env => ∃ j0 : Int, 0 ≤ j0 ∧ j0 ≤ xs.length ∧ (xs.take j0.toNat).any p = false ∧ k = (xs.length - j0).toNat ∧
      env = [(0, .slice (some ⟨j, 0, none⟩) xs.length 0), (1, .func (.func F') #[] capsI.toArray), (7, .int .i64 xs.length), (8, .int .i64 j0)]) (xs.length - 0)
    ⟨_, se_cons rfl (se_cons rfl (se_cons rfl (se_cons rfl se_nil))), 0, by omega, by omega, by simp, by simp, rfl⟩ ?_
  rintro k env ⟨j0, h0, h1, ht, rfl, rfl⟩
  by_cases hj0 : j0 < (xs.length : Int)
  case neg =>
    rw [show j0.toNat = xs.length by omega, List.take_length] at ht
    refine wsq (wrg (vQ tab rfl (vnl (qth (wsq (vcd_false rfl (by simp only [decide_eq_true_eq, decide_eq_false_iff_not, Bool.not_eq_eq_eq_not, Bool.not_true, Bool.not_false, bne_iff_ne, bne_eq_false_iff_eq, beq_iff_eq, beq_eq_false_iff_ne, ne_eq, beq_self_eq_true, bne_self_eq_false, Bool.and_eq_true, Bool.and_eq_false_iff, Bool.or_eq_true, Bool.or_eq_false_iff, and_self, and_true, true_and, Bool.false_eq_true, Bool.true_eq_false, not_false_eq_true, not_true_eq_false]; first | done | omega) ?_))))))
    refine vw_exit (q_thenx (q_thenx (q_here (qth (wsq (wrg (vQ tab rfl (vnl (qth (vw_ret ?_))))))))))
    exact ⟨⟨.inr rfl, by rw [findI_none ht]; rfl⟩, hst⟩
  obtain ⟨a, hxa⟩ := get_some h0 hj0
  have hi : IntKind.i64.wrap (j0 + 1) = j0 + 1 := i64_in _ (by omega)
  have hjn : (j0 + 1).toNat = j0.toNat + 1 := by omega
  have hT := fun n' => hcall n' (lkp (oHeap 0 os)) hos a (List.mem_of_getElem? hxa)
  cases hp : p a with
  | true =>
    refine wsq (wrg (vQ tab rfl (vnl (qth (wsq (vcd_true rfl (by simp only [hi, hp, decide_eq_true_eq, decide_eq_false_iff_not, Bool.not_eq_eq_eq_not, Bool.not_true, Bool.not_false, bne_iff_ne, bne_eq_false_iff_eq, beq_iff_eq, beq_eq_false_iff_ne, ne_eq, beq_self_eq_true, bne_self_eq_false, Bool.and_eq_true, Bool.and_eq_false_iff, Bool.or_eq_true, Bool.or_eq_false_iff, and_self, and_true, true_and, Bool.false_eq_true, Bool.true_eq_false, not_false_eq_true, not_true_eq_false]; first | done | omega) ?_))))))
    refine vw_skip (qth (wsq (wbk (wsq (wrg (vQ tab rfl (vQ tab rfl (vnl (qth (wsq (wrg (vQ tab rfl (vQ tab rfl (vQ tab rfl (vq_op tab rfl rfl rfl (ev_index rfl rfl rfl rfl rfl (by omega) (by omega)) ?_)))))))))))))))
    refine vq_op tab rfl rfl rfl (ev_loadrow userR rfl rfl rfl rfl rfl hH hxa) (vclr_op rfl rfl rfl rfl rfl rfl hF (hT _) (vnl (qth (vcd_true rfl (by simp only [hi, hp, decide_eq_true_eq, decide_eq_false_iff_not, Bool.not_eq_eq_eq_not, Bool.not_true, Bool.not_false, bne_iff_ne, bne_eq_false_iff_eq, beq_iff_eq, beq_eq_false_iff_ne, ne_eq, beq_self_eq_true, bne_self_eq_false, Bool.and_eq_true, Bool.and_eq_false_iff, Bool.or_eq_true, Bool.or_eq_false_iff, and_self, and_true, true_and, Bool.false_eq_true, Bool.true_eq_false, not_false_eq_true, not_true_eq_false]; first | done | omega) ?_))))
    refine wsq (wrg (vQ tab rfl (vQ tab rfl (vnl (qth (vw_ret (q_ret (q_thenr (q_thenr (q_ret (q_thenr ?_)))))))))))
    exact ⟨⟨.inr rfl, by rw [findI_some hxa hp ht]; exact congrArg (fun j => some (Value.int .i64 j)) (by omega)⟩, hst⟩
  | false =>
    refine wsq (wrg (vQ tab rfl (vnl (qth (wsq (vcd_true rfl (by simp only [hi, hp, decide_eq_true_eq, decide_eq_false_iff_not, Bool.not_eq_eq_eq_not, Bool.not_true, Bool.not_false, bne_iff_ne, bne_eq_false_iff_eq, beq_iff_eq, beq_eq_false_iff_ne, ne_eq, beq_self_eq_true, bne_self_eq_false, Bool.and_eq_true, Bool.and_eq_false_iff, Bool.or_eq_true, Bool.or_eq_false_iff, and_self, and_true, true_and, Bool.false_eq_true, Bool.true_eq_false, not_false_eq_true, not_true_eq_false]; first | done | omega) ?_))))))
    refine vw_skip (qth (wsq (wbk (wsq (wrg (vQ tab rfl (vQ tab rfl (vnl (qth (wsq (wrg (vQ tab rfl (vQ tab rfl (vQ tab rfl (vq_op tab rfl rfl rfl (ev_index rfl rfl rfl rfl rfl (by omega) (by omega)) ?_)))))))))))))))
    refine vq_op tab rfl rfl rfl (ev_loadrow userR rfl rfl rfl rfl rfl hH hxa) (vclr_op rfl rfl rfl rfl rfl rfl hF (hT _) (vnl (qth (vcd_false rfl (by simp only [hi, hp, decide_eq_true_eq, decide_eq_false_iff_not, Bool.not_eq_eq_eq_not, Bool.not_true, Bool.not_false, bne_iff_ne, bne_eq_false_iff_eq, beq_iff_eq, beq_eq_false_iff_ne, ne_eq, beq_self_eq_true, bne_self_eq_false, Bool.and_eq_true, Bool.and_eq_false_iff, Bool.or_eq_true, Bool.or_eq_false_iff, and_self, and_true, true_and, Bool.false_eq_true, Bool.true_eq_false, not_false_eq_true, not_true_eq_false]; first | done | omega) ?_))))
    refine vw_skip (q_norm (qth (wrg (vQ tab rfl (vQ tab rfl (vnl (qth ?_)))))))
    exact ⟨rfl, rfl, (xs.length - (j0 + 1)).toNat, _, by omega, se_cons rfl (se_cons rfl (se_cons rfl (se_cons (se_int rfl hi) se_nil))), j0 + 1, by omega, by omega, by rw [hjn]; exact any_take hxa hp ht, rfl, rfl⟩
set_option maxHeartbeats 4000000 in
theorem indexown_sess {V : Heap} {n : Nat} {xs : List SessV} {F' : FuncId} {caps : List Value} (capsI : List Value) (p : SessV → Bool) (r : Int) (hr : findI p xs = r) (is : List Nat) (os : List VObj) (j : Nat) (i : Nat) (hij : is[j]? = some i) (hj : os[j]? = some (.opn (sessR.cells xs) 54 4)) (hx : xs.length ≤ 140737488355328)
    (he : EList V (is.map .own) (is.map .own) os) (hn : is.Nodup) (hcaps : LRel (ownR (is.map .own)) capsI caps) (hF : Callable Try.prog F')
    (hcall : ∀ n' (V' : Heap), (∀ (a : Nat) (o : VObj), os[a]? = some o → V' a = some o) → ∀ x ∈ xs, Tri Try.prog F' (.agg (sessR.f x).toArray :: capsI) n' 0 V' (fun u L => u = .bool (p x) ∧ L = [])) :
    Tri Try.prog 50 [.slice (some ⟨i, 0, none⟩) xs.length 0, .func (.func F') #[] caps.toArray] n 0 V (fun u L => u = .int .i64 r ∧ L = []) := by
  subst hr
  have hsi : (is.map Src.own)[j]? = some (.own i) := by rw [List.getElem?_map, hij]; rfl
  refine reads_of_vw (argsI := [.slice (some ⟨j, 0, none⟩) xs.length 0, .func (.func F') #[] capsI.toArray]) tab Try.func50 rfl rfl (by simp [Try.f50]) (is.map .own) os rfl he
    (by rw [ownNames_map]; exact hn) (by intro i hi; rw [lookNames_owns] at hi; cases hi) (al_cons (.val (rel_slice (ownR_of hsi) rfl)) (al_cons (.val (rel_func hcaps)) al_nil)) (seen_of (seen_owns is)) (.int _ _) ?_
  have hos : ∀ (a : Nat) (o : VObj), os[a]? = some o → lkp (oHeap 0 os) a = some o := fun a o h => by
    have := oHeap_get (k := 0) (os := os) (a := a) (o := o) h
    rw [Nat.zero_add] at this; exact this
  have hst : Stays (lkp (oHeap 0 os)) 0 (is.map .own) os := stays_self fun a o h => oHeap_get h
  have hH : (lkp (oHeap 0 os) j).bind cellsOf = some (sessR.cells xs) := by rw [hos j _ hj]; rfl
  refine wsq (wrg (vQ tab rfl (vnl (qth (wsq (wsq (wrg (vQ tab rfl (vQ tab rfl (vQ tab rfl (vnl (qth (wbk ?_)))))))))))))
  refine vw_loop_env (fun k env => ∃ j0 : Int, 0 ≤ j0 ∧ j0 ≤ xs.length ∧ (xs.take j0.toNat).any p = false ∧ k = (xs.length - j0).toNat ∧
      env = [(0, .slice (some ⟨j, 0, none⟩) xs.length 0), (1, .func (.func F') #[] capsI.toArray), (7, .int .i64 xs.length), (8, .int .i64 j0)]) (xs.length - 0)
    ⟨_, se_cons rfl (se_cons rfl (se_cons rfl (se_cons rfl se_nil))), 0, by omega, by omega, by simp, by simp, rfl⟩ ?_
  rintro k env ⟨j0, h0, h1, ht, rfl, rfl⟩
  by_cases hj0 : j0 < (xs.length : Int)
  case neg =>
    rw [show j0.toNat = xs.length by omega, List.take_length] at ht
    refine wsq (wrg (vQ tab rfl (vnl (qth (wsq (vcd_false rfl (by simp only [decide_eq_true_eq, decide_eq_false_iff_not, Bool.not_eq_eq_eq_not, Bool.not_true, Bool.not_false, bne_iff_ne, bne_eq_false_iff_eq, beq_iff_eq, beq_eq_false_iff_ne, ne_eq, beq_self_eq_true, bne_self_eq_false, Bool.and_eq_true, Bool.and_eq_false_iff, Bool.or_eq_true, Bool.or_eq_false_iff, and_self, and_true, true_and, Bool.false_eq_true, Bool.true_eq_false, not_false_eq_true, not_true_eq_false]; first | done | omega) ?_))))))
    refine vw_exit (q_thenx (q_thenx (q_here (qth (wsq (wrg (vQ tab rfl (vnl (qth (vw_ret ?_))))))))))
    exact ⟨⟨.inr rfl, by rw [findI_none ht]; rfl⟩, hst⟩
  obtain ⟨a, hxa⟩ := get_some h0 hj0
  have hi : IntKind.i64.wrap (j0 + 1) = j0 + 1 := i64_in _ (by omega)
  have hjn : (j0 + 1).toNat = j0.toNat + 1 := by omega
  have hT := fun n' => hcall n' (lkp (oHeap 0 os)) hos a (List.mem_of_getElem? hxa)
  cases hp : p a with
  | true =>
    refine wsq (wrg (vQ tab rfl (vnl (qth (wsq (vcd_true rfl (by simp only [hi, hp, decide_eq_true_eq, decide_eq_false_iff_not, Bool.not_eq_eq_eq_not, Bool.not_true, Bool.not_false, bne_iff_ne, bne_eq_false_iff_eq, beq_iff_eq, beq_eq_false_iff_ne, ne_eq, beq_self_eq_true, bne_self_eq_false, Bool.and_eq_true, Bool.and_eq_false_iff, Bool.or_eq_true, Bool.or_eq_false_iff, and_self, and_true, true_and, Bool.false_eq_true, Bool.true_eq_false, not_false_eq_true, not_true_eq_false]; first | done | omega) ?_))))))
    refine vw_skip (qth (wsq (wbk (wsq (wrg (vQ tab rfl (vQ tab rfl (vnl (qth (wsq (wrg (vQ tab rfl (vQ tab rfl (vQ tab rfl (vq_op tab rfl rfl rfl (ev_index rfl rfl rfl rfl rfl (by omega) (by omega)) ?_)))))))))))))))
    refine vq_op tab rfl rfl rfl (ev_loadrow sessR rfl rfl rfl rfl rfl hH hxa) (vclr_op rfl rfl rfl rfl rfl rfl hF (hT _) (vnl (qth (vcd_true rfl (by simp only [hi, hp, decide_eq_true_eq, decide_eq_false_iff_not, Bool.not_eq_eq_eq_not, Bool.not_true, Bool.not_false, bne_iff_ne, bne_eq_false_iff_eq, beq_iff_eq, beq_eq_false_iff_ne, ne_eq, beq_self_eq_true, bne_self_eq_false, Bool.and_eq_true, Bool.and_eq_false_iff, Bool.or_eq_true, Bool.or_eq_false_iff, and_self, and_true, true_and, Bool.false_eq_true, Bool.true_eq_false, not_false_eq_true, not_true_eq_false]; first | done | omega) ?_))))
    refine wsq (wrg (vQ tab rfl (vQ tab rfl (vnl (qth (vw_ret (q_ret (q_thenr (q_thenr (q_ret (q_thenr ?_)))))))))))
    exact ⟨⟨.inr rfl, by rw [findI_some hxa hp ht]; exact congrArg (fun j => some (Value.int .i64 j)) (by omega)⟩, hst⟩
  | false =>
    refine wsq (wrg (vQ tab rfl (vnl (qth (wsq (vcd_true rfl (by simp only [hi, hp, decide_eq_true_eq, decide_eq_false_iff_not, Bool.not_eq_eq_eq_not, Bool.not_true, Bool.not_false, bne_iff_ne, bne_eq_false_iff_eq, beq_iff_eq, beq_eq_false_iff_ne, ne_eq, beq_self_eq_true, bne_self_eq_false, Bool.and_eq_true, Bool.and_eq_false_iff, Bool.or_eq_true, Bool.or_eq_false_iff, and_self, and_true, true_and, Bool.false_eq_true, Bool.true_eq_false, not_false_eq_true, not_true_eq_false]; first | done | omega) ?_))))))
    refine vw_skip (qth (wsq (wbk (wsq (wrg (vQ tab rfl (vQ tab rfl (vnl (qth (wsq (wrg (vQ tab rfl (vQ tab rfl (vQ tab rfl (vq_op tab rfl rfl rfl (ev_index rfl rfl rfl rfl rfl (by omega) (by omega)) ?_)))))))))))))))
    refine vq_op tab rfl rfl rfl (ev_loadrow sessR rfl rfl rfl rfl rfl hH hxa) (vclr_op rfl rfl rfl rfl rfl rfl hF (hT _) (vnl (qth (vcd_false rfl (by simp only [hi, hp, decide_eq_true_eq, decide_eq_false_iff_not, Bool.not_eq_eq_eq_not, Bool.not_true, Bool.not_false, bne_iff_ne, bne_eq_false_iff_eq, beq_iff_eq, beq_eq_false_iff_ne, ne_eq, beq_self_eq_true, bne_self_eq_false, Bool.and_eq_true, Bool.and_eq_false_iff, Bool.or_eq_true, Bool.or_eq_false_iff, and_self, and_true, true_and, Bool.false_eq_true, Bool.true_eq_false, not_false_eq_true, not_true_eq_false]; first | done | omega) ?_))))
    refine vw_skip (q_norm (qth (wrg (vQ tab rfl (vQ tab rfl (vnl (qth ?_)))))))
    exact ⟨rfl, rfl, (xs.length - (j0 + 1)).toNat, _, by omega, se_cons rfl (se_cons rfl (se_cons rfl (se_cons (se_int rfl hi) se_nil))), j0 + 1, by omega, by omega, by rw [hjn]; exact any_take hxa hp ht, rfl, rfl⟩
set_option maxHeartbeats 4000000 in
theorem delete_sess {V : Heap} {n i : Nat} {xs : List SessV} {a b : Int} (hV : V i = some (.opn (sessR.cells xs) 54 4)) (ha0 : 0 ≤ a) (ha1 : a < (xs.length : Int)) (hb : b = a + 1) (hx : xs.length ≤ 140737488355328) (hin : i < n) :
    Tri Try.prog 52 [.slice (some ⟨i, 0, none⟩) xs.length 0, .int .i64 a, .int .i64 b] n 0 V (fun u L => u = .slice (some ⟨i, 0, none⟩) (xs.length - 1) 0 ∧ L = [(i, some (.opn (sessR.cells (xs.eraseIdx a.toNat)) 54 4))]) := by
  refine call_of_vw (K := 1) (argsI := [.slice (some ⟨0, 0, none⟩) xs.length 0, .int .i64 a, .int .i64 b]) tab Try.func52 rfl rfl (by simp [Try.f52]) [.own i] [.opn (sessR.cells xs) 54 4] rfl (.own hV (ov_opn sessR rfl) .nil) (by simp [ownNames, *]) (by simp [ownNames, lookNames, *]) (by simp [ownNames, *]) (al_cons (.val (rel_slice rfl rfl)) (al_cons (.val (.int _ _)) (al_cons (.val (.int _ _)) al_nil))) (seen_of (sn_own sn_nil)) ?_
  have hab : (a == b) = false := by simpa using (show a ≠ b by omega)
  have hbn : b.toNat = a.toNat + 1 := by omega
  have hdr : (xs.drop b.toNat).take (xs.length - b.toNat) = xs.drop b.toNat := by rw [List.take_of_length_le]; simp
  have hm : xs.length - b.toNat = (xs.drop b.toNat).length := by simp
  have her : xs.eraseIdx a.toNat = xs.take a.toNat ++ xs.drop b.toNat := by rw [hbn, List.eraseIdx_eq_take_drop_succ]
  have hlen : (xs.take a.toNat ++ xs.drop b.toNat ++ xs.drop (a.toNat - 0 + (xs.length - b.toNat))).length = xs.length := by simp; omega
  have htk : (xs.take a.toNat ++ xs.drop b.toNat ++ xs.drop (a.toNat - 0 + (xs.length - b.toNat))).take (a.toNat - 0 + (xs.length - b.toNat)) = xs.take a.toNat ++ xs.drop b.toNat := by
    rw [List.take_left']; simp; omega
  by_cases hlt : b < (xs.length : Int)
  ·
    refine wsq (wrg (vQ tab rfl (vnl (qth (wsq (wrg (vQ tab rfl (vQ tab rfl (vQ tab rfl (vQ tab rfl (vQ tab rfl (vx_op tab rfl rfl rfl rfl rfl rfl rfl rfl rfl rfl rfl (by omega) (by omega) (by omega) (by omega) (open_cap rfl) ?_))))))))))))
    refine vnl (qth (wsq (wsq (wrg (vQ tab rfl (vQ tab rfl (vQ tab rfl (vnl (qth (vcd_false rfl (by simp only [hab, decide_eq_true_eq, decide_eq_false_iff_not, Bool.not_eq_eq_eq_not, Bool.not_true, Bool.not_false, bne_iff_ne, bne_eq_false_iff_eq, beq_iff_eq, beq_eq_false_iff_ne, ne_eq, beq_self_eq_true, bne_self_eq_false, Bool.and_eq_true, Bool.and_eq_false_iff, Bool.or_eq_true, Bool.or_eq_false_iff, and_self, and_true, true_and, Bool.false_eq_true, Bool.true_eq_false, not_false_eq_true, not_true_eq_false]; first | done | omega) ?_))))))))))
    refine vw_skip (qth (wsq (wrg (vQ tab rfl (vQ tab rfl (vQ tab rfl (vnl (qth (wsq (vw_draw mixed (dq_op tab rfl rfl rfl rfl (dq_op tab rfl rfl rfl rfl (dq_op tab rfl rfl (ev_slice sessR (p := 0) (xs := xs) (l := 0) (h := a.toNat) rfl rfl rfl rfl rfl rfl rfl (bnd_int ha0) (by omega) (by omega) (.inr rfl)) (ev_slice sessR (p := 0) (xs := xs) (l := 0) (h := a.toNat) rfl rfl rfl rfl rfl rfl rfl (bnd_int ha0) (by omega) (by omega) (.inr rfl)) ?_)))))))))))))
    refine dq_op tab rfl rfl rfl rfl (dq_op tab rfl rfl rfl rfl (dq_op tab rfl rfl (ev_slice sessR (p := 0) (xs := xs) (l := b.toNat) (h := xs.length) rfl rfl rfl rfl rfl rfl (bnd_int (by omega)) rfl (by omega) (by omega) (.inl (by omega))) (ev_slice sessR (p := 0) (xs := xs) (l := b.toNat) (h := xs.length) rfl rfl rfl rfl rfl rfl (bnd_int (by omega)) rfl (by omega) (by omega) (.inl (by omega))) ?_))
    refine do_op [0] rfl rfl (opr_in tab rfl rfl rfl (appIn_rows sessR (ys := xs.drop b.toNat) rfl rfl rfl rfl (Eq.trans (news_rows sessR (p := 0 + b.toNat) (m := xs.length - b.toNat) rfl (by omega)) (by rw [Nat.zero_add, hdr])) hm rfl (by omega))) ?_
    refine dq_op tab rfl rfl rfl rfl (vd_nil (by kernel_rfl) ?_)
    refine qth (wsq (wrg (vQ tab rfl (vQ tab rfl (vQ tab rfl (vQ tab rfl (vq_op tab rfl rfl rfl (ev_slice sessR (p := 0) (l := a.toNat - 0 + (xs.length - b.toNat)) (h := xs.length) rfl rfl rfl rfl rfl rfl (bnd_nat _) (bnd_nat _) (by omega) (by simp <;> omega) (.inl (by omega))) ?_)))))))
    refine vs_op tab rfl rfl (ev_clear sessR ⟨0, 0, 0, 0⟩ (p := 0 + (a.toNat - 0 + (xs.length - b.toNat))) (m := xs.length - (a.toNat - 0 + (xs.length - b.toNat))) rfl rfl rfl rfl rfl rfl rfl (by simp <;> omega)) ?_
    refine vnl (qth (wsq (wrg (vQ tab rfl (vQ tab rfl (vnl (qth (vw_ret ?_))))))))
    exact out_mk [] (.inr rfl) ⟨rfl, rfl⟩ rfl (rel_slice (sigma_own (a := 0) (by simp [ownNames]) rfl) (by omega)) (op_cut (sigma_own (a := 0) (by simp [ownNames]) rfl) rfl rfl (ow_front sessR (by rw [Nat.zero_add, Nat.sub_zero] at *; rw [htk, her, List.append_assoc])) rfl op_nil) ⟨fun _ => by simp [lkp], trivial⟩
  · have hbl : b.toNat = xs.length := by omega
    have hdn : xs.drop b.toNat = [] := by rw [hbl, List.drop_length]
    refine wsq (wrg (vQ tab rfl (vnl (qth (wsq (wrg (vQ tab rfl (vQ tab rfl (vQ tab rfl (vQ tab rfl (vQ tab rfl (vx_op tab rfl rfl rfl rfl rfl rfl rfl rfl rfl rfl rfl (by omega) (by omega) (by omega) (by omega) (open_cap rfl) ?_))))))))))))
    refine vnl (qth (wsq (wsq (wrg (vQ tab rfl (vQ tab rfl (vQ tab rfl (vnl (qth (vcd_false rfl (by simp only [hab, decide_eq_true_eq, decide_eq_false_iff_not, Bool.not_eq_eq_eq_not, Bool.not_true, Bool.not_false, bne_iff_ne, bne_eq_false_iff_eq, beq_iff_eq, beq_eq_false_iff_ne, ne_eq, beq_self_eq_true, bne_self_eq_false, Bool.and_eq_true, Bool.and_eq_false_iff, Bool.or_eq_true, Bool.or_eq_false_iff, and_self, and_true, true_and, Bool.false_eq_true, Bool.true_eq_false, not_false_eq_true, not_true_eq_false]; first | done | omega) ?_))))))))))
    refine vw_skip (qth (wsq (wrg (vQ tab rfl (vQ tab rfl (vQ tab rfl (vnl (qth (wsq (vw_draw mixed (dq_op tab rfl rfl rfl rfl (dq_op tab rfl rfl rfl rfl (dq_op tab rfl rfl (ev_slice sessR (p := 0) (xs := xs) (l := 0) (h := a.toNat) rfl rfl rfl rfl rfl rfl rfl (bnd_int ha0) (by omega) (by omega) (.inr rfl)) (ev_slice sessR (p := 0) (xs := xs) (l := 0) (h := a.toNat) rfl rfl rfl rfl rfl rfl rfl (bnd_int ha0) (by omega) (by omega) (.inr rfl)) ?_)))))))))))))
    refine dq_op tab rfl rfl rfl rfl (dq_op tab rfl rfl rfl rfl (do_op [0] rfl rfl (opr_tail sessR (p := 0) (xs := xs) (l := b.toNat) tab rfl rfl rfl rfl rfl rfl rfl (bnd_int (by omega)) (by rw [hbl]; rfl) (by omega)) ?_))
    refine do_op [0, 1] rfl rfl (opr_in tab rfl rfl rfl (appIn_rows sessR (ys := []) rfl rfl rfl rfl (news_emp rfl rfl) rfl rfl (by omega))) ?_
    refine dq_op tab rfl rfl rfl rfl (vd_nil (by kernel_rfl) ?_)
    refine qth (wsq (wrg (vQ tab rfl (vQ tab rfl (vQ tab rfl (vQ tab rfl (vq_op tab rfl rfl rfl (ev_slice sessR (p := 0) (l := a.toNat - 0 + 0) (h := xs.length) rfl rfl rfl rfl rfl rfl (bnd_nat _) (bnd_nat _) (by omega) (by simp <;> omega) (.inl (by omega))) ?_)))))))
    refine vs_op tab rfl rfl (ev_clear sessR ⟨0, 0, 0, 0⟩ (p := 0 + (a.toNat - 0 + 0)) (m := xs.length - (a.toNat - 0 + 0)) rfl rfl rfl rfl rfl rfl rfl (by simp <;> omega)) ?_
    refine vnl (qth (wsq (wrg (vQ tab rfl (vQ tab rfl (vnl (qth (vw_ret ?_))))))))
    exact out_mk [] (.inr rfl) ⟨rfl, rfl⟩ rfl (rel_slice (sigma_own (a := 0) (by simp [ownNames]) rfl) (by omega)) (op_cut (sigma_own (a := 0) (by simp [ownNames]) rfl) rfl rfl (ow_front sessR (by rw [her, hdn]; simp; rfl)) rfl op_nil) ⟨fun _ => by simp [lkp], trivial⟩
section
variable {V : Heap} {n : Nat} {cf : ConfV} {ev : EventV} {s : StV}
/-- A turn's parts by their places, and a box with the turn. -/
abbrev parts8 (cf : ConfV) (ev : EventV) (s : StV) : List VObj := [turnO 1 3 4 5 6 2 s, confO cf, evtO ev, .opn (userR.cells s.users) 49 9, .opn (sessR.cells s.sess) 54 4, .opn (addrR.cells s.addrs) 58 3, .opn ((intR .i64).cells s.spent) 3 1, .cells [.pointer (some ⟨0, 0, none⟩)] 63 (0, 0)]
theorem closes1_tri (y : SessV) (h : ∀ (a : Nat) (o : VObj), (parts8 cf ev s)[a]? = some o → V a = some o) :
    Tri Try.prog 51 [.agg (sessR.f y).toArray, .pointer (some ⟨7, 0, none⟩)] n 0 V (fun u L => u = .bool (y.session == ev.session) ∧ L = []) := by
  have h0 := h 0 _ rfl
  have h1 := h 1 _ rfl
  have h2 := h 2 _ rfl
  have h3 := h 3 _ rfl
  have h4 := h 4 _ rfl
  have h5 := h 5 _ rfl
  have h6 := h 6 _ rfl
  have h7 := h 7 _ rfl
  refine reads_of_vw (K := 8) (argsI := [sessV y, .pointer (some ⟨0, 0, none⟩)]) tab Try.func51 rfl rfl (by simp [Try.f51]) [.own 7, .own 0, .own 1, .own 2, .own 3, .own 4, .own 5, .own 6] [.cells [.pointer (some ⟨1, 0, none⟩)] 63 (0, 0), turnO 2 4 5 6 7 3 s, confO cf, evtO ev, .opn (userR.cells s.users) 49 9, .opn (sessR.cells s.sess) 54 4, .opn (addrR.cells s.addrs) 58 3, .opn ((intR .i64).cells s.spent) 3 1] rfl (.own h7 (.cells _ _ (lrel_cons (rel_ptr rfl) lrel_nil)) (.own h0 (ov_turn rfl (rel_ptr rfl) (rel_slice rfl rfl) (rel_slice rfl rfl) (rel_slice rfl rfl) (rel_slice rfl rfl) (rel_ptr rfl)) (.own h1 (ov_conf rfl) (.own h2 (ov_evt rfl) (.own h3 (ov_opn userR rfl) (.own h4 (ov_opn sessR rfl) (.own h5 (ov_opn addrR rfl) (.own h6 (ov_opn (intR .i64) rfl) .nil)))))))) (by simp [ownNames, *]) (by simp [ownNames, lookNames, *]) (al_cons (.val (sessRel y)) (al_cons (.val (rel_ptr rfl)) al_nil)) (seen_of (sn_own (sn_own (sn_own (sn_own (sn_own (sn_own (sn_own (sn_own sn_nil))))))))) (.bool _) ?_
  refine wsq (wrg (vN tab rfl (vQ tab rfl (vnl (qth (wsq (vw_draw mixed (dq_op tab rfl rfl rfl rfl (dq_op tab rfl rfl rfl rfl (dq_op tab rfl rfl rfl rfl (dq_op tab rfl rfl rfl rfl (dq_op tab rfl rfl rfl rfl (dq_op tab rfl rfl rfl rfl (dq_op tab rfl rfl rfl rfl (dq_op tab rfl rfl rfl rfl (dq_op tab rfl rfl rfl rfl (dq_op tab rfl rfl rfl rfl (dq_op tab rfl rfl rfl rfl (vd_nil (by kernel_rfl) ?_)))))))))))))))))))
  refine qth (vw_ret ?_)
  exact ⟨⟨.inr rfl, rfl⟩, fun _ => rfl, fun _ => rfl, fun _ => rfl, fun _ => rfl, fun _ => rfl, fun _ => rfl, fun _ => rfl, fun _ => rfl, trivial⟩
theorem user2_tri (y : UserV) (h : ∀ (a : Nat) (o : VObj), (parts8 cf ev s)[a]? = some o → V a = some o) :
    Tri Try.prog 47 [.agg (userR.f y).toArray, .pointer (some ⟨7, 0, none⟩)] n 0 V (fun u L => u = .bool (decide (ev.user < y.user)) ∧ L = []) := by
  have h0 := h 0 _ rfl
  have h1 := h 1 _ rfl
  have h2 := h 2 _ rfl
  have h3 := h 3 _ rfl
  have h4 := h 4 _ rfl
  have h5 := h 5 _ rfl
  have h6 := h 6 _ rfl
  have h7 := h 7 _ rfl
  refine reads_of_vw (K := 8) (argsI := [userV y, .pointer (some ⟨0, 0, none⟩)]) tab Try.func47 rfl rfl (by simp [Try.f47]) [.own 7, .own 0, .own 1, .own 2, .own 3, .own 4, .own 5, .own 6] [.cells [.pointer (some ⟨1, 0, none⟩)] 63 (0, 0), turnO 2 4 5 6 7 3 s, confO cf, evtO ev, .opn (userR.cells s.users) 49 9, .opn (sessR.cells s.sess) 54 4, .opn (addrR.cells s.addrs) 58 3, .opn ((intR .i64).cells s.spent) 3 1] rfl (.own h7 (.cells _ _ (lrel_cons (rel_ptr rfl) lrel_nil)) (.own h0 (ov_turn rfl (rel_ptr rfl) (rel_slice rfl rfl) (rel_slice rfl rfl) (rel_slice rfl rfl) (rel_slice rfl rfl) (rel_ptr rfl)) (.own h1 (ov_conf rfl) (.own h2 (ov_evt rfl) (.own h3 (ov_opn userR rfl) (.own h4 (ov_opn sessR rfl) (.own h5 (ov_opn addrR rfl) (.own h6 (ov_opn (intR .i64) rfl) .nil)))))))) (by simp [ownNames, *]) (by simp [ownNames, lookNames, *]) (al_cons (.val (userRel y)) (al_cons (.val (rel_ptr rfl)) al_nil)) (seen_of (sn_own (sn_own (sn_own (sn_own (sn_own (sn_own (sn_own (sn_own sn_nil))))))))) (.bool _) ?_
  refine wsq (wrg (vN tab rfl (vQ tab rfl (vnl (qth (wsq (vw_draw mixed (dq_op tab rfl rfl rfl rfl (dq_op tab rfl rfl rfl rfl (dq_op tab rfl rfl rfl rfl (dq_op tab rfl rfl rfl rfl (dq_op tab rfl rfl rfl rfl (dq_op tab rfl rfl rfl rfl (dq_op tab rfl rfl rfl rfl (dq_op tab rfl rfl rfl rfl (dq_op tab rfl rfl rfl rfl (dq_op tab rfl rfl rfl rfl (dq_op tab rfl rfl rfl rfl (vd_nil (by kernel_rfl) ?_)))))))))))))))))))
  refine qth (vw_ret ?_)
  exact ⟨⟨.inr rfl, rfl⟩, fun _ => rfl, fun _ => rfl, fun _ => rfl, fun _ => rfl, fun _ => rfl, fun _ => rfl, fun _ => rfl, fun _ => rfl, trivial⟩
end
theorem insert_end {V : Heap} {n i : Nat} {us : List UserV} {sv : Value} {a : UserV} (hV : V i = some (.opn (userR.cells us) 49 9)) (hl : Looks V 9 sv (userR.cells [a]) 1) (hs : ∀ j ∈ lookNames [Src.look sv 1 9], ¬ j = i) (hb : us.length * 72 ≤ 140737488351232) (hin : i < n) :
    Tri Try.prog 48 [.slice (some ⟨i, 0, none⟩) us.length 0, .int .i64 us.length, sv] n 1 V (fun u L => u = .slice (some ⟨n, 0, none⟩) (us ++ [a]).length 0 ∧ L = [(i, none), (n, some (.opn (userR.cells (us ++ [a])) 49 9))]) := by
  refine call_of_vw (K := 2) (argsI := [.slice (some ⟨0, 0, none⟩) us.length 0, .int .i64 us.length, .slice (some ⟨1, 0, none⟩) ([a]).length 0]) tab Try.func48 rfl rfl (by simp [Try.f48]) [.own i, .look sv ([a]).length 9] [.opn (userR.cells us) 49 9, .win (userR.cells ([a])) 9] rfl (.own hV (ov_opn userR rfl) (.look hl (userR.flat_cells ([a])) .nil)) (by simp [ownNames, *]) ((by simpa [ownNames, lookNames] using hs)) (by simp [ownNames, *]) (al_cons (.val (rel_slice rfl rfl)) (al_cons (.val (.int _ _)) (al_cons (.look (a := 1) rfl) al_nil))) (seen_of (sn_own (sn_look (seen_top (j := 2) rfl) sn_nil))) ?_
  have he : ((us.length : Int) == (us.length : Int)) = true := by simp
  refine wsq (wrg (vQ tab rfl (vnl (qth (wsq (wrg (vQ tab rfl (vQ tab rfl (vo_op rfl rfl rfl (opr_tail userR (p := 0) (xs := us) (l := us.length) tab rfl rfl rfl rfl rfl rfl rfl (bnd_nat _) rfl (by omega)) ?_)))))))))
  refine vnl (qth (wsq (wrg (vQ tab rfl (vQ tab rfl (vQ tab rfl (vnl (qth (wsq (wsq (wrg (vQ tab rfl (vQ tab rfl (vnl (qth (vc_false rfl (vw_skip (qth (wsq (wrg (vQ tab rfl (vQ tab rfl (vQ tab rfl ?_)))))))))))))))))))))))
  refine vnl (qth (wsq (wsq (wrg (vQ tab rfl (vQ tab rfl (vQ tab rfl (vnl (qth (vcd_true rfl (by simp only [he, decide_eq_true_eq, decide_eq_false_iff_not, Bool.not_eq_eq_eq_not, Bool.not_true, Bool.not_false, bne_iff_ne, bne_eq_false_iff_eq, beq_iff_eq, beq_eq_false_iff_ne, ne_eq, beq_self_eq_true, bne_self_eq_false, Bool.and_eq_true, Bool.and_eq_false_iff, Bool.or_eq_true, Bool.or_eq_false_iff, and_self, and_true, true_and, Bool.false_eq_true, Bool.true_eq_false, not_false_eq_true, not_true_eq_false]; first | done | omega) ?_))))))))))
  refine wsq (wrg (vQ tab rfl (vQ tab rfl (vo_op rfl rfl rfl (opr_ev tab (ev_app userR (xs := us) (ys := [a]) (m := 1) rfl rfl rfl rfl rfl rfl (news_all userR rfl rfl) rfl rfl (by show (_ + 1) * 72 ≤ _; omega) (by omega))) ?_))))
  refine vQ tab rfl (vnl (qth (vw_ret (q_thenr ?_))))
  exact out_mk [3] (.inr rfl) ⟨rfl, rfl⟩ rfl (rel_slice (sigma_at (i := 0) (by simp [ownNames, *]) rfl) (by simp)) (op_drop (op_cons (sigma_at (i := 0) (by simp [ownNames, *]) rfl) rfl rfl (ov_opn userR rfl) rfl op_nil)) (told_of (by simp [ownNames]))
end Go.Proofs.Ytcjfidfealifhaa
