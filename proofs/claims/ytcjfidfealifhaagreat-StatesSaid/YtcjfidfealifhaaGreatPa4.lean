/- Texts of this claim, one behind the other (5 of 7). -/
import Derived.Test.YtcjfidfealifhaaGreatPa3
namespace Go.Proofs.YtcjfidfealifhaaGreat
open Go Vm IntWalk
set_option linter.unusedVariables false
set_option linter.unusedSimpArgs false
set_option maxHeartbeats 16000000
set_option maxHeartbeats 4000000 in
theorem indexown_users {V : Heap} {n : Nat} {xs : List UserV} {F' : FuncId} {caps : List Value} (capsI : List Value) (p : UserV → Bool) (r : Int) (hr : findI p xs = r) (is : List Nat) (os : List VObj) (j : Nat) (i : Nat) (hij : is[j]? = some i) (hj : os[j]? = some (.opn (userR.cells xs) 76 9)) (hx : xs.length ≤ 140737488355328)
    (he : EList V (is.map .own) (is.map .own) os) (hn : is.Nodup) (hcaps : LRel (ownR (is.map .own)) capsI caps) (hF : Callable Tryz.prog F')
    (hcall : ∀ n' (V' : Heap), (∀ (a : Nat) (o : VObj), os[a]? = some o → V' a = some o) → ∀ x ∈ xs, Tri Tryz.prog F' (.agg (userR.f x).toArray :: capsI) n' 0 V' (fun u L => u = .bool (p x) ∧ L = [])) :
    Tri Tryz.prog 69 [.slice (some ⟨i, 0, none⟩) xs.length 0, .func (.func F') #[] caps.toArray] n 0 V (fun u L => u = .int .i64 r ∧ L = []) := by
  subst hr
  have hsi : (is.map Src.own)[j]? = some (.own i) := by rw [List.getElem?_map, hij]; rfl
  refine reads_of_vw (argsI := [.slice (some ⟨j, 0, none⟩) xs.length 0, .func (.func F') #[] capsI.toArray]) tab Tryz.func69 rfl rfl (by simp [Tryz.f69]) (is.map .own) os rfl he
    (by rw [ownNames_map]; exact hn) (by intro i hi; rw [lookNames_owns] at hi; cases hi) (al_cons (.val (rel_slice (ownR_of hsi) rfl)) (al_cons (.val (rel_func hcaps)) al_nil)) (seen_of (seen_owns is)) (.int _ _) ?_
  have hos : ∀ (a : Nat) (o : VObj), os[a]? = some o → lkp (oHeap 0 os) a = some o := fun a o h => by
    have := oHeap_get (k := 0) (os := os) (a := a) (o := o) h
    rw [Nat.zero_add] at this; exact this
  have hst : Stays (lkp (oHeap 0 os)) 0 (is.map .own) os := stays_self fun a o h => oHeap_get h
  have hH : (lkp (oHeap 0 os) j).bind cellsOf = some (userR.cells xs) := by rw [hos j _ hj]; rfl
  refine wsq (wrg (vQ tab rfl (vnl (qth (wsq (wsq (wrg (vQ3 tab rfl rfl rfl (vnl (qth (wbk ?_)))))))))))
  refine vw_loop_env (fun k env => ∃ j0 : Int, 0 ≤ j0 ∧ j0 ≤ xs.length ∧ (xs.take j0.toNat).any p = false ∧ k = (xs.length - j0).toNat ∧
      env = [(0, .slice (some ⟨j, 0, none⟩) xs.length 0), (1, .func (.func F') #[] capsI.toArray), (7, .int .i64 xs.length), (8, .int .i64 j0)]) (xs.length - 0)
    ⟨_, se_cons rfl (se_cons rfl (se_cons rfl (se_cons rfl se_nil))), 0, by omega, by omega, by simp, by simp, rfl⟩ ?_
  rintro k env ⟨j0, h0, h1, ht, rfl, rfl⟩
  by_cases hj0 : j0 < (xs.length : Int)
  case neg =>
    rw [show j0.toNat = xs.length by omega, List.take_length] at ht
    refine wsq (wrg (vQ tab rfl (vnl (qth (wsq (vcd_false rfl (by simp only [sl_]; first | done | omega) ?_))))))
    refine vw_exit (q_thenx (q_thenx (q_here (qth (wsq (wrg (vQ tab rfl (vnl (qth (vw_ret ?_))))))))))
    exact ⟨⟨.inr rfl, by rw [findI_none ht]; rfl⟩, hst⟩
  obtain ⟨a, hxa⟩ := get_some h0 hj0
  have hi : IntKind.i64.wrap (j0 + 1) = j0 + 1 := i64_in _ (by omega)
  have hjn : (j0 + 1).toNat = j0.toNat + 1 := by omega
  have hT := fun n' => hcall n' (lkp (oHeap 0 os)) hos a (List.mem_of_getElem? hxa)
  cases hp : p a with
  | true =>
    refine wsq (wrg (vQ tab rfl (vnl (qth (wsq (vcd_true rfl (by simp only [hi, hp, sl_]; first | done | omega) ?_))))))
    refine vw_skip (qth (wsq (wbk (wsq (wrg (vQ2 tab rfl rfl (vnl (qth (wsq (wrg (vQ3 tab rfl rfl rfl (vq_op tab rfl rfl rfl (ev_index rfl rfl rfl rfl rfl (by omega) (by omega)) ?_))))))))))))
    refine vq_op tab rfl rfl rfl (ev_loadrow userR rfl rfl rfl rfl rfl hH hxa) (vclr_op rfl rfl rfl rfl rfl rfl hF (hT _) (vnl (qth (vcd_true rfl (by simp only [hi, hp, sl_]; first | done | omega) ?_))))
    refine wsq (wrg (vQ2 tab rfl rfl (vnl (qth (vw_ret (q_ret (q_thenr (q_thenr (q_ret (q_thenr ?_))))))))))
    exact ⟨⟨.inr rfl, by rw [findI_some hxa hp ht]; exact congrArg (fun j => some (Value.int .i64 j)) (by omega)⟩, hst⟩
  | false =>
    refine wsq (wrg (vQ tab rfl (vnl (qth (wsq (vcd_true rfl (by simp only [hi, hp, sl_]; first | done | omega) ?_))))))
    refine vw_skip (qth (wsq (wbk (wsq (wrg (vQ2 tab rfl rfl (vnl (qth (wsq (wrg (vQ3 tab rfl rfl rfl (vq_op tab rfl rfl rfl (ev_index rfl rfl rfl rfl rfl (by omega) (by omega)) ?_))))))))))))
    refine vq_op tab rfl rfl rfl (ev_loadrow userR rfl rfl rfl rfl rfl hH hxa) (vclr_op rfl rfl rfl rfl rfl rfl hF (hT _) (vnl (qth (vcd_false rfl (by simp only [hi, hp, sl_]; first | done | omega) ?_))))
    refine vw_skip (q_norm (qth (wrg (vQ2 tab rfl rfl (vnl (qth ?_))))))
    exact ⟨rfl, rfl, (xs.length - (j0 + 1)).toNat, _, by omega, se_cons rfl (se_cons rfl (se_cons rfl (se_cons (se_int rfl hi) se_nil))), j0 + 1, by omega, by omega, by rw [hjn]; exact any_take hxa hp ht, rfl, rfl⟩
set_option maxHeartbeats 4000000 in
theorem indexown_sess {V : Heap} {n : Nat} {xs : List SessV} {F' : FuncId} {caps : List Value} (capsI : List Value) (p : SessV → Bool) (r : Int) (hr : findI p xs = r) (is : List Nat) (os : List VObj) (j : Nat) (i : Nat) (hij : is[j]? = some i) (hj : os[j]? = some (.opn (sessR.cells xs) 78 4)) (hx : xs.length ≤ 140737488355328)
    (he : EList V (is.map .own) (is.map .own) os) (hn : is.Nodup) (hcaps : LRel (ownR (is.map .own)) capsI caps) (hF : Callable Tryz.prog F')
    (hcall : ∀ n' (V' : Heap), (∀ (a : Nat) (o : VObj), os[a]? = some o → V' a = some o) → ∀ x ∈ xs, Tri Tryz.prog F' (.agg (sessR.f x).toArray :: capsI) n' 0 V' (fun u L => u = .bool (p x) ∧ L = [])) :
    Tri Tryz.prog 73 [.slice (some ⟨i, 0, none⟩) xs.length 0, .func (.func F') #[] caps.toArray] n 0 V (fun u L => u = .int .i64 r ∧ L = []) := by
  subst hr
  have hsi : (is.map Src.own)[j]? = some (.own i) := by rw [List.getElem?_map, hij]; rfl
  refine reads_of_vw (argsI := [.slice (some ⟨j, 0, none⟩) xs.length 0, .func (.func F') #[] capsI.toArray]) tab Tryz.func73 rfl rfl (by simp [Tryz.f73]) (is.map .own) os rfl he
    (by rw [ownNames_map]; exact hn) (by intro i hi; rw [lookNames_owns] at hi; cases hi) (al_cons (.val (rel_slice (ownR_of hsi) rfl)) (al_cons (.val (rel_func hcaps)) al_nil)) (seen_of (seen_owns is)) (.int _ _) ?_
  have hos : ∀ (a : Nat) (o : VObj), os[a]? = some o → lkp (oHeap 0 os) a = some o := fun a o h => by
    have := oHeap_get (k := 0) (os := os) (a := a) (o := o) h
    rw [Nat.zero_add] at this; exact this
  have hst : Stays (lkp (oHeap 0 os)) 0 (is.map .own) os := stays_self fun a o h => oHeap_get h
  have hH : (lkp (oHeap 0 os) j).bind cellsOf = some (sessR.cells xs) := by rw [hos j _ hj]; rfl
  refine wsq (wrg (vQ tab rfl (vnl (qth (wsq (wsq (wrg (vQ3 tab rfl rfl rfl (vnl (qth (wbk ?_)))))))))))
  refine vw_loop_env (fun k env => ∃ j0 : Int, 0 ≤ j0 ∧ j0 ≤ xs.length ∧ (xs.take j0.toNat).any p = false ∧ k = (xs.length - j0).toNat ∧
      env = [(0, .slice (some ⟨j, 0, none⟩) xs.length 0), (1, .func (.func F') #[] capsI.toArray), (7, .int .i64 xs.length), (8, .int .i64 j0)]) (xs.length - 0)
    ⟨_, se_cons rfl (se_cons rfl (se_cons rfl (se_cons rfl se_nil))), 0, by omega, by omega, by simp, by simp, rfl⟩ ?_
  rintro k env ⟨j0, h0, h1, ht, rfl, rfl⟩
  by_cases hj0 : j0 < (xs.length : Int)
  case neg =>
    rw [show j0.toNat = xs.length by omega, List.take_length] at ht
    refine wsq (wrg (vQ tab rfl (vnl (qth (wsq (vcd_false rfl (by simp only [sl_]; first | done | omega) ?_))))))
    refine vw_exit (q_thenx (q_thenx (q_here (qth (wsq (wrg (vQ tab rfl (vnl (qth (vw_ret ?_))))))))))
    exact ⟨⟨.inr rfl, by rw [findI_none ht]; rfl⟩, hst⟩
  obtain ⟨a, hxa⟩ := get_some h0 hj0
  have hi : IntKind.i64.wrap (j0 + 1) = j0 + 1 := i64_in _ (by omega)
  have hjn : (j0 + 1).toNat = j0.toNat + 1 := by omega
  have hT := fun n' => hcall n' (lkp (oHeap 0 os)) hos a (List.mem_of_getElem? hxa)
  cases hp : p a with
  | true =>
    refine wsq (wrg (vQ tab rfl (vnl (qth (wsq (vcd_true rfl (by simp only [hi, hp, sl_]; first | done | omega) ?_))))))
    refine vw_skip (qth (wsq (wbk (wsq (wrg (vQ2 tab rfl rfl (vnl (qth (wsq (wrg (vQ3 tab rfl rfl rfl (vq_op tab rfl rfl rfl (ev_index rfl rfl rfl rfl rfl (by omega) (by omega)) ?_))))))))))))
    refine vq_op tab rfl rfl rfl (ev_loadrow sessR rfl rfl rfl rfl rfl hH hxa) (vclr_op rfl rfl rfl rfl rfl rfl hF (hT _) (vnl (qth (vcd_true rfl (by simp only [hi, hp, sl_]; first | done | omega) ?_))))
    refine wsq (wrg (vQ2 tab rfl rfl (vnl (qth (vw_ret (q_ret (q_thenr (q_thenr (q_ret (q_thenr ?_))))))))))
    exact ⟨⟨.inr rfl, by rw [findI_some hxa hp ht]; exact congrArg (fun j => some (Value.int .i64 j)) (by omega)⟩, hst⟩
  | false =>
    refine wsq (wrg (vQ tab rfl (vnl (qth (wsq (vcd_true rfl (by simp only [hi, hp, sl_]; first | done | omega) ?_))))))
    refine vw_skip (qth (wsq (wbk (wsq (wrg (vQ2 tab rfl rfl (vnl (qth (wsq (wrg (vQ3 tab rfl rfl rfl (vq_op tab rfl rfl rfl (ev_index rfl rfl rfl rfl rfl (by omega) (by omega)) ?_))))))))))))
    refine vq_op tab rfl rfl rfl (ev_loadrow sessR rfl rfl rfl rfl rfl hH hxa) (vclr_op rfl rfl rfl rfl rfl rfl hF (hT _) (vnl (qth (vcd_false rfl (by simp only [hi, hp, sl_]; first | done | omega) ?_))))
    refine vw_skip (q_norm (qth (wrg (vQ2 tab rfl rfl (vnl (qth ?_))))))
    exact ⟨rfl, rfl, (xs.length - (j0 + 1)).toNat, _, by omega, se_cons rfl (se_cons rfl (se_cons rfl (se_cons (se_int rfl hi) se_nil))), j0 + 1, by omega, by omega, by rw [hjn]; exact any_take hxa hp ht, rfl, rfl⟩
set_option maxHeartbeats 4000000 in
theorem delete_sess {V : Heap} {n i : Nat} {xs : List SessV} {a b : Int} (hV : V i = some (.opn (sessR.cells xs) 78 4)) (ha0 : 0 ≤ a) (ha1 : a < (xs.length : Int)) (hb : b = a + 1) (hx : xs.length ≤ 140737488355328) (hin : i < n) :
    Tri Tryz.prog 75 [.slice (some ⟨i, 0, none⟩) xs.length 0, .int .i64 a, .int .i64 b] n 0 V (fun u L => u = .slice (some ⟨i, 0, none⟩) (xs.length - 1) 0 ∧ L = [(i, some (.opn (sessR.cells (xs.eraseIdx a.toNat)) 78 4))]) := by
  refine call_of_vw (K := 1) (argsI := [.slice (some ⟨0, 0, none⟩) xs.length 0, .int .i64 a, .int .i64 b]) tab Tryz.func75 rfl rfl (by simp [Tryz.f75]) [.own i] [.opn (sessR.cells xs) 78 4] rfl (.own hV (ov_opn sessR rfl) .nil) (by simp [ownNames, *]) (by simp [ownNames, lookNames, *]) (by simp [ownNames, *]) (al_cons (.val (rel_slice rfl rfl)) (al_cons (.val (.int _ _)) (al_cons (.val (.int _ _)) al_nil))) (seen_of (sn_own sn_nil)) ?_
  have hab : (a == b) = false := by simpa using (show a ≠ b by omega)
  have hbn : b.toNat = a.toNat + 1 := by omega
  have hdr : (xs.drop b.toNat).take (xs.length - b.toNat) = xs.drop b.toNat := by rw [List.take_of_length_le]; simp
  have hm : xs.length - b.toNat = (xs.drop b.toNat).length := by simp
  have her : xs.eraseIdx a.toNat = xs.take a.toNat ++ xs.drop b.toNat := by rw [hbn, List.eraseIdx_eq_take_drop_succ]
  have hlen : (xs.take a.toNat ++ xs.drop b.toNat ++ xs.drop (a.toNat - 0 + (xs.length - b.toNat))).length = xs.length := by simp; omega
  have htk : (xs.take a.toNat ++ xs.drop b.toNat ++ xs.drop (a.toNat - 0 + (xs.length - b.toNat))).take (a.toNat - 0 + (xs.length - b.toNat)) = xs.take a.toNat ++ xs.drop b.toNat := by
    rw [List.take_left']; simp; omega
  by_cases hlt : b < (xs.length : Int)
  ·
    refine wsq (wrg (vQ tab rfl (vnl (qth (wsq (wrg (vQ4 tab rfl rfl rfl rfl (vQ tab rfl (vx_op tab rfl rfl rfl rfl rfl rfl rfl rfl rfl rfl rfl (by omega) (by omega) (by omega) (by omega) (open_cap rfl) ?_)))))))))
    refine vnl (qth (wsq (wsq (wrg (vQ3 tab rfl rfl rfl (vnl (qth (vcd_false rfl (by simp only [hab, sl_]; first | done | omega) ?_))))))))
    refine vw_skip (qth (wsq (wrg (vQ3 tab rfl rfl rfl (vnl (qth (wsq (vw_draw mixed (dq_op tab rfl rfl rfl rfl (dq_op tab rfl rfl rfl rfl (dq_op tab rfl rfl (ev_slice sessR (p := 0) (xs := xs) (l := 0) (h := a.toNat) rfl rfl rfl rfl rfl rfl rfl (bnd_int ha0) (by omega) (by omega) (.inr rfl)) (ev_slice sessR (p := 0) (xs := xs) (l := 0) (h := a.toNat) rfl rfl rfl rfl rfl rfl rfl (bnd_int ha0) (by omega) (by omega) (.inr rfl)) ?_)))))))))))
    refine dq_op tab rfl rfl rfl rfl (dq_op tab rfl rfl rfl rfl (dq_op tab rfl rfl (ev_slice sessR (p := 0) (xs := xs) (l := b.toNat) (h := xs.length) rfl rfl rfl rfl rfl rfl (bnd_int (by omega)) rfl (by omega) (by omega) (.inl (by omega))) (ev_slice sessR (p := 0) (xs := xs) (l := b.toNat) (h := xs.length) rfl rfl rfl rfl rfl rfl (bnd_int (by omega)) rfl (by omega) (by omega) (.inl (by omega))) ?_))
    refine do_op [0] rfl rfl (opr_in tab rfl rfl rfl (appIn_rows sessR (ys := xs.drop b.toNat) rfl rfl rfl rfl (Eq.trans (news_rows sessR (p := 0 + b.toNat) (m := xs.length - b.toNat) rfl (by omega)) (by rw [Nat.zero_add, hdr])) hm rfl (by omega))) ?_
    refine dq_op tab rfl rfl rfl rfl (vd_nil (by kernel_rfl) ?_)
    refine qth (wsq (wrg (vQ4 tab rfl rfl rfl rfl (vq_op tab rfl rfl rfl (ev_slice sessR (p := 0) (l := a.toNat - 0 + (xs.length - b.toNat)) (h := xs.length) rfl rfl rfl rfl rfl rfl (bnd_nat _) (bnd_nat _) (by omega) (by simp <;> omega) (.inl (by omega))) ?_))))
    refine vs_op tab rfl rfl (ev_clear sessR ⟨0, 0, 0, 0⟩ (p := 0 + (a.toNat - 0 + (xs.length - b.toNat))) (m := xs.length - (a.toNat - 0 + (xs.length - b.toNat))) rfl rfl rfl rfl rfl rfl rfl (by simp <;> omega)) ?_
    refine vnl (qth (wsq (wrg (vQ2 tab rfl rfl (vnl (qth (vw_ret ?_)))))))
    exact out_mk [] (.inr rfl) ⟨rfl, rfl⟩ rfl (rel_slice (sigma_own (a := 0) (by simp [ownNames]) rfl) (by omega)) (op_cut (sigma_own (a := 0) (by simp [ownNames]) rfl) rfl rfl (ow_front sessR (by rw [Nat.zero_add, Nat.sub_zero] at *; rw [htk, her, List.append_assoc])) rfl op_nil) ⟨fun _ => by simp [lkp], trivial⟩
  · have hbl : b.toNat = xs.length := by omega
    have hdn : xs.drop b.toNat = [] := by rw [hbl, List.drop_length]
    refine wsq (wrg (vQ tab rfl (vnl (qth (wsq (wrg (vQ4 tab rfl rfl rfl rfl (vQ tab rfl (vx_op tab rfl rfl rfl rfl rfl rfl rfl rfl rfl rfl rfl (by omega) (by omega) (by omega) (by omega) (open_cap rfl) ?_)))))))))
    refine vnl (qth (wsq (wsq (wrg (vQ3 tab rfl rfl rfl (vnl (qth (vcd_false rfl (by simp only [hab, sl_]; first | done | omega) ?_))))))))
    refine vw_skip (qth (wsq (wrg (vQ3 tab rfl rfl rfl (vnl (qth (wsq (vw_draw mixed (dq_op tab rfl rfl rfl rfl (dq_op tab rfl rfl rfl rfl (dq_op tab rfl rfl (ev_slice sessR (p := 0) (xs := xs) (l := 0) (h := a.toNat) rfl rfl rfl rfl rfl rfl rfl (bnd_int ha0) (by omega) (by omega) (.inr rfl)) (ev_slice sessR (p := 0) (xs := xs) (l := 0) (h := a.toNat) rfl rfl rfl rfl rfl rfl rfl (bnd_int ha0) (by omega) (by omega) (.inr rfl)) ?_)))))))))))
    refine dq_op tab rfl rfl rfl rfl (dq_op tab rfl rfl rfl rfl (do_op [0] rfl rfl (opr_tail sessR (p := 0) (xs := xs) (l := b.toNat) tab rfl rfl rfl rfl rfl rfl rfl (bnd_int (by omega)) (by rw [hbl]; rfl) (by omega)) ?_))
    refine do_op [0, 1] rfl rfl (opr_in tab rfl rfl rfl (appIn_rows sessR (ys := []) rfl rfl rfl rfl (news_emp rfl rfl) rfl rfl (by omega))) ?_
    refine dq_op tab rfl rfl rfl rfl (vd_nil (by kernel_rfl) ?_)
    refine qth (wsq (wrg (vQ4 tab rfl rfl rfl rfl (vq_op tab rfl rfl rfl (ev_slice sessR (p := 0) (l := a.toNat - 0 + 0) (h := xs.length) rfl rfl rfl rfl rfl rfl (bnd_nat _) (bnd_nat _) (by omega) (by simp <;> omega) (.inl (by omega))) ?_))))
    refine vs_op tab rfl rfl (ev_clear sessR ⟨0, 0, 0, 0⟩ (p := 0 + (a.toNat - 0 + 0)) (m := xs.length - (a.toNat - 0 + 0)) rfl rfl rfl rfl rfl rfl rfl (by simp <;> omega)) ?_
    refine vnl (qth (wsq (wrg (vQ2 tab rfl rfl (vnl (qth (vw_ret ?_)))))))
    exact out_mk [] (.inr rfl) ⟨rfl, rfl⟩ rfl (rel_slice (sigma_own (a := 0) (by simp [ownNames]) rfl) (by omega)) (op_cut (sigma_own (a := 0) (by simp [ownNames]) rfl) rfl rfl (ow_front sessR (by rw [her, hdn]; simp; rfl)) rfl op_nil) ⟨fun _ => by simp [lkp], trivial⟩
section
variable {V : Heap} {n : Nat} {cf : ConfV} {ev : EventV} {s : StV}
abbrev parts8 (cf : ConfV) (ev : EventV) (s : StV) : List VObj := [turnO 1 3 4 5 6 2 s, confO cf, evtO ev, .opn (userR.cells s.users) 76 9, .opn (sessR.cells s.sess) 78 4, .opn (addrR.cells s.addrs) 80 3, .opn ((intR .i64).cells s.spent) 3 1, .cells [.pointer (some ⟨0, 0, none⟩)] 61 (0, 0)]
theorem closes1_tri (y : SessV) (h : ∀ (a : Nat) (o : VObj), (parts8 cf ev s)[a]? = some o → V a = some o) :
    Tri Tryz.prog 74 [.agg (sessR.f y).toArray, .pointer (some ⟨7, 0, none⟩)] n 0 V (fun u L => u = .bool (y.session == ev.session) ∧ L = []) := by
  have h0 := h 0 _ rfl
  have h1 := h 1 _ rfl
  have h2 := h 2 _ rfl
  have h3 := h 3 _ rfl
  have h4 := h 4 _ rfl
  have h5 := h 5 _ rfl
  have h6 := h 6 _ rfl
  have h7 := h 7 _ rfl
  refine reads_of_vw (K := 8) (argsI := [sessV y, .pointer (some ⟨0, 0, none⟩)]) tab Tryz.func74 rfl rfl (by simp [Tryz.f74]) [.own 7, .own 0, .own 1, .own 2, .own 3, .own 4, .own 5, .own 6] [.cells [.pointer (some ⟨1, 0, none⟩)] 61 (0, 0), turnO 2 4 5 6 7 3 s, confO cf, evtO ev, .opn (userR.cells s.users) 76 9, .opn (sessR.cells s.sess) 78 4, .opn (addrR.cells s.addrs) 80 3, .opn ((intR .i64).cells s.spent) 3 1] rfl (.own h7 (.cells _ _ (lrel_cons (rel_ptr rfl) lrel_nil)) (.own h0 (ov_turn rfl (rel_ptr rfl) (rel_slice rfl rfl) (rel_slice rfl rfl) (rel_slice rfl rfl) (rel_slice rfl rfl) (rel_ptr rfl)) (.own h1 (ov_conf rfl) (.own h2 (ov_evt rfl) (.own h3 (ov_opn userR rfl) (.own h4 (ov_opn sessR rfl) (.own h5 (ov_opn addrR rfl) (.own h6 (ov_opn (intR .i64) rfl) .nil)))))))) (by simp [ownNames, *]) (by simp [ownNames, lookNames, *]) (al_cons (.val (sessRel y)) (al_cons (.val (rel_ptr rfl)) al_nil)) (seen_of (sn_own (sn_own (sn_own (sn_own (sn_own (sn_own (sn_own (sn_own sn_nil))))))))) (.bool _) ?_
  refine wsq (wrg (vN tab rfl (vQ tab rfl (vnl (qth (wsq (vw_draw mixed (dq_op tab rfl rfl rfl rfl (dq_op tab rfl rfl rfl rfl (dq_op tab rfl rfl rfl rfl (dq_op tab rfl rfl rfl rfl (dq_op tab rfl rfl rfl rfl (dq_op tab rfl rfl rfl rfl (dq_op tab rfl rfl rfl rfl (dq_op tab rfl rfl rfl rfl (dq_op tab rfl rfl rfl rfl (dq_op tab rfl rfl rfl rfl (dq_op tab rfl rfl rfl rfl (vd_nil (by kernel_rfl) ?_)))))))))))))))))))
  refine qth (vw_ret ?_)
  exact ⟨⟨.inr rfl, rfl⟩, fun _ => rfl, fun _ => rfl, fun _ => rfl, fun _ => rfl, fun _ => rfl, fun _ => rfl, fun _ => rfl, fun _ => rfl, trivial⟩
theorem user2_tri (y : UserV) (h : ∀ (a : Nat) (o : VObj), (parts8 cf ev s)[a]? = some o → V a = some o) :
    Tri Tryz.prog 70 [.agg (userR.f y).toArray, .pointer (some ⟨7, 0, none⟩)] n 0 V (fun u L => u = .bool (decide (ev.user < y.user)) ∧ L = []) := by
  have h0 := h 0 _ rfl
  have h1 := h 1 _ rfl
  have h2 := h 2 _ rfl
  have h3 := h 3 _ rfl
  have h4 := h 4 _ rfl
  have h5 := h 5 _ rfl
  have h6 := h 6 _ rfl
  have h7 := h 7 _ rfl
  refine reads_of_vw (K := 8) (argsI := [userV y, .pointer (some ⟨0, 0, none⟩)]) tab Tryz.func70 rfl rfl (by simp [Tryz.f70]) [.own 7, .own 0, .own 1, .own 2, .own 3, .own 4, .own 5, .own 6] [.cells [.pointer (some ⟨1, 0, none⟩)] 61 (0, 0), turnO 2 4 5 6 7 3 s, confO cf, evtO ev, .opn (userR.cells s.users) 76 9, .opn (sessR.cells s.sess) 78 4, .opn (addrR.cells s.addrs) 80 3, .opn ((intR .i64).cells s.spent) 3 1] rfl (.own h7 (.cells _ _ (lrel_cons (rel_ptr rfl) lrel_nil)) (.own h0 (ov_turn rfl (rel_ptr rfl) (rel_slice rfl rfl) (rel_slice rfl rfl) (rel_slice rfl rfl) (rel_slice rfl rfl) (rel_ptr rfl)) (.own h1 (ov_conf rfl) (.own h2 (ov_evt rfl) (.own h3 (ov_opn userR rfl) (.own h4 (ov_opn sessR rfl) (.own h5 (ov_opn addrR rfl) (.own h6 (ov_opn (intR .i64) rfl) .nil)))))))) (by simp [ownNames, *]) (by simp [ownNames, lookNames, *]) (al_cons (.val (userRel y)) (al_cons (.val (rel_ptr rfl)) al_nil)) (seen_of (sn_own (sn_own (sn_own (sn_own (sn_own (sn_own (sn_own (sn_own sn_nil))))))))) (.bool _) ?_
  refine wsq (wrg (vN tab rfl (vQ tab rfl (vnl (qth (wsq (vw_draw mixed (dq_op tab rfl rfl rfl rfl (dq_op tab rfl rfl rfl rfl (dq_op tab rfl rfl rfl rfl (dq_op tab rfl rfl rfl rfl (dq_op tab rfl rfl rfl rfl (dq_op tab rfl rfl rfl rfl (dq_op tab rfl rfl rfl rfl (dq_op tab rfl rfl rfl rfl (dq_op tab rfl rfl rfl rfl (dq_op tab rfl rfl rfl rfl (dq_op tab rfl rfl rfl rfl (vd_nil (by kernel_rfl) ?_)))))))))))))))))))
  refine qth (vw_ret ?_)
  exact ⟨⟨.inr rfl, rfl⟩, fun _ => rfl, fun _ => rfl, fun _ => rfl, fun _ => rfl, fun _ => rfl, fun _ => rfl, fun _ => rfl, fun _ => rfl, trivial⟩
end
theorem insert_end {V : Heap} {n i : Nat} {us : List UserV} {sv : Value} {a : UserV} (hV : V i = some (.opn (userR.cells us) 76 9)) (hl : Looks V 9 sv (userR.cells [a]) 1) (hs : ∀ j ∈ lookNames [Src.look sv 1 9], ¬ j = i) (hb : us.length * 72 ≤ 140737488355000) (hin : i < n) :
    Tri Tryz.prog 71 [.slice (some ⟨i, 0, none⟩) us.length 0, .int .i64 us.length, sv] n 1 V (fun u L => u = .slice (some ⟨n, 0, none⟩) (us ++ [a]).length 0 ∧ L = [(i, none), (n, some (.opn (userR.cells (us ++ [a])) 76 9))]) := by
  refine call_of_vw (K := 2) (argsI := [.slice (some ⟨0, 0, none⟩) us.length 0, .int .i64 us.length, .slice (some ⟨1, 0, none⟩) ([a]).length 0]) tab Tryz.func71 rfl rfl (by simp [Tryz.f71]) [.own i, .look sv ([a]).length 9] [.opn (userR.cells us) 76 9, .win (userR.cells ([a])) 9] rfl (.own hV (ov_opn userR rfl) (.look hl (userR.flat_cells ([a])) .nil)) (by simp [ownNames, *]) ((by simpa [ownNames, lookNames] using hs)) (by simp [ownNames, *]) (al_cons (.val (rel_slice rfl rfl)) (al_cons (.val (.int _ _)) (al_cons (.look (a := 1) rfl) al_nil))) (seen_of (sn_own (sn_look (seen_top (j := 2) rfl) sn_nil))) ?_
  have he : ((us.length : Int) == (us.length : Int)) = true := by simp
  refine wsq (wrg (vQ tab rfl (vnl (qth (wsq (wrg (vQ2 tab rfl rfl (vo_op rfl rfl rfl (opr_tail userR (p := 0) (xs := us) (l := us.length) tab rfl rfl rfl rfl rfl rfl rfl (bnd_nat _) rfl (by omega)) ?_))))))))
  refine vnl (qth (wsq (wrg (vQ3 tab rfl rfl rfl (vnl (qth (wsq (wsq (wrg (vQ2 tab rfl rfl (vnl (qth (vc_false rfl (vw_skip (qth (wsq (wrg (vQ2 tab rfl rfl (vQ tab rfl ?_)))))))))))))))))))
  refine vnl (qth (wsq (wsq (wrg (vQ3 tab rfl rfl rfl (vnl (qth (vcd_true rfl (by simp only [he, sl_]; first | done | omega) ?_))))))))
  refine wsq (wrg (vQ2 tab rfl rfl (vo_op rfl rfl rfl (opr_ev tab (ev_app userR (xs := us) (ys := [a]) (m := 1) rfl rfl rfl rfl rfl rfl (news_all userR rfl rfl) rfl rfl (by show (_ + 1) * 72 ≤ _; omega) (by omega))) ?_)))
  refine vQ tab rfl (vnl (qth (vw_ret (q_thenr ?_))))
  exact out_mk [3] (.inr rfl) ⟨rfl, rfl⟩ rfl (rel_slice (sigma_at (i := 0) (by simp [ownNames, *]) rfl) (by simp)) (op_drop (op_cons (sigma_at (i := 0) (by simp [ownNames, *]) rfl) rfl rfl (ov_opn userR rfl) rfl op_nil)) (told_of (by simp [ownNames]))
end Go.Proofs.YtcjfidfealifhaaGreat
namespace Go.Proofs.YtcjfidfealifhaaGreat
open Go Vm IntWalk
set_option linter.unusedVariables false
set_option linter.unusedSimpArgs false
set_option maxHeartbeats 16000000
theorem sess_found {xs : List SessV} {k : Int} {j : Nat} (h : sessAt xs k = some j) : j < xs.length ∧ findI (fun a : SessV => a.session == k) xs = j := by
  unfold sessAt at h
  refine ⟨?_, by unfold findI; rw [h]⟩
  rw [List.findIdx?_eq_some_iff_getElem] at h
  exact h.1
theorem sess_absent {xs : List SessV} {k : Int} (h : sessAt xs k = none) : findI (fun a : SessV => a.session == k) xs = -1 := by unfold sessAt at h; unfold findI; rw [h]
section
variable {V : Heap} {n t c e u x a p : Nat} {cf : ConfV} {ev : EventV} {s : StV}
theorem closes_none (h : TurnAt V t c e u x a p cf ev s) (hi : ∀ i ∈ [t, c, e, u, x, a, p], i < n) (hb1 : s.users.length * 72 ≤ 140737488355328) (hb2 : s.sess.length * 32 ≤ 140737488355328) (hb3 : s.addrs.length * 24 ≤ 140737488355328) (hk : sessAt s.sess ev.session = none) :
    Tri Tryz.prog 51 [.pointer (some ⟨t, 0, none⟩)] n 0 V (fun r L => r = .bool false ∧ L = turnN t c e u x a p) := by
  obtain ⟨ht, hc, he, hu, hx, ha, hp, hn⟩ := h
  simp only [List.nodup_cons, List.mem_cons, List.not_mem_nil, or_false, not_or, List.nodup_nil, and_true, not_false_eq_true] at hn
  obtain ⟨⟨d1, d2, d3, d4, d5, d6⟩, ⟨e1, e2, e3, e4, e5⟩, ⟨f1, f2, f3, f4⟩, ⟨g1, g2, g3⟩, ⟨i1, i2⟩, j1⟩ := hn
  simp only [List.mem_cons, List.not_mem_nil, or_false, forall_eq_or_imp, forall_eq] at hi
  obtain ⟨l1, l2, l3, l4, l5, l6, l7⟩ := hi
  refine call_of_vw (K := 7) (argsI := [.pointer (some ⟨0, 0, none⟩)]) tab Tryz.func51 rfl rfl (by simp [Tryz.f51]) [.own t, .own c, .own e, .own u, .own x, .own a, .own p] [turnO 1 3 4 5 6 2 s, confO cf, evtO ev, .opn (userR.cells s.users) 76 9, .opn (sessR.cells s.sess) 78 4, .opn (addrR.cells s.addrs) 80 3, .opn ((intR .i64).cells s.spent) 3 1] rfl (.own ht (ov_turn rfl (rel_ptr rfl) (rel_slice rfl rfl) (rel_slice rfl rfl) (rel_slice rfl rfl) (rel_slice rfl rfl) (rel_ptr rfl)) (.own hc (ov_conf rfl) (.own he (ov_evt rfl) (.own hu (ov_opn userR rfl) (.own hx (ov_opn sessR rfl) (.own ha (ov_opn addrR rfl) (.own hp (ov_opn (intR .i64) rfl) .nil))))))) (by simp [ownNames, *]) (by simp [ownNames, lookNames, *]) (by simp [ownNames, *]) (al_cons (.val (rel_ptr rfl)) al_nil) (seen_of (sn_own (sn_own (sn_own (sn_own (sn_own (sn_own (sn_own sn_nil)))))))) ?_
  have hfi := sess_absent hk
  refine wsq (wrg (vN tab rfl (vQ tab rfl (vnl (qth (wsq (wrg (vQ4 tab rfl rfl rfl rfl (vQ2 tab rfl rfl (vR rfl callable_73 (indexown_sess (caps := [.pointer (some ⟨7, 0, none⟩)]) [.pointer (some ⟨7, 0, none⟩)] (fun y => y.session == ev.session) (-1) hfi [0, 1, 2, 3, 4, 5, 6, 7] (parts8 cf ev s) 4 4 rfl rfl (by omega) (.own rfl (ov_turn rfl (rel_ptr rfl) (rel_slice rfl rfl) (rel_slice rfl rfl) (rel_slice rfl rfl) (rel_slice rfl rfl) (rel_ptr rfl)) (.own rfl (ov_conf rfl) (.own rfl (ov_evt rfl) (.own rfl (ov_opn userR rfl) (.own rfl (ov_opn sessR rfl) (.own rfl (ov_opn addrR rfl) (.own rfl (ov_opn (intR .i64) rfl) (.own rfl (.cells _ _ (lrel_cons (rel_ptr rfl) lrel_nil)) .nil)))))))) (by decide) (lrel_cons (rel_ptr rfl) lrel_nil) callable_74 (fun _ _ h y _ => closes1_tri y h)) ?_))))))))))
  refine vQ tab rfl (vnl (qth (wsq (wsq (vw_draw mixed (dq_op tab rfl rfl rfl rfl (dq_op tab rfl rfl rfl rfl (dq_op tab rfl rfl rfl rfl (dk_op ⟨_, _, rfl, rfl, rfl⟩ rfl (dk_op ⟨_, _, rfl, rfl, rfl⟩ rfl (dk_op ⟨_, _, rfl, rfl, rfl⟩ rfl (dk_op ⟨_, _, rfl, rfl, rfl⟩ rfl (dk_op ⟨_, _, rfl, rfl, rfl⟩ rfl (dk_op ⟨_, _, rfl, rfl, rfl⟩ rfl (dk_op ⟨_, _, rfl, rfl, rfl⟩ rfl (dk_op ⟨_, _, rfl, rfl, rfl⟩ rfl (dk_op ⟨_, _, rfl, rfl, rfl⟩ rfl (dk_op ⟨_, _, rfl, rfl, rfl⟩ rfl (dk_op ⟨_, _, rfl, rfl, rfl⟩ rfl (dk_op ⟨_, _, rfl, rfl, rfl⟩ rfl (dk_op ⟨_, _, rfl, rfl, rfl⟩ rfl (dk_op ⟨_, _, rfl, rfl, rfl⟩ rfl (dk_op ⟨_, _, rfl, rfl, rfl⟩ rfl ?_)))))))))))))))))))))))
  refine dk_op ⟨_, _, rfl, rfl, rfl⟩ rfl (dk_op ⟨_, _, rfl, rfl, rfl⟩ rfl (dk_op ⟨_, _, rfl, rfl, rfl⟩ rfl (dk_op ⟨_, _, rfl, rfl, rfl⟩ rfl (dq_op tab rfl rfl rfl rfl (vd_nil (by kernel_rfl) ?_)))))
  refine qth (vc_true rfl (wsq (wrg (vQ tab rfl (vnl (qth (vw_ret (q_thenr ?_))))))))
  exact out_mk [] (.inr rfl) ⟨rfl, rfl⟩ rfl (.bool _) (op_drop (op_drop (op_drop (op_drop (op_drop (op_drop (op_drop op_nil))))))) (told_of (by simp [ownNames, turnN]))
theorem closes_bad {j : Nat} {y : SessV} (h : TurnAt V t c e u x a p cf ev s) (hi : ∀ i ∈ [t, c, e, u, x, a, p], i < n) (hb1 : s.users.length * 72 ≤ 140737488355328) (hb2 : s.sess.length * 32 ≤ 140737488355328) (hb3 : s.addrs.length * 24 ≤ 140737488355328) (hk : sessAt s.sess ev.session = some j) (hy : s.sess[j]? = some y) (hf : freeC s.addrs y.address ev.tick = false) :
    Tri Tryz.prog 51 [.pointer (some ⟨t, 0, none⟩)] n 0 V (fun r L => r = .bool false ∧ L = turnN t c e u x a p) := by
  obtain ⟨ht, hc, he, hu, hx, ha, hp, hn⟩ := h
  simp only [List.nodup_cons, List.mem_cons, List.not_mem_nil, or_false, not_or, List.nodup_nil, and_true, not_false_eq_true] at hn
  obtain ⟨⟨d1, d2, d3, d4, d5, d6⟩, ⟨e1, e2, e3, e4, e5⟩, ⟨f1, f2, f3, f4⟩, ⟨g1, g2, g3⟩, ⟨i1, i2⟩, j1⟩ := hn
  simp only [List.mem_cons, List.not_mem_nil, or_false, forall_eq_or_imp, forall_eq] at hi
  obtain ⟨l1, l2, l3, l4, l5, l6, l7⟩ := hi
  refine call_of_vw (K := 7) (argsI := [.pointer (some ⟨0, 0, none⟩)]) tab Tryz.func51 rfl rfl (by simp [Tryz.f51]) [.own t, .own c, .own e, .own u, .own x, .own a, .own p] [turnO 1 3 4 5 6 2 s, confO cf, evtO ev, .opn (userR.cells s.users) 76 9, .opn (sessR.cells s.sess) 78 4, .opn (addrR.cells s.addrs) 80 3, .opn ((intR .i64).cells s.spent) 3 1] rfl (.own ht (ov_turn rfl (rel_ptr rfl) (rel_slice rfl rfl) (rel_slice rfl rfl) (rel_slice rfl rfl) (rel_slice rfl rfl) (rel_ptr rfl)) (.own hc (ov_conf rfl) (.own he (ov_evt rfl) (.own hu (ov_opn userR rfl) (.own hx (ov_opn sessR rfl) (.own ha (ov_opn addrR rfl) (.own hp (ov_opn (intR .i64) rfl) .nil))))))) (by simp [ownNames, *]) (by simp [ownNames, lookNames, *]) (by simp [ownNames, *]) (al_cons (.val (rel_ptr rfl)) al_nil) (seen_of (sn_own (sn_own (sn_own (sn_own (sn_own (sn_own (sn_own sn_nil)))))))) ?_
  obtain ⟨hjl, hfi⟩ := sess_found hk
  refine wsq (wrg (vN tab rfl (vQ tab rfl (vnl (qth (wsq (wrg (vQ4 tab rfl rfl rfl rfl (vQ2 tab rfl rfl (vR rfl callable_73 (indexown_sess (caps := [.pointer (some ⟨7, 0, none⟩)]) [.pointer (some ⟨7, 0, none⟩)] (fun y => y.session == ev.session) (j : Int) hfi [0, 1, 2, 3, 4, 5, 6, 7] (parts8 cf ev s) 4 4 rfl rfl (by omega) (.own rfl (ov_turn rfl (rel_ptr rfl) (rel_slice rfl rfl) (rel_slice rfl rfl) (rel_slice rfl rfl) (rel_slice rfl rfl) (rel_ptr rfl)) (.own rfl (ov_conf rfl) (.own rfl (ov_evt rfl) (.own rfl (ov_opn userR rfl) (.own rfl (ov_opn sessR rfl) (.own rfl (ov_opn addrR rfl) (.own rfl (ov_opn (intR .i64) rfl) (.own rfl (.cells _ _ (lrel_cons (rel_ptr rfl) lrel_nil)) .nil)))))))) (by decide) (lrel_cons (rel_ptr rfl) lrel_nil) callable_74 (fun _ _ h y _ => closes1_tri y h)) ?_))))))))))
  refine vQ tab rfl (vnl (qth (wsq (wsq (vw_draw mixed (dq_op tab rfl rfl rfl rfl (dq_op tab rfl rfl rfl rfl (dq_op tab rfl rfl rfl rfl (dq_op tab ⟨_, _, rfl, rfl, rfl⟩ rfl rfl rfl (dq_op tab ⟨_, _, rfl, rfl, rfl⟩ rfl rfl rfl (dq_op tab ⟨_, _, rfl, rfl, rfl⟩ rfl rfl rfl (dq_op tab ⟨_, _, rfl, rfl, rfl⟩ rfl rfl rfl (dq_op tab ⟨_, _, rfl, rfl, rfl⟩ rfl rfl rfl (dq_op tab ⟨_, _, rfl, rfl, rfl⟩ rfl rfl rfl (dq_op tab ⟨_, _, rfl, rfl, rfl⟩ rfl rfl rfl (dq_op tab ⟨_, _, rfl, rfl, rfl⟩ rfl (ev_index rfl rfl rfl rfl rfl (by first | exact Int.natCast_nonneg _ | exact Int.ofNat_lt.mpr hjl) (by first | exact Int.natCast_nonneg _ | exact Int.ofNat_lt.mpr hjl)) (ev_index rfl rfl rfl rfl rfl (by first | exact Int.natCast_nonneg _ | exact Int.ofNat_lt.mpr hjl) (by first | exact Int.natCast_nonneg _ | exact Int.ofNat_lt.mpr hjl)) ?_))))))))))))))))
  refine dq_op tab ⟨_, _, rfl, rfl, rfl⟩ rfl rfl rfl (dq_op tab ⟨_, _, rfl, rfl, rfl⟩ rfl (ev_loadcell sessR rfl rfl rfl rfl rfl hy rfl) (ev_loadcell sessR rfl rfl rfl rfl rfl hy rfl) (dq_op tab ⟨_, _, rfl, rfl, rfl⟩ rfl rfl rfl (dq_op tab ⟨_, _, rfl, rfl, rfl⟩ rfl rfl rfl (dq_op tab ⟨_, _, rfl, rfl, rfl⟩ rfl rfl rfl (dq_op tab ⟨_, _, rfl, rfl, rfl⟩ rfl rfl rfl (dq_op tab ⟨_, _, rfl, rfl, rfl⟩ rfl rfl rfl (dq_op tab ⟨_, _, rfl, rfl, rfl⟩ rfl rfl rfl (dq_op tab ⟨_, _, rfl, rfl, rfl⟩ rfl rfl rfl (dt_op [0, 1, 2, 3, 4, 5, 6] ⟨_, _, rfl, rfl, rfl⟩ rfl rfl rfl rfl callable_67 (free_no (s := s) (cf := cf) (ev := ev) ⟨rfl, rfl, rfl, rfl, rfl, rfl, rfl, by decide⟩ (by decide) hb3 hf) ?_)))))))))
  refine dq_op tab ⟨_, _, rfl, rfl, rfl⟩ rfl rfl rfl (dq_op tab rfl rfl rfl rfl (vd_nil (by kernel_rfl) ?_))
  refine qth (vc_true rfl (wsq (wrg (vQ tab rfl (vnl (qth (vw_ret (q_thenr ?_))))))))
  exact out_mk [] (.inr rfl) ⟨rfl, rfl⟩ rfl (.bool _) (op_drop (op_drop (op_drop (op_drop (op_drop (op_drop (op_drop op_nil))))))) (told_of (by simp [ownNames, turnN]))
theorem closes_alone {j : Nat} {y : SessV} (h : TurnAt V t c e u x a p cf ev s) (hi : ∀ i ∈ [t, c, e, u, x, a, p], i < n) (hb1 : s.users.length * 72 ≤ 140737488355328) (hb2 : s.sess.length * 32 ≤ 140737488355328) (hb3 : s.addrs.length * 24 ≤ 140737488355328) (hk : sessAt s.sess ev.session = some j) (hy : s.sess[j]? = some y) (hf : freeC s.addrs y.address ev.tick = true) (hu1 : userAt s.users y.user = none) :
    Tri Tryz.prog 51 [.pointer (some ⟨t, 0, none⟩)] n 4 V (fun r L => r = .bool true ∧ L = turnL t c e u x a p n { s with addrs := (freeA s.addrs y.address ev.tick).1, users := s.users, sess := s.sess.eraseIdx j }) := by
  obtain ⟨ht, hc, he, hu, hx, ha, hp, hn⟩ := h
  simp only [List.nodup_cons, List.mem_cons, List.not_mem_nil, or_false, not_or, List.nodup_nil, and_true, not_false_eq_true] at hn
  obtain ⟨⟨d1, d2, d3, d4, d5, d6⟩, ⟨e1, e2, e3, e4, e5⟩, ⟨f1, f2, f3, f4⟩, ⟨g1, g2, g3⟩, ⟨i1, i2⟩, j1⟩ := hn
  simp only [List.mem_cons, List.not_mem_nil, or_false, forall_eq_or_imp, forall_eq] at hi
  obtain ⟨l1, l2, l3, l4, l5, l6, l7⟩ := hi
  refine call_of_vw (K := 7) (argsI := [.pointer (some ⟨0, 0, none⟩)]) tab Tryz.func51 rfl rfl (by simp [Tryz.f51]) [.own t, .own c, .own e, .own u, .own x, .own a, .own p] [turnO 1 3 4 5 6 2 s, confO cf, evtO ev, .opn (userR.cells s.users) 76 9, .opn (sessR.cells s.sess) 78 4, .opn (addrR.cells s.addrs) 80 3, .opn ((intR .i64).cells s.spent) 3 1] rfl (.own ht (ov_turn rfl (rel_ptr rfl) (rel_slice rfl rfl) (rel_slice rfl rfl) (rel_slice rfl rfl) (rel_slice rfl rfl) (rel_ptr rfl)) (.own hc (ov_conf rfl) (.own he (ov_evt rfl) (.own hu (ov_opn userR rfl) (.own hx (ov_opn sessR rfl) (.own ha (ov_opn addrR rfl) (.own hp (ov_opn (intR .i64) rfl) .nil))))))) (by simp [ownNames, *]) (by simp [ownNames, lookNames, *]) (by simp [ownNames, *]) (al_cons (.val (rel_ptr rfl)) al_nil) (seen_of (sn_own (sn_own (sn_own (sn_own (sn_own (sn_own (sn_own sn_nil)))))))) ?_
  obtain ⟨hjl, hfi⟩ := sess_found hk
  have hw : IntKind.i64.wrap ((j : Int) + 1) = (j : Int) + 1 := i64_in _ (by omega)
  refine wsq (wrg (vN tab rfl (vQ tab rfl (vnl (qth (wsq (wrg (vQ4 tab rfl rfl rfl rfl (vQ2 tab rfl rfl (vR rfl callable_73 (indexown_sess (caps := [.pointer (some ⟨7, 0, none⟩)]) [.pointer (some ⟨7, 0, none⟩)] (fun y => y.session == ev.session) (j : Int) hfi [0, 1, 2, 3, 4, 5, 6, 7] (parts8 cf ev s) 4 4 rfl rfl (by omega) (.own rfl (ov_turn rfl (rel_ptr rfl) (rel_slice rfl rfl) (rel_slice rfl rfl) (rel_slice rfl rfl) (rel_slice rfl rfl) (rel_ptr rfl)) (.own rfl (ov_conf rfl) (.own rfl (ov_evt rfl) (.own rfl (ov_opn userR rfl) (.own rfl (ov_opn sessR rfl) (.own rfl (ov_opn addrR rfl) (.own rfl (ov_opn (intR .i64) rfl) (.own rfl (.cells _ _ (lrel_cons (rel_ptr rfl) lrel_nil)) .nil)))))))) (by decide) (lrel_cons (rel_ptr rfl) lrel_nil) callable_74 (fun _ _ h y _ => closes1_tri y h)) ?_))))))))))
  refine vQ tab rfl (vnl (qth (wsq (wsq (vw_draw mixed (dq_op tab rfl rfl rfl rfl (dq_op tab rfl rfl rfl rfl (dq_op tab rfl rfl rfl rfl (dq_op tab ⟨_, _, rfl, rfl, rfl⟩ rfl rfl rfl (dq_op tab ⟨_, _, rfl, rfl, rfl⟩ rfl rfl rfl (dq_op tab ⟨_, _, rfl, rfl, rfl⟩ rfl rfl rfl (dq_op tab ⟨_, _, rfl, rfl, rfl⟩ rfl rfl rfl (dq_op tab ⟨_, _, rfl, rfl, rfl⟩ rfl rfl rfl (dq_op tab ⟨_, _, rfl, rfl, rfl⟩ rfl rfl rfl (dq_op tab ⟨_, _, rfl, rfl, rfl⟩ rfl rfl rfl (dq_op tab ⟨_, _, rfl, rfl, rfl⟩ rfl (ev_index rfl rfl rfl rfl rfl (by first | exact Int.natCast_nonneg _ | exact Int.ofNat_lt.mpr hjl) (by first | exact Int.natCast_nonneg _ | exact Int.ofNat_lt.mpr hjl)) (ev_index rfl rfl rfl rfl rfl (by first | exact Int.natCast_nonneg _ | exact Int.ofNat_lt.mpr hjl) (by first | exact Int.natCast_nonneg _ | exact Int.ofNat_lt.mpr hjl)) ?_))))))))))))))))
  refine dq_op tab ⟨_, _, rfl, rfl, rfl⟩ rfl rfl rfl (dq_op tab ⟨_, _, rfl, rfl, rfl⟩ rfl (ev_loadcell sessR rfl rfl rfl rfl rfl hy rfl) (ev_loadcell sessR rfl rfl rfl rfl rfl hy rfl) (dq_op tab ⟨_, _, rfl, rfl, rfl⟩ rfl rfl rfl (dq_op tab ⟨_, _, rfl, rfl, rfl⟩ rfl rfl rfl (dq_op tab ⟨_, _, rfl, rfl, rfl⟩ rfl rfl rfl (dq_op tab ⟨_, _, rfl, rfl, rfl⟩ rfl rfl rfl (dq_op tab ⟨_, _, rfl, rfl, rfl⟩ rfl rfl rfl (dq_op tab ⟨_, _, rfl, rfl, rfl⟩ rfl rfl rfl (dq_op tab ⟨_, _, rfl, rfl, rfl⟩ rfl rfl rfl (dt_op [0, 1, 2, 3, 4, 5, 6] ⟨_, _, rfl, rfl, rfl⟩ rfl rfl rfl rfl callable_67 (free_ok (s := s) (cf := cf) (ev := ev) ⟨rfl, rfl, rfl, rfl, rfl, rfl, rfl, by decide⟩ (by decide) hb3 hf) ?_)))))))))
  refine dq_op tab ⟨_, _, rfl, rfl, rfl⟩ rfl rfl rfl (dq_op tab rfl rfl rfl rfl (vd_nil (by kernel_rfl) ?_))
  refine qth (vc_false rfl (vw_skip (qth (wsq (wsq (vw_draw mixed (dq_op tab rfl rfl rfl rfl (dq_op tab rfl rfl rfl rfl (dq_op tab rfl rfl rfl rfl (dq_op tab rfl rfl rfl rfl (dq_op tab rfl rfl rfl rfl (dq_op tab rfl rfl rfl rfl (dq_op tab rfl rfl rfl rfl (dq_op tab rfl rfl rfl rfl (dq_op tab rfl rfl rfl rfl (dq_op tab rfl rfl (ev_index rfl rfl rfl rfl rfl (by first | exact Int.natCast_nonneg _ | exact Int.ofNat_lt.mpr hjl) (by first | exact Int.natCast_nonneg _ | exact Int.ofNat_lt.mpr hjl)) (ev_index rfl rfl rfl rfl rfl (by first | exact Int.natCast_nonneg _ | exact Int.ofNat_lt.mpr hjl) (by first | exact Int.natCast_nonneg _ | exact Int.ofNat_lt.mpr hjl)) ?_))))))))))))))))
  refine dq_op tab rfl rfl rfl rfl (dq_op tab rfl rfl (ev_loadcell sessR rfl rfl rfl rfl rfl hy rfl) (ev_loadcell sessR rfl rfl rfl rfl rfl hy rfl) (dt_op [0, 1, 2, 3, 4, 8, 6] rfl rfl rfl rfl rfl callable_55 (usr_no (s := { s with addrs := (freeA s.addrs y.address ev.tick).1 }) (cf := cf) (ev := ev) hu1 ⟨rfl, rfl, rfl, rfl, rfl, rfl, rfl, by decide⟩ hb1) (dq_op tab rfl rfl rfl rfl (vd_nil (by kernel_rfl) ?_))))
  refine qth (wsq (wrg (vQ2 tab rfl rfl (vnl (qth (vc_false rfl (vw_skip (qth (wsq (vw_draw mixed (dq_op tab rfl rfl rfl rfl (dq_op tab rfl rfl rfl rfl (dq_op tab rfl rfl rfl rfl (dq_op tab rfl rfl rfl rfl (dq_op tab rfl rfl rfl rfl (dq_op tab rfl rfl rfl rfl (dq_op tab rfl rfl rfl rfl (dq_op tab rfl rfl rfl rfl (dq_op tab rfl rfl rfl rfl (dt_op [4] rfl rfl rfl rfl rfl callable_75 (delete_sess (xs := s.sess) rfl (by omega) (by omega) hw (by omega) (by decide)) ?_))))))))))))))))))))
  refine dq_op tab rfl rfl rfl rfl (dq_op tab rfl rfl rfl rfl (dq_op tab rfl rfl rfl rfl (ds_op tab rfl rfl rfl rfl (vd_nil (by kernel_rfl) ?_))))
  refine qth (wsq (wrg (vQ tab rfl (vnl (qth (vw_ret ?_))))))
  exact out_mk [3, 4, 8, 6] (.inr rfl) ⟨rfl, rfl⟩ rfl (.bool _)
    (op_cons (sigma_own (a := 0) (by simp [ownNames, *]) rfl) rfl rfl (ov_turn2 (rel_ptr (sigma_own (a := 1) (by simp [ownNames, *]) rfl)) (rel_slice (sigma_at (i := 0) (by simp [ownNames, *]) rfl) rfl) (rel_slice (sigma_at (i := 1) (by simp [ownNames, *]) rfl) (by simp [List.length_eraseIdx, hjl])) (rel_slice (sigma_at (i := 2) (by simp [ownNames, *]) rfl) rfl) (rel_slice (sigma_at (i := 3) (by simp [ownNames, *]) rfl) rfl) (rel_ptr (sigma_own (a := 2) (by simp [ownNames, *]) rfl))) rfl
      (op_drop (op_drop (op_drop (op_drop (op_drop (op_drop
        (op_cons (sigma_at (i := 0) (by simp [ownNames, *]) rfl) rfl rfl (ov_opn userR rfl) rfl (op_cons (sigma_at (i := 1) (by simp [ownNames, *]) rfl) rfl rfl (ov_opn sessR rfl) rfl (op_cons (sigma_at (i := 2) (by simp [ownNames, *]) rfl) rfl rfl (ov_opn addrR rfl) rfl (op_cons (sigma_at (i := 3) (by simp [ownNames, *]) rfl) rfl rfl (ov_opn (intR .i64) rfl) rfl op_nil)))))))))))
    (told_of (by simp [ownNames, turnL]))
theorem closes_full {j : Nat} {y : SessV} (h : TurnAt V t c e u x a p cf ev s) (hi : ∀ i ∈ [t, c, e, u, x, a, p], i < n) (hb1 : s.users.length * 72 ≤ 140737488355328) (hb2 : s.sess.length * 32 ≤ 140737488355328) (hb3 : s.addrs.length * 24 ≤ 140737488355328) (hk : sessAt s.sess ev.session = some j) (hy : s.sess[j]? = some y) (hf : freeC s.addrs y.address ev.tick = true) {i : Nat} {w : UserV} (hu1 : userAt s.users y.user = some i) (hw1 : s.users[i]? = some w) (hd : decide (IntKind.i64.wrap (1073741823 - ev.a) < w.used) = true) :
    Tri Tryz.prog 51 [.pointer (some ⟨t, 0, none⟩)] n 4 V (fun r L => r = .bool true ∧ L = turnL t c e u x a p n { s with addrs := (freeA s.addrs y.address ev.tick).1, users := s.users.set i { w with used := 1073741823 }, sess := s.sess.eraseIdx j }) := by
  obtain ⟨ht, hc, he, hu, hx, ha, hp, hn⟩ := h
  simp only [List.nodup_cons, List.mem_cons, List.not_mem_nil, or_false, not_or, List.nodup_nil, and_true, not_false_eq_true] at hn
  obtain ⟨⟨d1, d2, d3, d4, d5, d6⟩, ⟨e1, e2, e3, e4, e5⟩, ⟨f1, f2, f3, f4⟩, ⟨g1, g2, g3⟩, ⟨i1, i2⟩, j1⟩ := hn
  simp only [List.mem_cons, List.not_mem_nil, or_false, forall_eq_or_imp, forall_eq] at hi
  obtain ⟨l1, l2, l3, l4, l5, l6, l7⟩ := hi
  refine call_of_vw (K := 7) (argsI := [.pointer (some ⟨0, 0, none⟩)]) tab Tryz.func51 rfl rfl (by simp [Tryz.f51]) [.own t, .own c, .own e, .own u, .own x, .own a, .own p] [turnO 1 3 4 5 6 2 s, confO cf, evtO ev, .opn (userR.cells s.users) 76 9, .opn (sessR.cells s.sess) 78 4, .opn (addrR.cells s.addrs) 80 3, .opn ((intR .i64).cells s.spent) 3 1] rfl (.own ht (ov_turn rfl (rel_ptr rfl) (rel_slice rfl rfl) (rel_slice rfl rfl) (rel_slice rfl rfl) (rel_slice rfl rfl) (rel_ptr rfl)) (.own hc (ov_conf rfl) (.own he (ov_evt rfl) (.own hu (ov_opn userR rfl) (.own hx (ov_opn sessR rfl) (.own ha (ov_opn addrR rfl) (.own hp (ov_opn (intR .i64) rfl) .nil))))))) (by simp [ownNames, *]) (by simp [ownNames, lookNames, *]) (by simp [ownNames, *]) (al_cons (.val (rel_ptr rfl)) al_nil) (seen_of (sn_own (sn_own (sn_own (sn_own (sn_own (sn_own (sn_own sn_nil)))))))) ?_
  obtain ⟨hjl, hfi⟩ := sess_found hk
  have hw : IntKind.i64.wrap ((j : Int) + 1) = (j : Int) + 1 := i64_in _ (by omega)
  refine wsq (wrg (vN tab rfl (vQ tab rfl (vnl (qth (wsq (wrg (vQ4 tab rfl rfl rfl rfl (vQ2 tab rfl rfl (vR rfl callable_73 (indexown_sess (caps := [.pointer (some ⟨7, 0, none⟩)]) [.pointer (some ⟨7, 0, none⟩)] (fun y => y.session == ev.session) (j : Int) hfi [0, 1, 2, 3, 4, 5, 6, 7] (parts8 cf ev s) 4 4 rfl rfl (by omega) (.own rfl (ov_turn rfl (rel_ptr rfl) (rel_slice rfl rfl) (rel_slice rfl rfl) (rel_slice rfl rfl) (rel_slice rfl rfl) (rel_ptr rfl)) (.own rfl (ov_conf rfl) (.own rfl (ov_evt rfl) (.own rfl (ov_opn userR rfl) (.own rfl (ov_opn sessR rfl) (.own rfl (ov_opn addrR rfl) (.own rfl (ov_opn (intR .i64) rfl) (.own rfl (.cells _ _ (lrel_cons (rel_ptr rfl) lrel_nil)) .nil)))))))) (by decide) (lrel_cons (rel_ptr rfl) lrel_nil) callable_74 (fun _ _ h y _ => closes1_tri y h)) ?_))))))))))
  refine vQ tab rfl (vnl (qth (wsq (wsq (vw_draw mixed (dq_op tab rfl rfl rfl rfl (dq_op tab rfl rfl rfl rfl (dq_op tab rfl rfl rfl rfl (dq_op tab ⟨_, _, rfl, rfl, rfl⟩ rfl rfl rfl (dq_op tab ⟨_, _, rfl, rfl, rfl⟩ rfl rfl rfl (dq_op tab ⟨_, _, rfl, rfl, rfl⟩ rfl rfl rfl (dq_op tab ⟨_, _, rfl, rfl, rfl⟩ rfl rfl rfl (dq_op tab ⟨_, _, rfl, rfl, rfl⟩ rfl rfl rfl (dq_op tab ⟨_, _, rfl, rfl, rfl⟩ rfl rfl rfl (dq_op tab ⟨_, _, rfl, rfl, rfl⟩ rfl rfl rfl (dq_op tab ⟨_, _, rfl, rfl, rfl⟩ rfl (ev_index rfl rfl rfl rfl rfl (by first | exact Int.natCast_nonneg _ | exact Int.ofNat_lt.mpr hjl) (by first | exact Int.natCast_nonneg _ | exact Int.ofNat_lt.mpr hjl)) (ev_index rfl rfl rfl rfl rfl (by first | exact Int.natCast_nonneg _ | exact Int.ofNat_lt.mpr hjl) (by first | exact Int.natCast_nonneg _ | exact Int.ofNat_lt.mpr hjl)) ?_))))))))))))))))
  refine dq_op tab ⟨_, _, rfl, rfl, rfl⟩ rfl rfl rfl (dq_op tab ⟨_, _, rfl, rfl, rfl⟩ rfl (ev_loadcell sessR rfl rfl rfl rfl rfl hy rfl) (ev_loadcell sessR rfl rfl rfl rfl rfl hy rfl) (dq_op tab ⟨_, _, rfl, rfl, rfl⟩ rfl rfl rfl (dq_op tab ⟨_, _, rfl, rfl, rfl⟩ rfl rfl rfl (dq_op tab ⟨_, _, rfl, rfl, rfl⟩ rfl rfl rfl (dq_op tab ⟨_, _, rfl, rfl, rfl⟩ rfl rfl rfl (dq_op tab ⟨_, _, rfl, rfl, rfl⟩ rfl rfl rfl (dq_op tab ⟨_, _, rfl, rfl, rfl⟩ rfl rfl rfl (dq_op tab ⟨_, _, rfl, rfl, rfl⟩ rfl rfl rfl (dt_op [0, 1, 2, 3, 4, 5, 6] ⟨_, _, rfl, rfl, rfl⟩ rfl rfl rfl rfl callable_67 (free_ok (s := s) (cf := cf) (ev := ev) ⟨rfl, rfl, rfl, rfl, rfl, rfl, rfl, by decide⟩ (by decide) hb3 hf) ?_)))))))))
  refine dq_op tab ⟨_, _, rfl, rfl, rfl⟩ rfl rfl rfl (dq_op tab rfl rfl rfl rfl (vd_nil (by kernel_rfl) ?_))
  refine qth (vc_false rfl (vw_skip (qth (wsq (wsq (vw_draw mixed (dq_op tab rfl rfl rfl rfl (dq_op tab rfl rfl rfl rfl (dq_op tab rfl rfl rfl rfl (dq_op tab rfl rfl rfl rfl (dq_op tab rfl rfl rfl rfl (dq_op tab rfl rfl rfl rfl (dq_op tab rfl rfl rfl rfl (dq_op tab rfl rfl rfl rfl (dq_op tab rfl rfl rfl rfl (dq_op tab rfl rfl (ev_index rfl rfl rfl rfl rfl (by first | exact Int.natCast_nonneg _ | exact Int.ofNat_lt.mpr hjl) (by first | exact Int.natCast_nonneg _ | exact Int.ofNat_lt.mpr hjl)) (ev_index rfl rfl rfl rfl rfl (by first | exact Int.natCast_nonneg _ | exact Int.ofNat_lt.mpr hjl) (by first | exact Int.natCast_nonneg _ | exact Int.ofNat_lt.mpr hjl)) ?_))))))))))))))))
  refine dq_op tab rfl rfl rfl rfl (dq_op tab rfl rfl (ev_loadcell sessR rfl rfl rfl rfl rfl hy rfl) (ev_loadcell sessR rfl rfl rfl rfl rfl hy rfl) (dt_op [0, 1, 2, 3, 4, 8, 6] rfl rfl rfl rfl rfl callable_55 (usr_ok (s := { s with addrs := (freeA s.addrs y.address ev.tick).1 }) (cf := cf) (ev := ev) hu1 ⟨rfl, rfl, rfl, rfl, rfl, rfl, rfl, by decide⟩ hb1) (dq_op tab rfl rfl rfl rfl (vd_nil (by kernel_rfl) ?_))))
  refine qth (wsq (wrg (vQ2 tab rfl rfl (vnl (qth (vc_true rfl (wsq (vw_draw mixed (dq_op tab rfl rfl rfl rfl (dq_op tab rfl rfl rfl rfl (dq_op tab rfl rfl rfl rfl (dq_op tab rfl rfl (ev_loadcell userR rfl rfl rfl rfl rfl hw1 rfl) (ev_loadcell userR rfl rfl rfl rfl rfl hw1 rfl) (dq_op tab rfl rfl rfl rfl (dq_op tab rfl rfl rfl rfl (dq_op tab rfl rfl rfl rfl (dq_op tab rfl rfl rfl rfl (dq_op tab rfl rfl rfl rfl (dq_op tab rfl rfl rfl rfl (dq_op tab rfl rfl rfl rfl (dq_op tab rfl rfl rfl rfl (dq_op tab rfl rfl rfl rfl (vd_nil (by kernel_rfl) ?_))))))))))))))))))))))
  refine qth (vcd_true rfl (by simp only [hd, sl_]; first | done | omega) ?_)
  refine wrg (vQ3 tab rfl rfl rfl (vs_op tab rfl rfl (ev_storecell userR rfl rfl rfl rfl rfl rfl hw1 (a' := { w with used := 1073741823 }) rfl rfl (by decide)) ?_))
  refine vnl (qth (wsq (vw_draw mixed (dq_op tab rfl rfl rfl rfl (dq_op tab rfl rfl rfl rfl (dq_op tab rfl rfl rfl rfl (dq_op tab rfl rfl rfl rfl (dq_op tab rfl rfl rfl rfl (dq_op tab rfl rfl rfl rfl (dq_op tab rfl rfl rfl rfl (dq_op tab rfl rfl rfl rfl (dq_op tab rfl rfl rfl rfl (dt_op [4] rfl rfl rfl rfl rfl callable_75 (delete_sess (xs := s.sess) rfl (by omega) (by omega) hw (by omega) (by decide)) ?_)))))))))))))
  refine dq_op tab rfl rfl rfl rfl (dq_op tab rfl rfl rfl rfl (dq_op tab rfl rfl rfl rfl (ds_op tab rfl rfl rfl rfl (vd_nil (by kernel_rfl) ?_))))
  refine qth (wsq (wrg (vQ tab rfl (vnl (qth (vw_ret ?_))))))
  exact out_mk [3, 4, 8, 6] (.inr rfl) ⟨rfl, rfl⟩ rfl (.bool _)
    (op_cons (sigma_own (a := 0) (by simp [ownNames, *]) rfl) rfl rfl (ov_turn2 (rel_ptr (sigma_own (a := 1) (by simp [ownNames, *]) rfl)) (rel_slice (sigma_at (i := 0) (by simp [ownNames, *]) rfl) (by simp)) (rel_slice (sigma_at (i := 1) (by simp [ownNames, *]) rfl) (by simp [List.length_eraseIdx, hjl])) (rel_slice (sigma_at (i := 2) (by simp [ownNames, *]) rfl) rfl) (rel_slice (sigma_at (i := 3) (by simp [ownNames, *]) rfl) rfl) (rel_ptr (sigma_own (a := 2) (by simp [ownNames, *]) rfl))) rfl
      (op_drop (op_drop (op_drop (op_drop (op_drop (op_drop
        (op_cons (sigma_at (i := 0) (by simp [ownNames, *]) rfl) rfl rfl (ov_opn userR rfl) rfl (op_cons (sigma_at (i := 1) (by simp [ownNames, *]) rfl) rfl rfl (ov_opn sessR rfl) rfl (op_cons (sigma_at (i := 2) (by simp [ownNames, *]) rfl) rfl rfl (ov_opn addrR rfl) rfl (op_cons (sigma_at (i := 3) (by simp [ownNames, *]) rfl) rfl rfl (ov_opn (intR .i64) rfl) rfl op_nil)))))))))))
    (told_of (by simp [ownNames, turnL]))
theorem closes_more {j : Nat} {y : SessV} (h : TurnAt V t c e u x a p cf ev s) (hi : ∀ i ∈ [t, c, e, u, x, a, p], i < n) (hb1 : s.users.length * 72 ≤ 140737488355328) (hb2 : s.sess.length * 32 ≤ 140737488355328) (hb3 : s.addrs.length * 24 ≤ 140737488355328) (hk : sessAt s.sess ev.session = some j) (hy : s.sess[j]? = some y) (hf : freeC s.addrs y.address ev.tick = true) {i : Nat} {w : UserV} (hu1 : userAt s.users y.user = some i) (hw1 : s.users[i]? = some w) (hd : decide (IntKind.i64.wrap (1073741823 - ev.a) < w.used) = false) :
    Tri Tryz.prog 51 [.pointer (some ⟨t, 0, none⟩)] n 4 V (fun r L => r = .bool true ∧ L = turnL t c e u x a p n { s with addrs := (freeA s.addrs y.address ev.tick).1, users := s.users.set i { w with used := IntKind.i64.wrap (w.used + ev.a) }, sess := s.sess.eraseIdx j }) := by
  obtain ⟨ht, hc, he, hu, hx, ha, hp, hn⟩ := h
  simp only [List.nodup_cons, List.mem_cons, List.not_mem_nil, or_false, not_or, List.nodup_nil, and_true, not_false_eq_true] at hn
  obtain ⟨⟨d1, d2, d3, d4, d5, d6⟩, ⟨e1, e2, e3, e4, e5⟩, ⟨f1, f2, f3, f4⟩, ⟨g1, g2, g3⟩, ⟨i1, i2⟩, j1⟩ := hn
  simp only [List.mem_cons, List.not_mem_nil, or_false, forall_eq_or_imp, forall_eq] at hi
  obtain ⟨l1, l2, l3, l4, l5, l6, l7⟩ := hi
  refine call_of_vw (K := 7) (argsI := [.pointer (some ⟨0, 0, none⟩)]) tab Tryz.func51 rfl rfl (by simp [Tryz.f51]) [.own t, .own c, .own e, .own u, .own x, .own a, .own p] [turnO 1 3 4 5 6 2 s, confO cf, evtO ev, .opn (userR.cells s.users) 76 9, .opn (sessR.cells s.sess) 78 4, .opn (addrR.cells s.addrs) 80 3, .opn ((intR .i64).cells s.spent) 3 1] rfl (.own ht (ov_turn rfl (rel_ptr rfl) (rel_slice rfl rfl) (rel_slice rfl rfl) (rel_slice rfl rfl) (rel_slice rfl rfl) (rel_ptr rfl)) (.own hc (ov_conf rfl) (.own he (ov_evt rfl) (.own hu (ov_opn userR rfl) (.own hx (ov_opn sessR rfl) (.own ha (ov_opn addrR rfl) (.own hp (ov_opn (intR .i64) rfl) .nil))))))) (by simp [ownNames, *]) (by simp [ownNames, lookNames, *]) (by simp [ownNames, *]) (al_cons (.val (rel_ptr rfl)) al_nil) (seen_of (sn_own (sn_own (sn_own (sn_own (sn_own (sn_own (sn_own sn_nil)))))))) ?_
  obtain ⟨hjl, hfi⟩ := sess_found hk
  have hw : IntKind.i64.wrap ((j : Int) + 1) = (j : Int) + 1 := i64_in _ (by omega)
  refine wsq (wrg (vN tab rfl (vQ tab rfl (vnl (qth (wsq (wrg (vQ4 tab rfl rfl rfl rfl (vQ2 tab rfl rfl (vR rfl callable_73 (indexown_sess (caps := [.pointer (some ⟨7, 0, none⟩)]) [.pointer (some ⟨7, 0, none⟩)] (fun y => y.session == ev.session) (j : Int) hfi [0, 1, 2, 3, 4, 5, 6, 7] (parts8 cf ev s) 4 4 rfl rfl (by omega) (.own rfl (ov_turn rfl (rel_ptr rfl) (rel_slice rfl rfl) (rel_slice rfl rfl) (rel_slice rfl rfl) (rel_slice rfl rfl) (rel_ptr rfl)) (.own rfl (ov_conf rfl) (.own rfl (ov_evt rfl) (.own rfl (ov_opn userR rfl) (.own rfl (ov_opn sessR rfl) (.own rfl (ov_opn addrR rfl) (.own rfl (ov_opn (intR .i64) rfl) (.own rfl (.cells _ _ (lrel_cons (rel_ptr rfl) lrel_nil)) .nil)))))))) (by decide) (lrel_cons (rel_ptr rfl) lrel_nil) callable_74 (fun _ _ h y _ => closes1_tri y h)) ?_))))))))))
  refine vQ tab rfl (vnl (qth (wsq (wsq (vw_draw mixed (dq_op tab rfl rfl rfl rfl (dq_op tab rfl rfl rfl rfl (dq_op tab rfl rfl rfl rfl (dq_op tab ⟨_, _, rfl, rfl, rfl⟩ rfl rfl rfl (dq_op tab ⟨_, _, rfl, rfl, rfl⟩ rfl rfl rfl (dq_op tab ⟨_, _, rfl, rfl, rfl⟩ rfl rfl rfl (dq_op tab ⟨_, _, rfl, rfl, rfl⟩ rfl rfl rfl (dq_op tab ⟨_, _, rfl, rfl, rfl⟩ rfl rfl rfl (dq_op tab ⟨_, _, rfl, rfl, rfl⟩ rfl rfl rfl (dq_op tab ⟨_, _, rfl, rfl, rfl⟩ rfl rfl rfl (dq_op tab ⟨_, _, rfl, rfl, rfl⟩ rfl (ev_index rfl rfl rfl rfl rfl (by first | exact Int.natCast_nonneg _ | exact Int.ofNat_lt.mpr hjl) (by first | exact Int.natCast_nonneg _ | exact Int.ofNat_lt.mpr hjl)) (ev_index rfl rfl rfl rfl rfl (by first | exact Int.natCast_nonneg _ | exact Int.ofNat_lt.mpr hjl) (by first | exact Int.natCast_nonneg _ | exact Int.ofNat_lt.mpr hjl)) ?_))))))))))))))))
  refine dq_op tab ⟨_, _, rfl, rfl, rfl⟩ rfl rfl rfl (dq_op tab ⟨_, _, rfl, rfl, rfl⟩ rfl (ev_loadcell sessR rfl rfl rfl rfl rfl hy rfl) (ev_loadcell sessR rfl rfl rfl rfl rfl hy rfl) (dq_op tab ⟨_, _, rfl, rfl, rfl⟩ rfl rfl rfl (dq_op tab ⟨_, _, rfl, rfl, rfl⟩ rfl rfl rfl (dq_op tab ⟨_, _, rfl, rfl, rfl⟩ rfl rfl rfl (dq_op tab ⟨_, _, rfl, rfl, rfl⟩ rfl rfl rfl (dq_op tab ⟨_, _, rfl, rfl, rfl⟩ rfl rfl rfl (dq_op tab ⟨_, _, rfl, rfl, rfl⟩ rfl rfl rfl (dq_op tab ⟨_, _, rfl, rfl, rfl⟩ rfl rfl rfl (dt_op [0, 1, 2, 3, 4, 5, 6] ⟨_, _, rfl, rfl, rfl⟩ rfl rfl rfl rfl callable_67 (free_ok (s := s) (cf := cf) (ev := ev) ⟨rfl, rfl, rfl, rfl, rfl, rfl, rfl, by decide⟩ (by decide) hb3 hf) ?_)))))))))
  refine dq_op tab ⟨_, _, rfl, rfl, rfl⟩ rfl rfl rfl (dq_op tab rfl rfl rfl rfl (vd_nil (by kernel_rfl) ?_))
  refine qth (vc_false rfl (vw_skip (qth (wsq (wsq (vw_draw mixed (dq_op tab rfl rfl rfl rfl (dq_op tab rfl rfl rfl rfl (dq_op tab rfl rfl rfl rfl (dq_op tab rfl rfl rfl rfl (dq_op tab rfl rfl rfl rfl (dq_op tab rfl rfl rfl rfl (dq_op tab rfl rfl rfl rfl (dq_op tab rfl rfl rfl rfl (dq_op tab rfl rfl rfl rfl (dq_op tab rfl rfl (ev_index rfl rfl rfl rfl rfl (by first | exact Int.natCast_nonneg _ | exact Int.ofNat_lt.mpr hjl) (by first | exact Int.natCast_nonneg _ | exact Int.ofNat_lt.mpr hjl)) (ev_index rfl rfl rfl rfl rfl (by first | exact Int.natCast_nonneg _ | exact Int.ofNat_lt.mpr hjl) (by first | exact Int.natCast_nonneg _ | exact Int.ofNat_lt.mpr hjl)) ?_))))))))))))))))
  refine dq_op tab rfl rfl rfl rfl (dq_op tab rfl rfl (ev_loadcell sessR rfl rfl rfl rfl rfl hy rfl) (ev_loadcell sessR rfl rfl rfl rfl rfl hy rfl) (dt_op [0, 1, 2, 3, 4, 8, 6] rfl rfl rfl rfl rfl callable_55 (usr_ok (s := { s with addrs := (freeA s.addrs y.address ev.tick).1 }) (cf := cf) (ev := ev) hu1 ⟨rfl, rfl, rfl, rfl, rfl, rfl, rfl, by decide⟩ hb1) (dq_op tab rfl rfl rfl rfl (vd_nil (by kernel_rfl) ?_))))
  refine qth (wsq (wrg (vQ2 tab rfl rfl (vnl (qth (vc_true rfl (wsq (vw_draw mixed (dq_op tab rfl rfl rfl rfl (dq_op tab rfl rfl rfl rfl (dq_op tab rfl rfl rfl rfl (dq_op tab rfl rfl (ev_loadcell userR rfl rfl rfl rfl rfl hw1 rfl) (ev_loadcell userR rfl rfl rfl rfl rfl hw1 rfl) (dq_op tab rfl rfl rfl rfl (dq_op tab rfl rfl rfl rfl (dq_op tab rfl rfl rfl rfl (dq_op tab rfl rfl rfl rfl (dq_op tab rfl rfl rfl rfl (dq_op tab rfl rfl rfl rfl (dq_op tab rfl rfl rfl rfl (dq_op tab rfl rfl rfl rfl (dq_op tab rfl rfl rfl rfl (vd_nil (by kernel_rfl) ?_))))))))))))))))))))))
  refine qth (vcd_false rfl (by simp only [hd, sl_]; first | done | omega) ?_)
  refine vw_draw mixed (dq_op tab rfl rfl rfl rfl (dq_op tab rfl rfl rfl rfl (dq_op tab rfl rfl rfl rfl (dq_op tab rfl rfl (ev_loadcell userR rfl rfl rfl rfl rfl hw1 rfl) (ev_loadcell userR rfl rfl rfl rfl rfl hw1 rfl) (dq_op tab rfl rfl rfl rfl (dq_op tab rfl rfl rfl rfl (dq_op tab rfl rfl rfl rfl (dq_op tab rfl rfl rfl rfl (dq_op tab rfl rfl rfl rfl (dq_op tab rfl rfl rfl rfl (dq_op tab rfl rfl rfl rfl (dq_op tab rfl rfl rfl rfl (dq_op tab rfl rfl rfl rfl (dq_op tab rfl rfl rfl rfl (ds_op tab rfl rfl (ev_storecell userR rfl rfl rfl rfl rfl rfl hw1 (a' := { w with used := IntKind.i64.wrap (w.used + ev.a) }) rfl rfl (by decide)) (ev_storecell userR rfl rfl rfl rfl rfl rfl hw1 (a' := { w with used := IntKind.i64.wrap (w.used + ev.a) }) rfl rfl (by decide)) ?_)))))))))))))))
  refine vd_nil (by kernel_rfl) ?_
  refine qth (wsq (vw_draw mixed (dq_op tab rfl rfl rfl rfl (dq_op tab rfl rfl rfl rfl (dq_op tab rfl rfl rfl rfl (dq_op tab rfl rfl rfl rfl (dq_op tab rfl rfl rfl rfl (dq_op tab rfl rfl rfl rfl (dq_op tab rfl rfl rfl rfl (dq_op tab rfl rfl rfl rfl (dq_op tab rfl rfl rfl rfl (dt_op [4] rfl rfl rfl rfl rfl callable_75 (delete_sess (xs := s.sess) rfl (by omega) (by omega) hw (by omega) (by decide)) ?_))))))))))))
  refine dq_op tab rfl rfl rfl rfl (dq_op tab rfl rfl rfl rfl (dq_op tab rfl rfl rfl rfl (ds_op tab rfl rfl rfl rfl (vd_nil (by kernel_rfl) ?_))))
  refine qth (wsq (wrg (vQ tab rfl (vnl (qth (vw_ret ?_))))))
  exact out_mk [3, 4, 8, 6] (.inr rfl) ⟨rfl, rfl⟩ rfl (.bool _)
    (op_cons (sigma_own (a := 0) (by simp [ownNames, *]) rfl) rfl rfl (ov_turn2 (rel_ptr (sigma_own (a := 1) (by simp [ownNames, *]) rfl)) (rel_slice (sigma_at (i := 0) (by simp [ownNames, *]) rfl) (by simp)) (rel_slice (sigma_at (i := 1) (by simp [ownNames, *]) rfl) (by simp [List.length_eraseIdx, hjl])) (rel_slice (sigma_at (i := 2) (by simp [ownNames, *]) rfl) rfl) (rel_slice (sigma_at (i := 3) (by simp [ownNames, *]) rfl) rfl) (rel_ptr (sigma_own (a := 2) (by simp [ownNames, *]) rfl))) rfl
      (op_drop (op_drop (op_drop (op_drop (op_drop (op_drop
        (op_cons (sigma_at (i := 0) (by simp [ownNames, *]) rfl) rfl rfl (ov_opn userR rfl) rfl (op_cons (sigma_at (i := 1) (by simp [ownNames, *]) rfl) rfl rfl (ov_opn sessR rfl) rfl (op_cons (sigma_at (i := 2) (by simp [ownNames, *]) rfl) rfl rfl (ov_opn addrR rfl) rfl (op_cons (sigma_at (i := 3) (by simp [ownNames, *]) rfl) rfl rfl (ov_opn (intR .i64) rfl) rfl op_nil)))))))))))
    (told_of (by simp [ownNames, turnL]))
theorem closes_ok {s' : StV} (h : TurnAt V t c e u x a p cf ev s) (hi : ∀ i ∈ [t, c, e, u, x, a, p], i < n) (hb1 : s.users.length * 72 ≤ 140737488355328) (hb2 : s.sess.length * 32 ≤ 140737488355328) (hb3 : s.addrs.length * 24 ≤ 140737488355328) (hE : closeE s ev = some s') :
    Tri Tryz.prog 51 [.pointer (some ⟨t, 0, none⟩)] n 4 V (fun r L => r = .bool true ∧ L = turnL t c e u x a p n s') := by
  unfold closeE at hE
  cases hk : sessAt s.sess ev.session with
  | none => rw [hk] at hE; cases hE
  | some j =>
    rw [hk] at hE
    have hjl := (sess_found hk).1
    have hy : s.sess[j]? = some s.sess[j] := List.getElem?_eq_getElem hjl
    simp only [hy] at hE
    split at hE
    · rename_i hf
      cases hE
      unfold useU
      cases hu1 : userAt s.users s.sess[j].user with
      | none => exact closes_alone h hi hb1 hb2 hb3 hk hy hf hu1
      | some i =>
        have hil := (user_found hu1).1
        have hw1 : s.users[i]? = some s.users[i] := List.getElem?_eq_getElem hil
        simp only [hw1]
        unfold sumU
        by_cases hd : IntKind.i64.wrap (1073741823 - ev.a) < s.users[i].used
        · rw [if_pos hd]; exact closes_full h hi hb1 hb2 hb3 hk hy hf hu1 hw1 (decide_eq_true hd)
        · rw [if_neg hd]; exact closes_more h hi hb1 hb2 hb3 hk hy hf hu1 hw1 (decide_eq_false hd)
    · cases hE
theorem closes_no (h : TurnAt V t c e u x a p cf ev s) (hi : ∀ i ∈ [t, c, e, u, x, a, p], i < n) (hb1 : s.users.length * 72 ≤ 140737488355328) (hb2 : s.sess.length * 32 ≤ 140737488355328) (hb3 : s.addrs.length * 24 ≤ 140737488355328) (hE : closeE s ev = none) :
    Tri Tryz.prog 51 [.pointer (some ⟨t, 0, none⟩)] n 0 V (fun r L => r = .bool false ∧ L = turnN t c e u x a p) := by
  unfold closeE at hE
  cases hk : sessAt s.sess ev.session with
  | none => exact closes_none h hi hb1 hb2 hb3 hk
  | some j =>
    rw [hk] at hE
    have hjl := (sess_found hk).1
    have hy : s.sess[j]? = some s.sess[j] := List.getElem?_eq_getElem hjl
    simp only [hy] at hE
    split at hE
    · cases hE
    · rename_i hf
      exact closes_bad h hi hb1 hb2 hb3 hk hy (by simpa using hf)
end
end Go.Proofs.YtcjfidfealifhaaGreat
namespace Go.Proofs.YtcjfidfealifhaaGreat.Ins
open Go Go.Proofs Go.RowKit Go.Lib Go.Shelf
set_option linter.unusedVariables false
set_option linter.unusedSimpArgs false
theorem infoU : (Tryz.prog.info? 76).map (·.size) = some 9 := by kernel_rfl
theorem sizeU (w : World) : (Go.sizeOf 76).run Tryz.prog w = .ok 9 w := by kernel_rfl
theorem run_copy9 {P : Program} (w : World) (dT sT ty elem : TypeId) (b o dLen dCap : Nat) (a : Addr) (sLen sCap : Nat) (cs : List Value)
    (hu : P.underlying dT = some (.slice elem)) (hs : (P.info? elem).map (·.size) = some 9) (hn : cs.length = Nat.min sLen dLen * 9)
    (hsrc : ∀ j v, cs[j]? = some v → w.cell? (a.add j) = some v) (hc : ∀ j, j < cs.length → (w.cell? ⟨b, o + j, none⟩).isSome = true) (hf : ∀ j, j < cs.length → w.frozen? ⟨b, o + j, none⟩ = false) (h1 : ∀ v ∈ cs, v.oneCell' = true) :
    (Builtin.copy_ #[dT, sT] ty #[.slice (some ⟨b, o, none⟩) dLen dCap, .slice (some a) sLen sCap]).run P w = .ok (goInt (Nat.min sLen dLen)) (w.setCells b o cs) := by
  have hl := run_loadCells_list (P := P) w a cs hsrc
  have hst := run_storeCells_cells (P := P) b o cs 0 w (by simpa using hc) (by simpa using hf) h1
  cases hq : P.info? elem with
  | none => simp [hq] at hs
  | some i =>
    have hi : i.size = 9 := by simpa [hq] using hs
    simp [Builtin.copy_, run_underlying hu, Builtin.lenOf, Builtin.firstCells, sizeOf, typeInfo, hq, hi, ← hn, hl, hst]
set_option maxHeartbeats 8000000 in
set_option maxRecDepth 100000 in
theorem insert_shift (b off n c i vb voff m vc : Nat) (cs vs : List Value) (w : World) (hi : i < n) (hm : 0 < m) (hroom : n + m ≤ c) (hc63 : c ≤ 9223372036854775807) (hvb : vb ≠ b)
    (hcl : cs.length = n * 9) (hvl : vs.length = m * 9)
    (hcs : ∀ j v, cs[j]? = some v → w.cell? ⟨b, off + j, none⟩ = some v) (hsp : ∀ j, j < (n + m) * 9 → (w.cell? ⟨b, off + j, none⟩).isSome = true) (hfz : ∀ j, j < (n + m) * 9 → w.frozen? ⟨b, off + j, none⟩ = false)
    (hvs : ∀ j v, vs[j]? = some v → w.cell? ⟨vb, voff + j, none⟩ = some v) (h1c : ∀ v ∈ cs, v.oneCell' = true) (h1v : ∀ v ∈ vs, v.oneCell' = true)
    (tA tB : TypeId) (kA kB : Nat) (hsa : w.shape? vb = some (tA, kA)) (hsb : w.shape? b = some (tB, kB)) (hkB : kB ≠ 0) (hfa : w.frozen? ⟨vb, voff, none⟩ = false) (hfe : w.frozen? ⟨vb, kA, none⟩ = false) :
    Calls Tryz.prog 71 #[.slice (some ⟨b, off, none⟩) n c, .int .i64 i, .slice (some ⟨vb, voff, none⟩) m vc] w fun e w' =>
      e = .returned (.slice (some ⟨b, off, none⟩) (n + m) c) ∧ w' = (w.drew.setCells b (off + (i + m) * 9) (cs.drop (i * 9))).setCells b (off + i * 9) vs := by
  have u24 := run_underlying Tryz.underlying24
  have mixed : Tryz.prog.follows .mixedOrders = true := by kernel_rfl
  have hz1 : ¬ ((m : Int) = 0) := by omega
  have hz2 : ¬ ((i : Int) = (n : Int)) := by omega
  have hov : ∀ lb cb, (callFunc 87 #[.slice (some ⟨vb, voff, none⟩) m vc, .slice (some ⟨b, off + (i + m) * 9, none⟩) lb cb]).run Tryz.prog w = .ok (.value (.bool false)) w := fun lb cb => by
    rw [run_callFunc_extern Tryz.func87 (by kernel_rfl) (by kernel_rfl) (by kernel_rfl) (e := Extern.SlicesOverlaps.overlaps #[24, 24] #[4]) (by kernel_rfl),
      Lib.run_overlaps_apart w 24 4 76 Tryz.underlying24 9 sizeU ⟨vb, voff, none⟩ ⟨b, off + (i + m) * 9, none⟩ m vc lb cb hvb tA tB kA kB hsa hsb hkB hfa hfe]
    rfl
  have hdl : (cs.drop (i * 9)).length = (n - i) * 9 := by rw [List.length_drop, hcl, Nat.sub_mul]
  have hw1 : IntKind.i64.wrap ((i : Int) + (m : Int)) = (i : Int) + (m : Int) := by rw [IntKind.wrap_i64]; omega
  have hb1 : (0 : Int) ≤ (i : Int) + (m : Int) := by omega
  have hin : i ≤ n := by omega
  have htn : ((i : Int) + (m : Int)).toNat = i + m := by omega
  have hb2 : ¬ (c = i + m) := by omega
  have hb3 : (i : Int) ≤ (n : Int) + (m : Int) := by omega
  have hb4 : ¬ (c = i) := by omega
  have hcp1 : ∀ ty dc sc, (Builtin.copy_ #[24, 24] ty #[.slice (some ⟨b, off + (i + m) * 9, none⟩) (n + m - (i + m)) dc, .slice (some ⟨b, off + i * 9, none⟩) (n + m - i) sc]).run Tryz.prog w.drew = .ok (goInt (Nat.min (n + m - i) (n + m - (i + m)))) (w.drew.setCells b (off + (i + m) * 9) (cs.drop (i * 9))) := fun ty dc sc =>
    run_copy9 (P := Tryz.prog) w.drew 24 24 ty 76 b (off + (i + m) * 9) (n + m - (i + m)) dc ⟨b, off + i * 9, none⟩ (n + m - i) sc (cs.drop (i * 9)) Tryz.underlying24 infoU (by rw [hdl]; congr 1; simp only [Nat.min_def]; split <;> omega)
      (fun j v hj => by rw [Addr.add_lit, Nat.add_assoc]; exact hcs (i * 9 + j) v (by rwa [List.getElem?_drop] at hj))
      (fun j hj => by rw [Nat.add_assoc]; exact hsp _ (by rw [hdl] at hj; omega)) (fun j hj => by rw [Nat.add_assoc]; exact hfz _ (by rw [hdl] at hj; omega)) (fun v hv => h1c v (List.mem_of_mem_drop hv))
  obtain ⟨W1, hW1⟩ : ∃ W1, W1 = w.drew.setCells b (off + (i + m) * 9) (cs.drop (i * 9)) := ⟨_, rfl⟩
  have hsp1 : ∀ k, k < (n + m) * 9 → (W1.cell? ⟨b, off + k, none⟩).isSome = true := fun k hk => by
    rw [hW1]
    exact isSome_setCells b _ _ _ (fun j hj => by rw [Nat.add_assoc]; exact hsp _ (by rw [hdl] at hj; omega)) _ (hsp k hk)
  have hcp2 : ∀ (W : World), (∀ x, W.cell? x = W1.cell? x) → (∀ x, W.frozen? x = W1.frozen? x) → ∀ ty dc, (Builtin.copy_ #[24, 24] ty #[.slice (some ⟨b, off + i * 9, none⟩) (n + m - i) dc, .slice (some ⟨vb, voff, none⟩) m vc]).run Tryz.prog W = .ok (goInt (Nat.min m (n + m - i))) (W.setCells b (off + i * 9) vs) := fun W hWc hWf ty dc =>
    run_copy9 (P := Tryz.prog) W 24 24 ty 76 b (off + i * 9) (n + m - i) dc ⟨vb, voff, none⟩ m vc vs Tryz.underlying24 infoU (by rw [hvl]; congr 1; simp only [Nat.min_def]; split <;> omega)
      (fun j v hj => by
        rw [Addr.add_lit, hWc, hW1, World.cell?_setCells_out b _ _ _ _ (fun h _ => absurd h hvb)]
        exact hvs j v hj)
      (fun j hj => by rw [hWc, Nat.add_assoc]; exact hsp1 _ (by omega)) (fun j hj => by rw [hWf, hW1, World.frozen?_setCells, Nat.add_assoc]; exact hfz _ (by omega)) h1v
  rw [← hW1] at hcp1
  go_enter Tryz.func71, Tryz.ntmps71
  go_wp2_with (simp only [hov])
  go_region_law_o (refine step_copy_runI rfl _ _ 24 24 rfl _ _ (by simp [Act.eval, Act.put]) (by simp [Act.eval, Act.put]) (hcp1 _ _ _) ?_)
  go_wp2_with (at_builtin; refine wpList_copy_runI _ rfl _ _ 24 24 rfl _ _ rfl rfl (hcp2 _ (fun _ => rfl) (fun _ => rfl) _ _) ?_)
  go_ret
  first | exact ⟨rfl, rfl⟩ | exact ⟨rfl, by rw [hW1]⟩
abbrev zU : Value := .agg #[.int .i64 0, .int .i64 0, .int .i64 0, .int .i64 0, .int .i64 0, .int .i64 0, .int .i64 0, .int .i64 0, .int .i64 0]
theorem info9 : (Tryz.prog.info? 76).map (fun i => (i.zero, i.size, i.bytes)) = some (some zU, 9, 72) := by kernel_rfl
theorem zsize (k : Nat) : (Builtin.zeroCells zU.cells k).size = k * 9 := by
  have h : zU.cells.size = 9 := by decide
  unfold Builtin.zeroCells
  rw [Array.size_map, Array.size_range, h]
set_option maxHeartbeats 8000000 in
set_option maxRecDepth 100000 in
theorem insert_grow (b off n c i vb voff m vc : Nat) (cs vs : List Value) (w : World) (hi : i < n) (hm : 0 < m) (hnc : n ≤ c) (hroom : c < n + m) (hbig : (n + m) * 72 ≤ 140737488355328)
    (hcl : cs.length = n * 9) (hvl : vs.length = m * 9)
    (hcs : ∀ j v, cs[j]? = some v → w.cell? ⟨b, off + j, none⟩ = some v)
    (hvs : ∀ j v, vs[j]? = some v → w.cell? ⟨vb, voff + j, none⟩ = some v) (h1c : ∀ v ∈ cs, v.oneCell' = true) (h1v : ∀ v ∈ vs, v.oneCell' = true) :
    Calls Tryz.prog 71 #[.slice (some ⟨b, off, none⟩) n c, .int .i64 i, .slice (some ⟨vb, voff, none⟩) m vc] w fun e w' =>
      e = .returned (.slice (some ⟨w.heap.size, 0, none⟩) (n + m) (grownCap w (n + m) c 76)) ∧
      w' = (((w.alloc (.cells ((cs.take (i * 9)).toArray ++ Builtin.zeroCells zU.cells (n + m - i) ++ Builtin.zeroCells zU.cells (grownCap w (n + m) c 76 - (n + m))) 76)).drew.setCells w.heap.size (i * 9) vs).drew).setCells w.heap.size ((i + m) * 9) (cs.drop (i * 9)) := by
  have u24 := run_underlying Tryz.underlying24
  have mixed : Tryz.prog.follows .mixedOrders = true := by kernel_rfl
  obtain ⟨i0, hi0, hz0, hzs, hzb⟩ := info_parts info9
  have hz1 : ¬ ((m : Int) = 0) := by omega
  have hz2 : ¬ ((i : Int) = (n : Int)) := by omega
  have hz3 : (c : Int) < (n : Int) + (m : Int) := by omega
  have hbw : b < w.heap.size := block_lt_of_cell (hcs 0 _ (List.getElem?_eq_getElem (by omega)))
  have hvw : vb < w.heap.size := block_lt_of_cell (hvs 0 _ (List.getElem?_eq_getElem (by omega)))
  have hkk : (n : Int) + (m : Int) - (i : Int) = ((n + m - i : Nat) : Int) := by omega
  have hik : i + (n + m - i) = n + m := by omega
  have hold : (Builtin.firstCells i0.size i (.slice (some ⟨b, off, none⟩) i c)).run Tryz.prog w.drew = .ok (cs.take (i * 9)).toArray w.drew := by
    rw [hzs]
    exact run_firstCells_some w.drew 9 i ⟨b, off, none⟩ i c (cs.take (i * 9)) (by rw [List.length_take]; omega) (fun j v hj => by
      rw [Addr.add_lit]
      rw [List.getElem?_take] at hj
      split at hj
      · exact hcs j v hj
      · cases hj)
  have hrz : ∀ ty, (Builtin.append_ #[24, 3] ty #[.slice (some ⟨b, off, none⟩) i c, .int .i64 ((n : Int) + (m : Int) - (i : Int))]).run Tryz.prog w =
      .ok (.slice (some ⟨w.heap.size, 0, none⟩) (n + m) (grownCap w (n + m) c 76)) (w.drew.alloc (.cells ((cs.take (i * 9)).toArray ++ Builtin.zeroCells zU.cells (n + m - i) ++ Builtin.zeroCells zU.cells (grownCap w (n + m) c 76 - (n + m))) 76)) := fun ty => by
    have h := Lib.run_append_grow_zeros w 24 3 ty 76 i0 _ .i64 .i64 Tryz.underlying24 Tryz.underlying3 hi0 hz0 (some ⟨b, off, none⟩) i c (cs.take (i * 9)) hold (n + m - i) (by omega) (by omega) (by omega) (by omega) (by rw [hzb]; omega) (by rw [hzb, hik]; exact growslice_fits hroom hbig)
    rw [hik] at h
    rw [hkk]
    exact h
  obtain ⟨G, hG⟩ : ∃ G, G = grownCap w (n + m) c 76 := ⟨_, rfl⟩
  obtain ⟨ROW, hROW⟩ : ∃ ROW : Array Value, ROW = (cs.take (i * 9)).toArray ++ Builtin.zeroCells zU.cells (n + m - i) ++ Builtin.zeroCells zU.cells (G - (n + m)) := ⟨_, rfl⟩
  rw [← hG] at hrz ⊢
  rw [← hROW] at hrz ⊢
  have hRl : (n + m) * 9 ≤ ROW.size := by
    have h1 : (Builtin.zeroCells zU.cells (n + m - i)).size = (n + m - i) * 9 := zsize _
    rw [hROW, Array.size_append, Array.size_append, h1, List.size_toArray, List.length_take]
    omega
  obtain ⟨W1, hW1⟩ : ∃ W1, W1 = w.drew.alloc (.cells ROW 76) := ⟨_, rfl⟩
  rw [← hW1] at hrz
  have hN : ∀ j, j < (n + m) * 9 → (W1.cell? ⟨w.heap.size, j, none⟩).isSome = true := fun j hj => by
    rw [hW1, World.cell?_alloc_at (w := w.drew) ROW _ w.heap.size j rfl, Array.getElem?_eq_getElem (by omega)]; rfl
  have hNf : ∀ j, W1.frozen? ⟨w.heap.size, j, none⟩ = false := fun j => by rw [hW1]; exact World.frozen?_alloc_at (w := w.drew) ROW _ w.heap.size j rfl
  have hOb : ∀ j v, w.cell? ⟨b, j, none⟩ = some v → W1.cell? ⟨b, j, none⟩ = some v := fun j v h => by rw [hW1, World.cell?_alloc_past (w := w.drew) _ b j hbw]; exact h
  have hOv : ∀ j v, w.cell? ⟨vb, j, none⟩ = some v → W1.cell? ⟨vb, j, none⟩ = some v := fun j v h => by rw [hW1, World.cell?_alloc_past (w := w.drew) _ vb j hvw]; exact h
  have hcpA : ∀ (W : World), (∀ x, W.cell? x = W1.cell? x) → (∀ x, W.frozen? x = W1.frozen? x) → ∀ ty dc, (Builtin.copy_ #[24, 24] ty #[.slice (some ⟨w.heap.size, i * 9, none⟩) (n + m - i) dc, .slice (some ⟨vb, voff, none⟩) m vc]).run Tryz.prog W = .ok (goInt (Nat.min m (n + m - i))) (W.setCells w.heap.size (i * 9) vs) := fun W hWc hWf ty dc =>
    run_copy9 (P := Tryz.prog) W 24 24 ty 76 w.heap.size (i * 9) (n + m - i) dc ⟨vb, voff, none⟩ m vc vs Tryz.underlying24 infoU (by rw [hvl]; congr 1; simp only [Nat.min_def]; split <;> omega)
      (fun j v hj => by rw [Addr.add_lit, hWc]; exact hOv _ v (hvs j v hj))
      (fun j hj => by rw [hWc]; exact hN _ (by omega)) (fun j hj => by rw [hWf]; exact hNf _) h1v
  have hGn : n + m ≤ G := by rw [hG]; exact grownCap_ge w _ _ _
  have hG63 : G ≤ 9223372036854775807 := by
    have := grownCap_le_maxLen w (n + m) c 76 (by unfold maxLen; omega)
    rw [← hG] at this
    unfold maxLen at this
    omega
  have hGi : ¬ (G = i) := by omega
  have hGim : ¬ (G = i + m) := by omega
  have hci : ¬ (c = i) := by omega
  have hbN : b ≠ w.heap.size := by omega
  have hdl : (cs.drop (i * 9)).length = (n - i) * 9 := by rw [List.length_drop, hcl, Nat.sub_mul]
  have hcpB : ∀ (W : World), (∀ x, W.cell? x = (W1.setCells w.heap.size (i * 9) vs).cell? x) → (∀ x, W.frozen? x = (W1.setCells w.heap.size (i * 9) vs).frozen? x) → ∀ ty dc sc, (Builtin.copy_ #[24, 24] ty #[.slice (some ⟨w.heap.size, (i + m) * 9, none⟩) (n + m - (i + m)) dc, .slice (some ⟨b, off + i * 9, none⟩) (n - i) sc]).run Tryz.prog W = .ok (goInt (Nat.min (n - i) (n + m - (i + m)))) (W.setCells w.heap.size ((i + m) * 9) (cs.drop (i * 9))) := fun W hWc hWf ty dc sc =>
    run_copy9 (P := Tryz.prog) W 24 24 ty 76 w.heap.size ((i + m) * 9) (n + m - (i + m)) dc ⟨b, off + i * 9, none⟩ (n - i) sc (cs.drop (i * 9)) Tryz.underlying24 infoU (by rw [hdl]; congr 1; simp only [Nat.min_def]; split <;> omega)
      (fun j v hj => by
        rw [Addr.add_lit, hWc, World.cell?_setCells_out _ _ _ _ _ (fun h _ => absurd h hbN), Nat.add_assoc]
        exact hOb _ v (hcs (i * 9 + j) v (by rwa [List.getElem?_drop] at hj)))
      (fun j hj => by rw [hWc]; exact isSome_setCells _ _ _ _ (fun t ht => hN _ (by omega)) _ (hN _ (by omega)))
      (fun j hj => by rw [hWf, World.frozen?_setCells]; exact hNf _) (fun v hv => h1c v (List.mem_of_mem_drop hv))
  subst hW1
  have hE1 : ∀ x, ((w.alloc (.cells ROW 76)).drew).cell? x = (w.drew.alloc (.cells ROW 76)).cell? x := fun x => rfl
  have hE2 : ∀ x, ((w.alloc (.cells ROW 76)).drew).frozen? x = (w.drew.alloc (.cells ROW 76)).frozen? x := fun x => rfl
  have hF1 : ∀ x, (((w.alloc (.cells ROW 76)).drew.setCells w.heap.size (i * 9) vs).drew).cell? x = ((w.drew.alloc (.cells ROW 76)).setCells w.heap.size (i * 9) vs).cell? x := fun x => rfl
  have hF2 : ∀ x, (((w.alloc (.cells ROW 76)).drew.setCells w.heap.size (i * 9) vs).drew).frozen? x = ((w.drew.alloc (.cells ROW 76)).setCells w.heap.size (i * 9) vs).frozen? x := fun x => rfl
  have hw1 : IntKind.i64.wrap ((i : Int) + (m : Int)) = (i : Int) + (m : Int) := by rw [IntKind.wrap_i64]; omega
  have hb1 : (0 : Int) ≤ (i : Int) + (m : Int) := by omega
  have hin : i ≤ n := by omega
  have htn : ((i : Int) + (m : Int)).toNat = i + m := by omega
  have hb3 : (i : Int) ≤ (n : Int) := by omega
  clear hkk hik hold hROW hG hRl
  go_enter Tryz.func71, Tryz.ntmps71
  go_wp2_with (first
    | (at_builtin; refine Lib.wpList_append_run _ rfl _ _ _ _ rfl _ _ rfl rfl _ _ (hrz _) ?_)
    | (at_builtin; refine wpList_copy_runI _ rfl _ _ 24 24 rfl _ _ rfl rfl (hcpA _ hE1 hE2 _ _) ?_)
    | (at_builtin; refine wpList_copy_runI _ rfl _ _ 24 24 rfl _ _ rfl rfl (hcpB _ (fun _ => rfl) (fun _ => rfl) _ _ _) ?_))
  go_region_law_o (refine step_copy_runI rfl _ _ 24 24 rfl (.slice (some ⟨w.heap.size, (i + m) * 9, none⟩) (n + m - (i + m)) (G - (i + m))) (.slice (some ⟨b, off + i * 9, none⟩) (n - i) (c - i)) (by simp [Act.eval, Act.put]) (by simp [Act.eval, Act.put]) (hcpB _ hF1 hF2 3 (G - (i + m)) (c - i)) ?_)
  go_wp2
  go_ret
  exact ⟨rfl, rfl⟩
end Go.Proofs.YtcjfidfealifhaaGreat.Ins
namespace Go.Proofs.YtcjfidfealifhaaGreat.Vm
open Go
set_option linter.unusedVariables false
set_option linter.unusedSimpArgs false
theorem opn_arg {ρ : Ren} {V : Heap} {w : World} {i l sz : Nat} {c : List Value} {e : TypeId} {u : Value} (hs : Sim ρ V w) (hV : V i = some (.opn c e sz)) (hc : 0 < c.length) (hv : VRel ρ (.slice (some ⟨i, 0, none⟩) l 0) u) :
    ∃ (s : Slot) (K : Nat) (c1 c2 : List Value) (c' : Array Value) (fr : Nat × Nat), ρ i = some s ∧ s.cap = some (K, sz) ∧ s.base = 0 ∧ s.gone = false ∧ u = .slice (some ⟨s.blk, 0, none⟩) l K ∧ l ≤ K ∧ w.heap[s.blk]? = some (.cells c' e fr) ∧ LRel ρ c c1 ∧ c'.toList = c1 ++ c2 ∧ c'.size = K * sz ∧ 0 < sz ∧ ((c'.size ≤ fr.1 ∧ sz = 1) ∨ (fr.2 = 0 ∧ K ≤ 9223372036854775807)) := by
  have hvd : (VObj.opn c e sz).void = false := by
    cases c with
    | nil => cases hc
    | cons _ _ => rfl
  obtain ⟨s, o', h1, h2, h3, h4⟩ := hs.real hV hvd
  cases h4 with
  | @opn _ c1 c2 c' k _ _ hcap hb hl hcc hk hz fr hf =>
  cases hv with
  | slice hi hcp => rw [h1] at hi; cases hi; rw [hcap] at hcp; cases hcp
  | ghost hi hcp => rw [h1] at hi; cases hi; rw [gone_zero hcp] at h2; cases h2
  | hollow hi hcp => rw [h1] at hi; cases hi; rw [gone_zero hcp] at h2; cases h2
  | oslice hi hcp hz2 hee hn =>
    rename_i e0 k0 sz0 s0
    rw [h1] at hi; cases hi
    rw [hcap] at hcp; cases hcp
    obtain rfl : e0 = 0 := by rcases Nat.mul_eq_zero.1 hee with h | h <;> omega
    exact ⟨s, k, c1, c2, c', fr, h1, hcap, hb, h2, by rw [hb]; simp, by omega, h3, hl, hcc, hk, hz, hf⟩
theorem setCells_at {b : Nat} {e : TypeId} {fr : Nat × Nat} : ∀ (vs : List Value) (o : Nat) (w : World) (c' : Array Value), w.heap[b]? = some (.cells c' e fr) → o + vs.length ≤ c'.size →
    Wrote b w (w.setCells b o vs) ∧ (w.setCells b o vs).heap[b]? = some (.cells (splice c'.toList o vs).toArray e fr)
  | [], o, w, c', h, _ => ⟨.refl _ _, by rw [splice_nil]; exact h⟩
  | v :: vs, o, w, c', h, hl => by
    have hl' : o < c'.size := by simp only [List.length_cons] at hl; omega
    have hw1 : (w.setCell ⟨b, o, none⟩ v).heap[b]? = some (.cells (c'.setIfInBounds o v) e fr) := by
      show (w.heap.modify b _)[b]? = _
      rw [Array.getElem?_modify, if_pos rfl, h]; rfl
    have hwr : Wrote b w (w.setCell ⟨b, o, none⟩ v) := ⟨rfl, rfl, rfl, by simp [World.setCell], fun k hk => by
      show (w.heap.modify b _)[k]? = _
      rw [Array.getElem?_modify, if_neg (fun e => hk e.symm)]⟩
    obtain ⟨h2, h3⟩ := setCells_at vs (o + 1) _ _ hw1 (by simp only [List.length_cons] at hl; simp; omega)
    refine ⟨hwr.trans h2, ?_⟩
    show (((w.setCell ⟨b, o, none⟩ v)).setCells b (o + 1) vs).heap[b]? = _
    rw [h3, splice_cons _ _ _ _ (by simpa using hl')]
    simp
theorem thaw_end {w : World} {b K : Nat} {c' : Array Value} {e : TypeId} {fr : Nat × Nat} {sz : Nat} (h : w.heap[b]? = some (.cells c' e fr)) (hf : (c'.size ≤ fr.1 ∧ sz = 1) ∨ (fr.2 = 0 ∧ K ≤ 9223372036854775807)) (hs : sz ≠ 1) (k : Nat) : w.frozen? ⟨b, k, none⟩ = false := by
  unfold World.frozen?; rw [h]
  rcases hf with hf | hf
  · exact (hs hf.2).elim
  · simp only [Bool.and_eq_false_imp, decide_eq_true_eq, decide_eq_false_iff_not]; omega
end Go.Proofs.YtcjfidfealifhaaGreat.Vm
namespace Go.Proofs.YtcjfidfealifhaaGreat
open Go Vm IntWalk
set_option linter.unusedVariables false
set_option linter.unusedSimpArgs false
set_option maxHeartbeats 16000000
theorem put_cells {us : List UserV} {a : UserV} {k : Nat} : userR.cells (us.take k ++ a :: us.drop k) = (userR.cells us).take (k * 9) ++ (userR.cells [a] ++ (userR.cells us).drop (k * 9)) := by
  rw [show us.take k ++ a :: us.drop k = us.take k ++ ([a] ++ us.drop k) by simp, userR.append, userR.append, ← userR.take, ← userR.drop]; rfl
theorem insert_at {V : Heap} {n i j k : Nat} {us : List UserV} {a : UserV} (hV : V i = some (.opn (userR.cells us) 76 9)) (hj : V j = some (.opn (userR.cells [a]) 76 9)) (hij : ¬ j = i) (hk : k < us.length) (hb : us.length * 72 ≤ 140737488355000) :
    Tri Tryz.prog 71 [.slice (some ⟨i, 0, none⟩) us.length 0, .int .i64 k, .slice (some ⟨j, 0, none⟩) 1 0] n 1 V (fun u L => u = .slice (some ⟨n, 0, none⟩) (us.take k ++ a :: us.drop k).length 0 ∧ L = [(i, none), (n, some (.opn (userR.cells (us.take k ++ a :: us.drop k)) 76 9))]) := by
  intro ρ w args' hl hs ha
  obtain ⟨u1, u2, u3, rfl, r1, r2, r3⟩ := lrel_three ha
  cases r2
  have hplen : (us.take k ++ a :: us.drop k).length = us.length + 1 := by rw [List.length_append, List.length_cons, List.length_take, List.length_drop]; omega
  have hul : (userR.cells us).length = us.length * 9 := userR.length us
  have hal : (userR.cells [a]).length = 9 := userR.length [a]
  obtain ⟨s, K, c1, c2, c', fr, hi, hcap, hbase, hgo, rfl, hnK, hh, hlr, hcc, hck, _, hfr⟩ := opn_arg hs hV (by omega) r1
  obtain ⟨t, M, d1, d2, d', gr, hti, htcap, htbase, htgo, rfl, hmM, hth, htlr, htcc, htck, _, hgr⟩ := opn_arg hs hj (by omega) r3
  have hne : t.blk ≠ s.blk := hs.apart j i _ _ _ _ hij hj hV hti hi htgo hgo rfl
  have hn0 : ρ n = none := hl n (Nat.le_refl _) (by omega)
  have hc1 : c1.length = us.length * 9 := by rw [← hlr.1]; exact hul
  have hd1 : d1.length = 1 * 9 := by rw [← htlr.1]; exact hal
  have hcL : c'.toList.length = c'.size := Array.length_toList
  have hcl : c'.size = c1.length + c2.length := by have := congrArg List.length hcc; simpa using this
  have hdl : d'.size = d1.length + d2.length := by have := congrArg List.length htcc; simpa using this
  have h1c : ∀ v ∈ c1, v.oneCell' = true := lrel_one hlr (userR.one us)
  have h1v : ∀ v ∈ d1, v.oneCell' = true := lrel_one htlr (userR.one [a])
  have hcs : ∀ q v, c1[q]? = some v → w.cell? ⟨s.blk, 0 + q, none⟩ = some v := fun q v hq => by
    rw [cell_of w hh, ← Array.getElem?_toList, hcc, Nat.zero_add, List.getElem?_append_left (List.getElem?_eq_some_iff.1 hq).1]; exact hq
  have hvs : ∀ q v, d1[q]? = some v → w.cell? ⟨t.blk, 0 + q, none⟩ = some v := fun q v hq => by
    rw [cell_of w hth, ← Array.getElem?_toList, htcc, Nat.zero_add, List.getElem?_append_left (List.getElem?_eq_some_iff.1 hq).1]; exact hq
  have hwant : LRel ρ (userR.cells (us.take k ++ a :: us.drop k)) (c1.take (k * 9) ++ (d1 ++ c1.drop (k * 9))) := by
    rw [put_cells]; exact lrel_append (lrel_take hlr _) (lrel_append htlr (lrel_drop hlr _))
  have hdrop : (c1.drop (k * 9)).length = us.length * 9 - k * 9 := by rw [List.length_drop, hc1]
  have htake : (c1.take (k * 9)).length = k * 9 := by rw [List.length_take]; omega
  by_cases hroom : us.length + 1 ≤ K
  · have hc63 : K ≤ 9223372036854775807 := by rcases hfr with h | h <;> omega
    refine (Ins.insert_shift s.blk 0 us.length K k t.blk 0 1 M c1 d1 w hk (by omega) hroom hc63 hne hc1 hd1 hcs (fun q hq => ?_) (fun q hq => thaw_end hh hfr (by omega) _) hvs h1c h1v _ _ _ _ (by unfold World.shape?; rw [hth]) (by unfold World.shape?; rw [hh]) (by omega) (thaw_end hth hgr (by omega) _) (thaw_end hth hgr (by omega) _)).mono ?_
    · rw [cell_of w hh, Nat.zero_add, Array.getElem?_eq_getElem (by omega)]; rfl
    rintro e w' ⟨rfl, rfl⟩
    rw [Nat.zero_add, Nat.zero_add]
    obtain ⟨wr1, hp1⟩ := setCells_at (c1.drop (k * 9)) ((k + 1) * 9) w.drew c' hh (by omega)
    obtain ⟨wr2, hp2⟩ := setCells_at d1 (k * 9) _ _ hp1 (by rw [List.size_toArray, splice_length _ _ _ (by rw [hcL]; omega), hcL]; omega)
    have wr0 : Wrote s.blk w w.drew := ⟨rfl, rfl, rfl, rfl, fun _ _ => rfl⟩
    have hrow : splice (splice c'.toList ((k + 1) * 9) (c1.drop (k * 9))) (k * 9) d1 = (c1.take (k * 9) ++ (d1 ++ c1.drop (k * 9))) ++ c2.drop 9 := by
      have q1 : (c1 ++ c2).take (k * 9) = c1.take (k * 9) := List.take_append_of_le_length (by omega)
      have q2 : c'.toList.drop ((k + 1) * 9 + (c1.drop (k * 9)).length) = c2.drop 9 := by
        rw [hcc, show (k + 1) * 9 + (c1.drop (k * 9)).length = c1.length + 9 by omega, List.drop_append]
        simp
      have hA : (c'.toList.take ((k + 1) * 9)).length = (k + 1) * 9 := by rw [List.length_take, Array.length_toList]; omega
      rw [splice, splice, q2, List.append_assoc (c'.toList.take ((k + 1) * 9)), List.take_append_of_le_length (by omega), List.take_take, show min (k * 9) ((k + 1) * 9) = k * 9 by omega, hcc, q1,
        show k * 9 + d1.length = ((c1 ++ c2).take ((k + 1) * 9)).length by rw [← hcc, hA]; omega, List.drop_left]
      simp
    rw [hrow] at hp2
    have hor : ORel ρ s (.opn (userR.cells (us.take k ++ a :: us.drop k)) 76 9) (.cells ((c1.take (k * 9) ++ (d1 ++ c1.drop (k * 9))) ++ c2.drop 9).toArray 76 fr) :=
      .opn (c1 := c1.take (k * 9) ++ (d1 ++ c1.drop (k * 9))) (c2 := c2.drop 9) (k := K) 76 hcap hbase hwant (by simp) (by
        simp only [List.size_toArray, List.length_append, htake, hdrop, hd1, List.length_drop]; omega) (by omega) fr (.inr (by rcases hfr with h | h <;> omega))
    obtain ⟨s1, k1⟩ := sim_move hs hV rfl rfl hi hgo hn0 (wr0.trans (wr1.trans wr2)) hp2 hor
    refine ⟨_, _, _, extR ρ n s, ⟨rfl, rfl⟩, rfl, ?_, s1, k1, fun x hx => by simp only [extR]; rw [if_neg (by omega)]⟩
    have := VRel.oslice (ρ := extR ρ n s) (i := n) (off := 0) (n := us.length + 1) (e := 0) (k := K) (sz := 9) (s := s) (extR_self _ _ _) hcap (by omega) (by simp) (by omega)
    rw [hplen]; simpa [hbase] using this
  · refine (Ins.insert_grow s.blk 0 us.length K k t.blk 0 1 M c1 d1 w hk (by omega) hnK (by omega) (by omega) hc1 hd1 hcs hvs h1c h1v).mono ?_
    rintro e w' ⟨rfl, rfl⟩
    obtain ⟨G, hG⟩ : ∃ G, G = grownCap w (us.length + 1) K 76 := ⟨_, rfl⟩
    have hGn : us.length + 1 ≤ G := by rw [hG]; exact grownCap_ge w _ _ _
    have hG63 : G ≤ 9223372036854775807 := by rw [hG]; exact cap63 (by omega)
    rw [← hG]
    obtain ⟨Z1, hZ1⟩ : ∃ Z, Z = Builtin.zeroCells Ins.zU.cells (us.length + 1 - k) := ⟨_, rfl⟩
    obtain ⟨Z2, hZ2⟩ : ∃ Z, Z = Builtin.zeroCells Ins.zU.cells (G - (us.length + 1)) := ⟨_, rfl⟩
    have hZ1l : Z1.size = (us.length + 1 - k) * 9 := by rw [hZ1]; exact Ins.zsize _
    have hZ2l : Z2.size = (G - (us.length + 1)) * 9 := by rw [hZ2]; exact Ins.zsize _
    rw [← hZ1, ← hZ2]
    obtain ⟨ROW, hROW⟩ : ∃ ROW : Array Value, ROW = (c1.take (k * 9)).toArray ++ Z1 ++ Z2 := ⟨_, rfl⟩
    rw [← hROW]
    have hRs : ROW.size = G * 9 := by rw [hROW, Array.size_append, Array.size_append, List.size_toArray, htake, hZ1l, hZ2l]; omega
    have hRL : ROW.toList.length = ROW.size := Array.length_toList
    have h0 : (w.alloc (.cells ROW 76)).drew.heap[w.heap.size]? = some (.cells ROW 76 (0, 0)) := by
      show (w.heap.push _)[w.heap.size]? = _
      simp
    obtain ⟨wr1, hp1⟩ := setCells_at d1 (k * 9) (w.alloc (.cells ROW 76)).drew ROW h0 (by omega)
    obtain ⟨wr2, hp2⟩ := setCells_at (c1.drop (k * 9)) ((k + 1) * 9) (((w.alloc (.cells ROW 76)).drew.setCells w.heap.size (k * 9) d1).drew) _ hp1 (by rw [List.size_toArray, splice_length _ _ _ (by rw [hRL]; omega), hRL]; omega)
    have hrow : splice (splice ROW.toList (k * 9) d1) ((k + 1) * 9) (c1.drop (k * 9)) = (c1.take (k * 9) ++ (d1 ++ c1.drop (k * 9))) ++ Z2.toList := by
      have hR : ROW.toList = c1.take (k * 9) ++ (Z1.toList ++ Z2.toList) := by rw [hROW]; simp
      have hZ1t : Z1.toList.length = (us.length + 1 - k) * 9 := by rw [Array.length_toList, hZ1l]
      have a1 : ROW.toList.take (k * 9) = c1.take (k * 9) := by rw [hR, List.take_append_of_le_length (by omega), List.take_take, Nat.min_self]
      have hX : (c1.take (k * 9) ++ d1).length = (k + 1) * 9 := by rw [List.length_append]; omega
      have a2 : splice ROW.toList (k * 9) d1 = (c1.take (k * 9) ++ d1) ++ ROW.toList.drop ((k + 1) * 9) := by
        rw [splice, a1, show k * 9 + d1.length = (k + 1) * 9 by omega]
      have a3 : ((c1.take (k * 9) ++ d1) ++ ROW.toList.drop ((k + 1) * 9)).take ((k + 1) * 9) = c1.take (k * 9) ++ d1 := by rw [← hX, List.take_left]
      have a4 : ((c1.take (k * 9) ++ d1) ++ ROW.toList.drop ((k + 1) * 9)).drop ((k + 1) * 9 + (c1.drop (k * 9)).length) = Z2.toList := by
        rw [← List.drop_drop, ← hX, List.drop_left, List.drop_drop, hR, ← List.append_assoc, List.drop_append]
        have : (c1.take (k * 9) ++ Z1.toList).length = (c1.take (k * 9) ++ d1).length + (c1.drop (k * 9)).length := by rw [hX, List.length_append]; omega
        rw [← this]; simp
      rw [a2, splice, a3, a4]; simp
    rw [hrow] at hp2
    have hb0 : ∀ b, b < w.heap.size → ((((w.alloc (.cells ROW 76)).drew.setCells w.heap.size (k * 9) d1).drew).setCells w.heap.size ((k + 1) * 9) (c1.drop (k * 9))).heap[b]? = w.heap[b]? := fun b hb => by
      rw [wr2.block b (by omega)]
      show (((w.alloc (.cells ROW 76)).drew.setCells w.heap.size (k * 9) d1)).heap[b]? = _
      rw [wr1.block b (by omega)]
      show (w.heap.push _)[b]? = _
      rw [Array.getElem?_push, if_neg (by omega)]
    have hsz : w.heap.size ≤ ((((w.alloc (.cells ROW 76)).drew.setCells w.heap.size (k * 9) d1).drew).setCells w.heap.size ((k + 1) * 9) (c1.drop (k * 9))).heap.size := by
      rw [wr2.size]
      show _ ≤ ((w.alloc (.cells ROW 76)).drew.setCells w.heap.size (k * 9) d1).heap.size
      rw [wr1.size]
      show _ ≤ (w.heap.push _).size
      simp
    have hor : ORel (extR ρ n ⟨w.heap.size, some (G, 9), 0⟩) ⟨w.heap.size, some (G, 9), 0⟩ (.opn (userR.cells (us.take k ++ a :: us.drop k)) 76 9) (.cells ((c1.take (k * 9) ++ (d1 ++ c1.drop (k * 9))) ++ Z2.toList).toArray 76 (0, 0)) :=
      .opn (c1 := c1.take (k * 9) ++ (d1 ++ c1.drop (k * 9))) (c2 := Z2.toList) (k := G) 76 rfl rfl (hwant.mono (Ext.extR hn0 _)) (by simp) (by
        simp only [List.size_toArray, List.length_append, htake, hdrop, hd1, Array.length_toList, hZ2l]; omega) (by omega) (0, 0) (.inr ⟨rfl, hG63⟩)
    obtain ⟨s1, k1⟩ := sim_add hs hn0 (o := .opn (userR.cells (us.take k ++ a :: us.drop k)) 76 9) (s := ⟨w.heap.size, some (G, 9), 0⟩) (fun _ => Nat.le_refl _)
      ⟨wr2.os.trans wr1.os, wr2.tape.trans wr1.tape, wr2.output.trans wr1.output, hsz⟩ hb0 (.inr ⟨gone_pos rfl (by omega), _, hp2, hor⟩)
    have hin : i ≠ n := fun e => by rw [← e, hi] at hn0; cases hn0
    have hsub : ∀ x o, over V [(i, none), (n, some (.opn (userR.cells (us.take k ++ a :: us.drop k)) 76 9))] x = some o → upd V n (some (.opn (userR.cells (us.take k ++ a :: us.drop k)) 76 9)) x = some o := fun x o h => by
      rw [over_cons, over_cons, over_nil] at h
      simp only [upd] at h ⊢
      split at h
      · cases h
      · exact h
    refine ⟨_, _, _, _, ⟨rfl, rfl⟩, rfl, ?_, s1.sub hsub, k1.sub hsub, fun x hx => by simp only [extR]; rw [if_neg (by omega)]⟩
    have := VRel.oslice (ρ := extR ρ n ⟨w.heap.size, some (G, 9), 0⟩) (i := n) (off := 0) (n := us.length + 1) (e := 0) (k := G) (sz := 9) (s := ⟨w.heap.size, some (G, 9), 0⟩) (extR_self _ _ _) rfl (by omega) (by simp) (by omega)
    rw [hplen]; simpa using this
end Go.Proofs.YtcjfidfealifhaaGreat
namespace Go.Proofs.YtcjfidfealifhaaGreat
open Go Vm IntWalk
set_option linter.unusedVariables false
set_option linter.unusedSimpArgs false
set_option maxHeartbeats 16000000
def EndU (s : StV) (e : EventV) : Prop := ∀ y ∈ s.users, y.user ≤ e.user
theorem gt_none {us : List UserV} {u : Int} (h : ∀ y ∈ us, y.user ≤ u) : findI (fun y : UserV => decide (u < y.user)) us = -1 := by
  refine findI_none ?_
  rw [List.any_eq_false]
  intro y hy; have := h y hy; simp; omega
theorem put_end {us : List UserV} {u : UserV} (h : ∀ y ∈ us, y.user ≤ u.user) : userPut us u = us ++ [u] := by
  have hg : gtAt us u.user = us.length := by
    unfold gtAt
    rw [List.findIdx_eq_length]
    intro y hy; have := h y hy; simp; omega
  unfold userPut; rw [hg]; simp
section
variable {V : Heap} {n t c e u x a p : Nat} {cf : ConfV} {ev : EventV} {s : StV}
theorem user_no {j : Nat} (h : TurnAt V t c e u x a p cf ev s) (hi : ∀ i ∈ [t, c, e, u, x, a, p], i < n) (hb : s.users.length * 72 ≤ 140737488355000) (hk : userAt s.users ev.user = some j) :
    Tri Tryz.prog 49 [.pointer (some ⟨t, 0, none⟩)] n 0 V (fun r L => r = .bool false ∧ L = turnN t c e u x a p) := by
  obtain ⟨ht, hc, he, hu, hx, ha, hp, hn⟩ := h
  simp only [List.nodup_cons, List.mem_cons, List.not_mem_nil, or_false, not_or, List.nodup_nil, and_true, not_false_eq_true] at hn
  obtain ⟨⟨d1, d2, d3, d4, d5, d6⟩, ⟨e1, e2, e3, e4, e5⟩, ⟨f1, f2, f3, f4⟩, ⟨g1, g2, g3⟩, ⟨i1, i2⟩, j1⟩ := hn
  simp only [List.mem_cons, List.not_mem_nil, or_false, forall_eq_or_imp, forall_eq] at hi
  obtain ⟨l1, l2, l3, l4, l5, l6, l7⟩ := hi
  refine call_of_vw (K := 7) (argsI := [.pointer (some ⟨0, 0, none⟩)]) tab Tryz.func49 rfl rfl (by simp [Tryz.f49]) [.own t, .own c, .own e, .own u, .own x, .own a, .own p] [turnO 1 3 4 5 6 2 s, confO cf, evtO ev, .opn (userR.cells s.users) 76 9, .opn (sessR.cells s.sess) 78 4, .opn (addrR.cells s.addrs) 80 3, .opn ((intR .i64).cells s.spent) 3 1] rfl (.own ht (ov_turn rfl (rel_ptr rfl) (rel_slice rfl rfl) (rel_slice rfl rfl) (rel_slice rfl rfl) (rel_slice rfl rfl) (rel_ptr rfl)) (.own hc (ov_conf rfl) (.own he (ov_evt rfl) (.own hu (ov_opn userR rfl) (.own hx (ov_opn sessR rfl) (.own ha (ov_opn addrR rfl) (.own hp (ov_opn (intR .i64) rfl) .nil))))))) (by simp [ownNames, *]) (by simp [ownNames, lookNames, *]) (by simp [ownNames, *]) (al_cons (.val (rel_ptr rfl)) al_nil) (seen_of (sn_own (sn_own (sn_own (sn_own (sn_own (sn_own (sn_own sn_nil)))))))) ?_
  refine wsq (wrg (vN tab rfl (vQ tab rfl (vnl (qth (wsq (wsq (vw_draw mixed (dq_op tab rfl rfl rfl rfl (dq_op tab rfl rfl rfl rfl (dq_op tab rfl rfl rfl rfl (dq_op tab rfl rfl rfl rfl (dq_op tab rfl rfl rfl rfl (dq_op tab rfl rfl rfl rfl (dq_op tab rfl rfl rfl rfl (dq_op tab rfl rfl rfl rfl (dq_op tab rfl rfl rfl rfl (dq_op tab rfl rfl rfl rfl (dt_op [0, 1, 2, 3, 4, 5, 6] rfl rfl rfl rfl rfl callable_55 (usr_ok (s := s) (cf := cf) (ev := ev) hk ⟨rfl, rfl, rfl, rfl, rfl, rfl, rfl, by decide⟩ (by omega)) ?_)))))))))))))))))))
  refine dq_op tab rfl rfl rfl rfl (vd_nil (by kernel_rfl) ?_)
  refine qth (vc_true rfl (wsq (wrg (vQ tab rfl (vnl (qth (vw_ret (q_thenr ?_))))))))
  exact out_mk [] (.inr rfl) ⟨rfl, rfl⟩ rfl (.bool _) (op_drop (op_drop (op_drop (op_drop (op_drop (op_drop (op_drop op_nil))))))) (told_of (by simp [ownNames, turnN]))
theorem user_end (h : TurnAt V t c e u x a p cf ev s) (hi : ∀ i ∈ [t, c, e, u, x, a, p], i < n) (hb : s.users.length * 72 ≤ 140737488355000) (hk : userAt s.users ev.user = none) (hg : EndU s ev) :
    Tri Tryz.prog 49 [.pointer (some ⟨t, 0, none⟩)] n 4 V (fun r L => r = .bool true ∧ L = turnL t c e u x a p n { s with users := s.users ++ [⟨ev.user, ev.a, ev.b, ev.c, 0, 0, 0, 0, 0⟩] }) := by
  obtain ⟨ht, hc, he, hu, hx, ha, hp, hn⟩ := h
  simp only [List.nodup_cons, List.mem_cons, List.not_mem_nil, or_false, not_or, List.nodup_nil, and_true, not_false_eq_true] at hn
  obtain ⟨⟨d1, d2, d3, d4, d5, d6⟩, ⟨e1, e2, e3, e4, e5⟩, ⟨f1, f2, f3, f4⟩, ⟨g1, g2, g3⟩, ⟨i1, i2⟩, j1⟩ := hn
  simp only [List.mem_cons, List.not_mem_nil, or_false, forall_eq_or_imp, forall_eq] at hi
  obtain ⟨l1, l2, l3, l4, l5, l6, l7⟩ := hi
  refine call_of_vw (K := 7) (argsI := [.pointer (some ⟨0, 0, none⟩)]) tab Tryz.func49 rfl rfl (by simp [Tryz.f49]) [.own t, .own c, .own e, .own u, .own x, .own a, .own p] [turnO 1 3 4 5 6 2 s, confO cf, evtO ev, .opn (userR.cells s.users) 76 9, .opn (sessR.cells s.sess) 78 4, .opn (addrR.cells s.addrs) 80 3, .opn ((intR .i64).cells s.spent) 3 1] rfl (.own ht (ov_turn rfl (rel_ptr rfl) (rel_slice rfl rfl) (rel_slice rfl rfl) (rel_slice rfl rfl) (rel_slice rfl rfl) (rel_ptr rfl)) (.own hc (ov_conf rfl) (.own he (ov_evt rfl) (.own hu (ov_opn userR rfl) (.own hx (ov_opn sessR rfl) (.own ha (ov_opn addrR rfl) (.own hp (ov_opn (intR .i64) rfl) .nil))))))) (by simp [ownNames, *]) (by simp [ownNames, lookNames, *]) (by simp [ownNames, *]) (al_cons (.val (rel_ptr rfl)) al_nil) (seen_of (sn_own (sn_own (sn_own (sn_own (sn_own (sn_own (sn_own sn_nil)))))))) ?_
  have hfi := gt_none hg
  refine wsq (wrg (vN tab rfl (vQ tab rfl (vnl (qth (wsq (wsq (vw_draw mixed (dq_op tab rfl rfl rfl rfl (dq_op tab rfl rfl rfl rfl (dq_op tab rfl rfl rfl rfl (dq_op tab rfl rfl rfl rfl (dq_op tab rfl rfl rfl rfl (dq_op tab rfl rfl rfl rfl (dq_op tab rfl rfl rfl rfl (dq_op tab rfl rfl rfl rfl (dq_op tab rfl rfl rfl rfl (dq_op tab rfl rfl rfl rfl (dt_op [0, 1, 2, 3, 4, 5, 6] rfl rfl rfl rfl rfl callable_55 (usr_no (s := s) (cf := cf) (ev := ev) hk ⟨rfl, rfl, rfl, rfl, rfl, rfl, rfl, by decide⟩ (by omega)) ?_)))))))))))))))))))
  refine dq_op tab rfl rfl rfl rfl (vd_nil (by kernel_rfl) ?_)
  refine qth (vc_false rfl (vw_skip (qth (wsq (wrg (vQ4 tab rfl rfl rfl rfl (vQ2 tab rfl rfl (vR rfl callable_69 (indexown_users (caps := [.pointer (some ⟨7, 0, none⟩)]) [.pointer (some ⟨7, 0, none⟩)] (fun y => decide (ev.user < y.user)) (-1) hfi [0, 1, 2, 3, 4, 5, 6, 7] (parts8 cf ev s) 3 3 rfl rfl (by omega) (.own rfl (ov_turn rfl (rel_ptr rfl) (rel_slice rfl rfl) (rel_slice rfl rfl) (rel_slice rfl rfl) (rel_slice rfl rfl) (rel_ptr rfl)) (.own rfl (ov_conf rfl) (.own rfl (ov_evt rfl) (.own rfl (ov_opn userR rfl) (.own rfl (ov_opn sessR rfl) (.own rfl (ov_opn addrR rfl) (.own rfl (ov_opn (intR .i64) rfl) (.own rfl (.cells _ _ (lrel_cons (rel_ptr rfl) lrel_nil)) .nil)))))))) (by decide) (lrel_cons (rel_ptr rfl) lrel_nil) callable_70 (fun _ _ h y _ => user2_tri y h)) ?_))))))))
  refine vQ tab rfl (vnl (qth (wsq (wsq (wrg (vQ2 tab rfl rfl (vnl (qth (vc_true rfl (wrg (vQ4 tab rfl rfl rfl rfl (vQ3 tab rfl rfl rfl (vnl (qth (wsq (vw_draw mixed (dq_op tab rfl rfl rfl rfl ?_)))))))))))))))))
  refine dq_op tab rfl rfl rfl rfl (dq_op tab rfl rfl rfl rfl (dq_op tab rfl rfl rfl rfl (dq_op tab rfl rfl rfl rfl (dq_op tab rfl rfl rfl rfl (dq_op tab rfl rfl rfl rfl (dq_op tab rfl rfl rfl rfl (dq_op tab rfl rfl rfl rfl (dq_op tab rfl rfl rfl rfl (dq_op tab rfl rfl rfl rfl (dq_op tab rfl rfl rfl rfl (dq_op tab rfl rfl rfl rfl (dq_op tab rfl rfl rfl rfl (dq_op tab rfl rfl rfl rfl (dq_op tab rfl rfl rfl rfl (dq_op tab rfl rfl rfl rfl (dq_op tab rfl rfl rfl rfl (dq_op tab rfl rfl rfl rfl (dq_op tab rfl rfl rfl rfl (dq_op tab rfl rfl rfl rfl (dq_op tab rfl rfl rfl rfl (dq_op tab rfl rfl rfl rfl (dq_op tab rfl rfl rfl rfl (dq_op tab rfl rfl rfl rfl ?_)))))))))))))))))))))))
  refine dq_op tab rfl rfl rfl rfl (dq_op tab rfl rfl rfl rfl (dq_op tab rfl rfl rfl rfl (dq_op tab rfl rfl rfl rfl (dq_op tab rfl rfl rfl rfl (dq_op tab rfl rfl rfl rfl (dq_op tab rfl rfl rfl rfl (dq_op tab rfl rfl rfl rfl (dq_op tab rfl rfl rfl rfl (dq_op tab rfl rfl rfl rfl (dq_op tab rfl rfl rfl rfl (dn_op tab rfl rfl rfl rfl (dt_op [3, 8] rfl rfl rfl rfl rfl callable_71 (insert_end (us := s.users) (a := ⟨ev.user, ev.a, ev.b, ev.c, 0, 0, 0, 0, 0⟩) rfl (looks_opn userR (xs := [⟨ev.user, ev.a, ev.b, ev.c, 0, 0, 0, 0, 0⟩]) rfl rfl) (by simp [lookNames]) hb (by decide)) ?_))))))))))))
  refine dq_op tab rfl rfl rfl rfl (dq_op tab rfl rfl rfl rfl (dq_op tab rfl rfl rfl rfl (ds_op tab rfl rfl rfl rfl (vd_nil (by kernel_rfl) ?_))))
  refine qth (wsq (wrg (vQ tab rfl (vnl (qth (vw_ret ?_))))))
  exact out_mk [9, 4, 5, 6] (.inr rfl) ⟨rfl, rfl⟩ rfl (.bool _)
    (op_cons (sigma_own (a := 0) (by simp [ownNames, *]) rfl) rfl rfl (ov_turn2 (rel_ptr (sigma_own (a := 1) (by simp [ownNames, *]) rfl)) (rel_slice (sigma_at (i := 0) (by simp [ownNames, *]) rfl) rfl) (rel_slice (sigma_at (i := 1) (by simp [ownNames, *]) rfl) rfl) (rel_slice (sigma_at (i := 2) (by simp [ownNames, *]) rfl) rfl) (rel_slice (sigma_at (i := 3) (by simp [ownNames, *]) rfl) rfl) (rel_ptr (sigma_own (a := 2) (by simp [ownNames, *]) rfl))) rfl
      (op_drop (op_drop (op_drop (op_drop (op_drop (op_drop
        (op_cons (sigma_at (i := 0) (by simp [ownNames, *]) rfl) rfl rfl (ov_opn userR rfl) rfl (op_cons (sigma_at (i := 1) (by simp [ownNames, *]) rfl) rfl rfl (ov_opn sessR rfl) rfl (op_cons (sigma_at (i := 2) (by simp [ownNames, *]) rfl) rfl rfl (ov_opn addrR rfl) rfl (op_cons (sigma_at (i := 3) (by simp [ownNames, *]) rfl) rfl rfl (ov_opn (intR .i64) rfl) rfl op_nil)))))))))))
    (told_of (by simp [ownNames, turnL]))
theorem user_put (h : TurnAt V t c e u x a p cf ev s) (hi : ∀ i ∈ [t, c, e, u, x, a, p], i < n) (hb : s.users.length * 72 ≤ 140737488355000) (hk : userAt s.users ev.user = none) :
    Tri Tryz.prog 49 [.pointer (some ⟨t, 0, none⟩)] n 4 V (fun r L => r = .bool true ∧ L = turnL t c e u x a p n { s with users := userPut s.users ⟨ev.user, ev.a, ev.b, ev.c, 0, 0, 0, 0, 0⟩ }) := by
  by_cases hg : gtAt s.users ev.user < s.users.length
  case neg =>
    have hE : EndU s ev := fun y hy => by
      refine Decidable.byContradiction fun hc => hg ?_
      exact List.findIdx_lt_length_of_exists ⟨y, hy, by simp; omega⟩
    rw [put_end (u := ⟨ev.user, ev.a, ev.b, ev.c, 0, 0, 0, 0, 0⟩) hE]
    exact user_end h hi hb hk hE
  obtain ⟨k, hkk⟩ : ∃ k, gtAt s.users ev.user = k := ⟨_, rfl⟩
  rw [hkk] at hg
  have hfi : findI (fun y : UserV => decide (ev.user < y.user)) s.users = (k : Int) := by
    unfold findI
    rw [List.findIdx?_eq_some_iff_findIdx_eq.2 ⟨hg, hkk⟩]
  have hput : userPut s.users ⟨ev.user, ev.a, ev.b, ev.c, 0, 0, 0, 0, 0⟩ = s.users.take k ++ ⟨ev.user, ev.a, ev.b, ev.c, 0, 0, 0, 0, 0⟩ :: s.users.drop k := by unfold userPut; rw [hkk]
  rw [hput]
  obtain ⟨ht, hc, he, hu, hx, ha, hp, hn⟩ := h
  simp only [List.nodup_cons, List.mem_cons, List.not_mem_nil, or_false, not_or, List.nodup_nil, and_true, not_false_eq_true] at hn
  obtain ⟨⟨d1, d2, d3, d4, d5, d6⟩, ⟨e1, e2, e3, e4, e5⟩, ⟨f1, f2, f3, f4⟩, ⟨g1, g2, g3⟩, ⟨i1, i2⟩, j1⟩ := hn
  simp only [List.mem_cons, List.not_mem_nil, or_false, forall_eq_or_imp, forall_eq] at hi
  obtain ⟨l1, l2, l3, l4, l5, l6, l7⟩ := hi
  refine call_of_vw (K := 7) (argsI := [.pointer (some ⟨0, 0, none⟩)]) tab Tryz.func49 rfl rfl (by simp [Tryz.f49]) [.own t, .own c, .own e, .own u, .own x, .own a, .own p] [turnO 1 3 4 5 6 2 s, confO cf, evtO ev, .opn (userR.cells s.users) 76 9, .opn (sessR.cells s.sess) 78 4, .opn (addrR.cells s.addrs) 80 3, .opn ((intR .i64).cells s.spent) 3 1] rfl (.own ht (ov_turn rfl (rel_ptr rfl) (rel_slice rfl rfl) (rel_slice rfl rfl) (rel_slice rfl rfl) (rel_slice rfl rfl) (rel_ptr rfl)) (.own hc (ov_conf rfl) (.own he (ov_evt rfl) (.own hu (ov_opn userR rfl) (.own hx (ov_opn sessR rfl) (.own ha (ov_opn addrR rfl) (.own hp (ov_opn (intR .i64) rfl) .nil))))))) (by simp [ownNames, *]) (by simp [ownNames, lookNames, *]) (by simp [ownNames, *]) (al_cons (.val (rel_ptr rfl)) al_nil) (seen_of (sn_own (sn_own (sn_own (sn_own (sn_own (sn_own (sn_own sn_nil)))))))) ?_
  refine wsq (wrg (vN tab rfl (vQ tab rfl (vnl (qth (wsq (wsq (vw_draw mixed (dq_op tab rfl rfl rfl rfl (dq_op tab rfl rfl rfl rfl (dq_op tab rfl rfl rfl rfl (dq_op tab rfl rfl rfl rfl (dq_op tab rfl rfl rfl rfl (dq_op tab rfl rfl rfl rfl (dq_op tab rfl rfl rfl rfl (dq_op tab rfl rfl rfl rfl (dq_op tab rfl rfl rfl rfl (dq_op tab rfl rfl rfl rfl (dt_op [0, 1, 2, 3, 4, 5, 6] rfl rfl rfl rfl rfl callable_55 (usr_no (s := s) (cf := cf) (ev := ev) hk ⟨rfl, rfl, rfl, rfl, rfl, rfl, rfl, by decide⟩ (by omega)) ?_)))))))))))))))))))
  refine dq_op tab rfl rfl rfl rfl (vd_nil (by kernel_rfl) ?_)
  refine qth (vc_false rfl (vw_skip (qth (wsq (wrg (vQ4 tab rfl rfl rfl rfl (vQ2 tab rfl rfl (vR rfl callable_69 (indexown_users (caps := [.pointer (some ⟨7, 0, none⟩)]) [.pointer (some ⟨7, 0, none⟩)] (fun y => decide (ev.user < y.user)) (k : Int) hfi [0, 1, 2, 3, 4, 5, 6, 7] (parts8 cf ev s) 3 3 rfl rfl (by omega) (.own rfl (ov_turn rfl (rel_ptr rfl) (rel_slice rfl rfl) (rel_slice rfl rfl) (rel_slice rfl rfl) (rel_slice rfl rfl) (rel_ptr rfl)) (.own rfl (ov_conf rfl) (.own rfl (ov_evt rfl) (.own rfl (ov_opn userR rfl) (.own rfl (ov_opn sessR rfl) (.own rfl (ov_opn addrR rfl) (.own rfl (ov_opn (intR .i64) rfl) (.own rfl (.cells _ _ (lrel_cons (rel_ptr rfl) lrel_nil)) .nil)))))))) (by decide) (lrel_cons (rel_ptr rfl) lrel_nil) callable_70 (fun _ _ h y _ => user2_tri y h)) ?_))))))))
  refine vQ tab rfl (vnl (qth (wsq (wsq (wrg (vQ2 tab rfl rfl (vnl (qth (vc_false rfl (vw_skip (qth (wsq (vw_draw mixed (dq_op tab rfl rfl rfl rfl (dq_op tab rfl rfl rfl rfl (dq_op tab rfl rfl rfl rfl (dq_op tab rfl rfl rfl rfl (dq_op tab rfl rfl rfl rfl (dq_op tab rfl rfl rfl rfl (dq_op tab rfl rfl rfl rfl (dq_op tab rfl rfl rfl rfl (dq_op tab rfl rfl rfl rfl ?_))))))))))))))))))))))
  refine dq_op tab rfl rfl rfl rfl (dq_op tab rfl rfl rfl rfl (dq_op tab rfl rfl rfl rfl (dq_op tab rfl rfl rfl rfl (dq_op tab rfl rfl rfl rfl (dq_op tab rfl rfl rfl rfl (dq_op tab rfl rfl rfl rfl (dq_op tab rfl rfl rfl rfl (dq_op tab rfl rfl rfl rfl (dq_op tab rfl rfl rfl rfl (dq_op tab rfl rfl rfl rfl (dq_op tab rfl rfl rfl rfl (dq_op tab rfl rfl rfl rfl (dq_op tab rfl rfl rfl rfl (dq_op tab rfl rfl rfl rfl (dq_op tab rfl rfl rfl rfl (dq_op tab rfl rfl rfl rfl (dq_op tab rfl rfl rfl rfl (dq_op tab rfl rfl rfl rfl (dq_op tab rfl rfl rfl rfl (dq_op tab rfl rfl rfl rfl (dq_op tab rfl rfl rfl rfl (dq_op tab rfl rfl rfl rfl (dq_op tab rfl rfl rfl rfl ?_)))))))))))))))))))))))
  refine dq_op tab rfl rfl rfl rfl (dq_op tab rfl rfl rfl rfl (dq_op tab rfl rfl rfl rfl (dn_op tab rfl rfl rfl rfl (dt_op [3, 8] rfl rfl rfl rfl rfl callable_71 (insert_at (us := s.users) (a := ⟨ev.user, ev.a, ev.b, ev.c, 0, 0, 0, 0, 0⟩) rfl rfl (by decide) hg hb) ?_))))
  refine dq_op tab rfl rfl rfl rfl (dq_op tab rfl rfl rfl rfl (dq_op tab rfl rfl rfl rfl (ds_op tab rfl rfl rfl rfl (vd_nil (by kernel_rfl) ?_))))
  refine qth (wsq (wrg (vQ tab rfl (vnl (qth (vw_ret ?_))))))
  exact out_mk [9, 4, 5, 6] (.inr rfl) ⟨rfl, rfl⟩ rfl (.bool _)
    (op_cons (sigma_own (a := 0) (by simp [ownNames, *]) rfl) rfl rfl (ov_turn2 (rel_ptr (sigma_own (a := 1) (by simp [ownNames, *]) rfl)) (rel_slice (sigma_at (i := 0) (by simp [ownNames, *]) rfl) rfl) (rel_slice (sigma_at (i := 1) (by simp [ownNames, *]) rfl) rfl) (rel_slice (sigma_at (i := 2) (by simp [ownNames, *]) rfl) rfl) (rel_slice (sigma_at (i := 3) (by simp [ownNames, *]) rfl) rfl) (rel_ptr (sigma_own (a := 2) (by simp [ownNames, *]) rfl))) rfl
      (op_drop (op_drop (op_drop (op_drop (op_drop (op_drop
        (op_cons (sigma_at (i := 0) (by simp [ownNames, *]) rfl) rfl rfl (ov_opn userR rfl) rfl (op_cons (sigma_at (i := 1) (by simp [ownNames, *]) rfl) rfl rfl (ov_opn sessR rfl) rfl (op_cons (sigma_at (i := 2) (by simp [ownNames, *]) rfl) rfl rfl (ov_opn addrR rfl) rfl (op_cons (sigma_at (i := 3) (by simp [ownNames, *]) rfl) rfl rfl (ov_opn (intR .i64) rfl) rfl op_nil)))))))))))
    (told_of (by simp [ownNames, turnL]))
end
end Go.Proofs.YtcjfidfealifhaaGreat
namespace Go.Proofs.YtcjfidfealifhaaGreat
open Go Vm IntWalk
set_option linter.unusedVariables false
set_option linter.unusedSimpArgs false
set_option maxHeartbeats 16000000
theorem kind_split {e : EventV} (h : evtMay e = true) : e.kind = 0 ∨ e.kind = 1 ∨ e.kind = 5 ∨ e.kind = 6 ∨ e.kind = 8 ∨ e.kind = 9 ∨ (e.kind = 2 ∨ e.kind = 3 ∨ e.kind = 4 ∨ e.kind = 7) := by
  have := evt_may_kind h; omega
section
variable {V : Heap} {n t c e u x a p : Nat} {cf : ConfV} {ev : EventV} {s : StV}
theorem does_ok {s' : StV} (h : TurnAt V t c e u x a p cf ev s) (hi : ∀ i ∈ [t, c, e, u, x, a, p], i < n) (hb1 : s.users.length * 72 ≤ 140737488355000) (hb2 : s.sess.length * 32 ≤ 140737488355000) (hb3 : s.addrs.length * 24 ≤ 140737488355000) (hb4 : s.spent.length * 8 ≤ 140737488355000) (hm : evtMay ev = true) (hE : doesE cf s ev = some s') :
    Tri Tryz.prog 28 [.pointer (some ⟨t, 0, none⟩)] n 4 V (fun r L => r = .bool true ∧ L = turnL t c e u x a p n s') := by
  obtain ⟨ht, hc, he, hu, hx, ha, hp, hn⟩ := h
  simp only [List.nodup_cons, List.mem_cons, List.not_mem_nil, or_false, not_or, List.nodup_nil, and_true, not_false_eq_true] at hn
  obtain ⟨⟨d1, d2, d3, d4, d5, d6⟩, ⟨e1, e2, e3, e4, e5⟩, ⟨f1, f2, f3, f4⟩, ⟨g1, g2, g3⟩, ⟨i1, i2⟩, j1⟩ := hn
  simp only [List.mem_cons, List.not_mem_nil, or_false, forall_eq_or_imp, forall_eq] at hi
  obtain ⟨l1, l2, l3, l4, l5, l6, l7⟩ := hi
  refine call_of_vw (K := 7) (argsI := [.pointer (some ⟨0, 0, none⟩)]) tab Tryz.func28 rfl rfl (by simp [Tryz.f28]) [.own t, .own c, .own e, .own u, .own x, .own a, .own p] [turnO 1 3 4 5 6 2 s, confO cf, evtO ev, .opn (userR.cells s.users) 76 9, .opn (sessR.cells s.sess) 78 4, .opn (addrR.cells s.addrs) 80 3, .opn ((intR .i64).cells s.spent) 3 1] rfl (.own ht (ov_turn rfl (rel_ptr rfl) (rel_slice rfl rfl) (rel_slice rfl rfl) (rel_slice rfl rfl) (rel_slice rfl rfl) (rel_ptr rfl)) (.own hc (ov_conf rfl) (.own he (ov_evt rfl) (.own hu (ov_opn userR rfl) (.own hx (ov_opn sessR rfl) (.own ha (ov_opn addrR rfl) (.own hp (ov_opn (intR .i64) rfl) .nil))))))) (by simp [ownNames, *]) (by simp [ownNames, lookNames, *]) (by simp [ownNames, *]) (al_cons (.val (rel_ptr rfl)) al_nil) (seen_of (sn_own (sn_own (sn_own (sn_own (sn_own (sn_own (sn_own sn_nil)))))))) ?_
  unfold doesE at hE
  rcases kind_split hm with hk | hk | hk | hk | hk | hk | hk
  · skip
    have k0 : (ev.kind == 0) = true := by rw [hk]; rfl
    have k1 : (ev.kind == 1) = false := by rw [hk]; rfl
    have k5 : (ev.kind == 5) = false := by rw [hk]; rfl
    have k6 : (ev.kind == 6) = false := by rw [hk]; rfl
    have k8 : (ev.kind == 8) = false := by rw [hk]; rfl
    have k9 : (ev.kind == 9) = false := by rw [hk]; rfl
    simp only [hk, if_true] at hE
    unfold bootE at hE
    obtain ⟨R, hR⟩ : ∃ R, freeAll (IntKind.i64.wrap (ev.tick + cf.quarantine)) s.sess s.addrs = R := ⟨_, rfl⟩
    rw [hR] at hE
    cases R with
    | none => cases hE
    | some fin =>
    simp only at hE
    split at hE
    case isFalse => cases hE
    rename_i hg
    cases hE
    refine wsq (wrg (vQ tab rfl (vnl (qth (wsq (wsq (wrg (vQ4 tab rfl rfl rfl rfl (vQ3 tab rfl rfl rfl (vnl (qth (wbk (wsq (wrg (vQ2 tab rfl rfl (vnl (qth ?_)))))))))))))))))
    refine vcd_true rfl (by simp only [k0, k1, k5, k6, k8, k9, sl_]; first | done | omega) ?_
    refine wsq (wrg (vQ tab rfl (vT rfl callable_48 (boot_ok (s := s) (cf := cf) (ev := ev) ⟨rfl, rfl, rfl, rfl, rfl, rfl, rfl, by decide⟩ (by decide) (by omega) (by omega) hR rfl hg) ?_)))
    refine vQ tab rfl (vnl (qth (vw_ret (q_ret (q_thenr ?_)))))
    exact out_mk [7, 8, 9, 10] (.inr rfl) ⟨rfl, rfl⟩ rfl (.bool _)
      (op_cons (sigma_own (a := 0) (by simp [ownNames, *]) rfl) rfl rfl (ov_turn2 (rel_ptr (sigma_own (a := 1) (by simp [ownNames, *]) rfl)) (rel_slice (sigma_at (i := 0) (by simp [ownNames, *]) rfl) rfl) (rel_slice (sigma_at (i := 1) (by simp [ownNames, *]) rfl) rfl) (rel_slice (sigma_at (i := 2) (by simp [ownNames, *]) rfl) rfl) (rel_slice (sigma_at (i := 3) (by simp [ownNames, *]) rfl) rfl) (rel_ptr (sigma_own (a := 2) (by simp [ownNames, *]) rfl))) rfl
        (op_drop (op_drop (op_drop (op_drop (op_drop (op_drop
          (op_cons (sigma_at (i := 0) (by simp [ownNames, *]) rfl) rfl rfl (ov_opn userR rfl) rfl (op_cons (sigma_at (i := 1) (by simp [ownNames, *]) rfl) rfl rfl (ov_opn sessR rfl) rfl (op_cons (sigma_at (i := 2) (by simp [ownNames, *]) rfl) rfl rfl (ov_opn addrR rfl) rfl (op_cons (sigma_at (i := 3) (by simp [ownNames, *]) rfl) rfl rfl (ov_opn (intR .i64) rfl) rfl op_nil)))))))))))
      (told_of (by simp [ownNames, turnL]))
  · skip
    have k0 : (ev.kind == 0) = false := by rw [hk]; rfl
    have k1 : (ev.kind == 1) = true := by rw [hk]; rfl
    have k5 : (ev.kind == 5) = false := by rw [hk]; rfl
    have k6 : (ev.kind == 6) = false := by rw [hk]; rfl
    have k8 : (ev.kind == 8) = false := by rw [hk]; rfl
    have k9 : (ev.kind == 9) = false := by rw [hk]; rfl
    simp only [hk, if_true] at hE
    simp only [show ¬ (1 : Int) = 0 by decide, if_false] at hE
    unfold userE at hE
    cases hk1 : userAt s.users ev.user with
    | some j => rw [hk1] at hE; cases hE
    | none =>
    rw [hk1] at hE; cases hE
    refine wsq (wrg (vQ tab rfl (vnl (qth (wsq (wsq (wrg (vQ4 tab rfl rfl rfl rfl (vQ3 tab rfl rfl rfl (vnl (qth (wbk (wsq (wrg (vQ2 tab rfl rfl (vnl (qth ?_)))))))))))))))))
    refine vcd_false rfl (by simp only [k0, k1, k5, k6, k8, k9, sl_]; first | done | omega) ?_
    refine wsq (wrg (vQ2 tab rfl rfl (vnl (qth (vcd_true rfl (by simp only [k0, k1, k5, k6, k8, k9, sl_]; first | done | omega) ?_)))))
    refine wsq (wrg (vQ tab rfl (vT rfl callable_49 (user_put (s := s) (cf := cf) (ev := ev) ⟨rfl, rfl, rfl, rfl, rfl, rfl, rfl, by decide⟩ (by decide) hb1 hk1) ?_)))
    refine vQ tab rfl (vnl (qth (vw_ret (q_ret (q_thenr ?_)))))
    exact out_mk [7, 8, 9, 10] (.inr rfl) ⟨rfl, rfl⟩ rfl (.bool _)
      (op_cons (sigma_own (a := 0) (by simp [ownNames, *]) rfl) rfl rfl (ov_turn2 (rel_ptr (sigma_own (a := 1) (by simp [ownNames, *]) rfl)) (rel_slice (sigma_at (i := 0) (by simp [ownNames, *]) rfl) rfl) (rel_slice (sigma_at (i := 1) (by simp [ownNames, *]) rfl) rfl) (rel_slice (sigma_at (i := 2) (by simp [ownNames, *]) rfl) rfl) (rel_slice (sigma_at (i := 3) (by simp [ownNames, *]) rfl) rfl) (rel_ptr (sigma_own (a := 2) (by simp [ownNames, *]) rfl))) rfl
        (op_drop (op_drop (op_drop (op_drop (op_drop (op_drop
          (op_cons (sigma_at (i := 0) (by simp [ownNames, *]) rfl) rfl rfl (ov_opn userR rfl) rfl (op_cons (sigma_at (i := 1) (by simp [ownNames, *]) rfl) rfl rfl (ov_opn sessR rfl) rfl (op_cons (sigma_at (i := 2) (by simp [ownNames, *]) rfl) rfl rfl (ov_opn addrR rfl) rfl (op_cons (sigma_at (i := 3) (by simp [ownNames, *]) rfl) rfl rfl (ov_opn (intR .i64) rfl) rfl op_nil)))))))))))
      (told_of (by simp [ownNames, turnL]))
  · skip
    have k0 : (ev.kind == 0) = false := by rw [hk]; rfl
    have k1 : (ev.kind == 1) = false := by rw [hk]; rfl
    have k5 : (ev.kind == 5) = true := by rw [hk]; rfl
    have k6 : (ev.kind == 6) = false := by rw [hk]; rfl
    have k8 : (ev.kind == 8) = false := by rw [hk]; rfl
    have k9 : (ev.kind == 9) = false := by rw [hk]; rfl
    simp only [hk, if_true, if_false, show ¬ (5 : Int) = 0 by decide, show ¬ (5 : Int) = 1 by decide] at hE
    unfold leaseE at hE
    split at hE
    case isFalse => cases hE
    rename_i hq
    cases hE
    obtain ⟨q1, q2, q3, q4⟩ := hq
    obtain ⟨j, hj⟩ := Option.isSome_iff_exists.1 q3
    refine wsq (wrg (vQ tab rfl (vnl (qth (wsq (wsq (wrg (vQ4 tab rfl rfl rfl rfl (vQ3 tab rfl rfl rfl (vnl (qth (wbk (wsq (wrg (vQ2 tab rfl rfl (vnl (qth ?_)))))))))))))))))
    refine vcd_false rfl (by simp only [k0, k1, k5, k6, k8, k9, sl_]; first | done | omega) ?_
    refine wsq (wrg (vQ2 tab rfl rfl (vnl (qth (vcd_false rfl (by simp only [k0, k1, k5, k6, k8, k9, sl_]; first | done | omega) ?_)))))
    refine wsq (wrg (vQ2 tab rfl rfl (vnl (qth (vcd_true rfl (by simp only [k0, k1, k5, k6, k8, k9, sl_]; first | done | omega) ?_)))))
    refine wsq (wrg (vQ tab rfl (vT rfl callable_50 (lease_ok (s := s) (cf := cf) (ev := ev) ⟨rfl, rfl, rfl, rfl, rfl, rfl, rfl, by decide⟩ (by decide) (by omega) hb2 (by omega) q1 q2 hj q4) ?_)))
    refine vQ tab rfl (vnl (qth (vw_ret (q_ret (q_thenr ?_)))))
    exact out_mk [7, 8, 9, 10] (.inr rfl) ⟨rfl, rfl⟩ rfl (.bool _)
      (op_cons (sigma_own (a := 0) (by simp [ownNames, *]) rfl) rfl rfl (ov_turn2 (rel_ptr (sigma_own (a := 1) (by simp [ownNames, *]) rfl)) (rel_slice (sigma_at (i := 0) (by simp [ownNames, *]) rfl) rfl) (rel_slice (sigma_at (i := 1) (by simp [ownNames, *]) rfl) rfl) (rel_slice (sigma_at (i := 2) (by simp [ownNames, *]) rfl) rfl) (rel_slice (sigma_at (i := 3) (by simp [ownNames, *]) rfl) rfl) (rel_ptr (sigma_own (a := 2) (by simp [ownNames, *]) rfl))) rfl
        (op_drop (op_drop (op_drop (op_drop (op_drop (op_drop
          (op_cons (sigma_at (i := 0) (by simp [ownNames, *]) rfl) rfl rfl (ov_opn userR rfl) rfl (op_cons (sigma_at (i := 1) (by simp [ownNames, *]) rfl) rfl rfl (ov_opn sessR rfl) rfl (op_cons (sigma_at (i := 2) (by simp [ownNames, *]) rfl) rfl rfl (ov_opn addrR rfl) rfl (op_cons (sigma_at (i := 3) (by simp [ownNames, *]) rfl) rfl rfl (ov_opn (intR .i64) rfl) rfl op_nil)))))))))))
      (told_of (by simp [ownNames, turnL]))
  · skip
    have k0 : (ev.kind == 0) = false := by rw [hk]; rfl
    have k1 : (ev.kind == 1) = false := by rw [hk]; rfl
    have k5 : (ev.kind == 5) = false := by rw [hk]; rfl
    have k6 : (ev.kind == 6) = true := by rw [hk]; rfl
    have k8 : (ev.kind == 8) = false := by rw [hk]; rfl
    have k9 : (ev.kind == 9) = false := by rw [hk]; rfl
    simp only [hk, if_true, if_false, show ¬ (6 : Int) = 0 by decide, show ¬ (6 : Int) = 1 by decide, show ¬ (6 : Int) = 5 by decide] at hE
    refine wsq (wrg (vQ tab rfl (vnl (qth (wsq (wsq (wrg (vQ4 tab rfl rfl rfl rfl (vQ3 tab rfl rfl rfl (vnl (qth (wbk (wsq (wrg (vQ2 tab rfl rfl (vnl (qth ?_)))))))))))))))))
    refine vcd_false rfl (by simp only [k0, k1, k5, k6, k8, k9, sl_]; first | done | omega) ?_
    refine wsq (wrg (vQ2 tab rfl rfl (vnl (qth (vcd_false rfl (by simp only [k0, k1, k5, k6, k8, k9, sl_]; first | done | omega) ?_)))))
    refine wsq (wrg (vQ2 tab rfl rfl (vnl (qth (vcd_false rfl (by simp only [k0, k1, k5, k6, k8, k9, sl_]; first | done | omega) ?_)))))
    refine wsq (wrg (vQ2 tab rfl rfl (vnl (qth (vcd_true rfl (by simp only [k0, k1, k5, k6, k8, k9, sl_]; first | done | omega) ?_)))))
    refine wsq (wrg (vQ tab rfl (vT rfl callable_51 (closes_ok (s := s) (cf := cf) (ev := ev) ⟨rfl, rfl, rfl, rfl, rfl, rfl, rfl, by decide⟩ (by decide) (by omega) (by omega) (by omega) hE) ?_)))
    refine vQ tab rfl (vnl (qth (vw_ret (q_ret (q_thenr ?_)))))
    exact out_mk [7, 8, 9, 10] (.inr rfl) ⟨rfl, rfl⟩ rfl (.bool _)
      (op_cons (sigma_own (a := 0) (by simp [ownNames, *]) rfl) rfl rfl (ov_turn2 (rel_ptr (sigma_own (a := 1) (by simp [ownNames, *]) rfl)) (rel_slice (sigma_at (i := 0) (by simp [ownNames, *]) rfl) rfl) (rel_slice (sigma_at (i := 1) (by simp [ownNames, *]) rfl) rfl) (rel_slice (sigma_at (i := 2) (by simp [ownNames, *]) rfl) rfl) (rel_slice (sigma_at (i := 3) (by simp [ownNames, *]) rfl) rfl) (rel_ptr (sigma_own (a := 2) (by simp [ownNames, *]) rfl))) rfl
        (op_drop (op_drop (op_drop (op_drop (op_drop (op_drop
          (op_cons (sigma_at (i := 0) (by simp [ownNames, *]) rfl) rfl rfl (ov_opn userR rfl) rfl (op_cons (sigma_at (i := 1) (by simp [ownNames, *]) rfl) rfl rfl (ov_opn sessR rfl) rfl (op_cons (sigma_at (i := 2) (by simp [ownNames, *]) rfl) rfl rfl (ov_opn addrR rfl) rfl (op_cons (sigma_at (i := 3) (by simp [ownNames, *]) rfl) rfl rfl (ov_opn (intR .i64) rfl) rfl op_nil)))))))))))
      (told_of (by simp [ownNames, turnL]))
  · skip
    have k0 : (ev.kind == 0) = false := by rw [hk]; rfl
    have k1 : (ev.kind == 1) = false := by rw [hk]; rfl
    have k5 : (ev.kind == 5) = false := by rw [hk]; rfl
    have k6 : (ev.kind == 6) = false := by rw [hk]; rfl
    have k8 : (ev.kind == 8) = true := by rw [hk]; rfl
    have k9 : (ev.kind == 9) = false := by rw [hk]; rfl
    simp only [hk, if_true, if_false, show ¬ (8 : Int) = 0 by decide, show ¬ (8 : Int) = 1 by decide, show ¬ (8 : Int) = 5 by decide, show ¬ (8 : Int) = 6 by decide] at hE
    split at hE
    case isFalse => cases hE
    rename_i hq
    cases hE
    have hd := decide_eq_true hq
    refine wsq (wrg (vQ tab rfl (vnl (qth (wsq (wsq (wrg (vQ4 tab rfl rfl rfl rfl (vQ3 tab rfl rfl rfl (vnl (qth (wbk (wsq (wrg (vQ2 tab rfl rfl (vnl (qth ?_)))))))))))))))))
    refine vcd_false rfl (by simp only [k0, k1, k5, k6, k8, k9, hd, sl_]; first | done | omega) ?_
    refine wsq (wrg (vQ2 tab rfl rfl (vnl (qth (vcd_false rfl (by simp only [k0, k1, k5, k6, k8, k9, hd, sl_]; first | done | omega) ?_)))))
    refine wsq (wrg (vQ2 tab rfl rfl (vnl (qth (vcd_false rfl (by simp only [k0, k1, k5, k6, k8, k9, hd, sl_]; first | done | omega) ?_)))))
    refine wsq (wrg (vQ2 tab rfl rfl (vnl (qth (vcd_false rfl (by simp only [k0, k1, k5, k6, k8, k9, hd, sl_]; first | done | omega) ?_)))))
    refine wsq (wrg (vQ2 tab rfl rfl (vnl (qth (vcd_true rfl (by simp only [k0, k1, k5, k6, k8, k9, hd, sl_]; first | done | omega) ?_)))))
    refine wsq (wrg (vQ4 tab rfl rfl rfl rfl (vQ3 tab rfl rfl rfl (vgd_op true rfl rfl rfl (by simp only [k0, k1, k5, k6, k8, k9, hd, sl_]; first | done | omega) ?_))))
    refine vQ3 tab rfl rfl rfl (vT rfl callable_52 (rotate_tri (s := s) (cf := cf) (ev := ev) ⟨rfl, rfl, rfl, rfl, rfl, rfl, rfl, by decide⟩ (by decide)) ?_)
    refine vQ2 tab rfl rfl (vnl (qth (vw_ret (q_ret (q_thenr ?_)))))
    exact out_mk [7, 8, 9, 10] (.inr rfl) ⟨rfl, rfl⟩ rfl (.bool _)
      (op_cons (sigma_own (a := 0) (by simp [ownNames, *]) rfl) rfl rfl (ov_turn2 (rel_ptr (sigma_own (a := 1) (by simp [ownNames, *]) rfl)) (rel_slice (sigma_at (i := 0) (by simp [ownNames, *]) rfl) rfl) (rel_slice (sigma_at (i := 1) (by simp [ownNames, *]) rfl) rfl) (rel_slice (sigma_at (i := 2) (by simp [ownNames, *]) rfl) rfl) (rel_slice (sigma_at (i := 3) (by simp [ownNames, *]) rfl) rfl) (rel_ptr (sigma_own (a := 2) (by simp [ownNames, *]) rfl))) rfl
        (op_drop (op_drop (op_drop (op_drop (op_drop (op_drop
          (op_cons (sigma_at (i := 0) (by simp [ownNames, *]) rfl) rfl rfl (ov_opn userR rfl) rfl (op_cons (sigma_at (i := 1) (by simp [ownNames, *]) rfl) rfl rfl (ov_opn sessR rfl) rfl (op_cons (sigma_at (i := 2) (by simp [ownNames, *]) rfl) rfl rfl (ov_opn addrR rfl) rfl (op_cons (sigma_at (i := 3) (by simp [ownNames, *]) rfl) rfl rfl (ov_opn (intR .i64) rfl) rfl op_nil)))))))))))
      (told_of (by simp [ownNames, turnL]))
  · skip
    have k0 : (ev.kind == 0) = false := by rw [hk]; rfl
    have k1 : (ev.kind == 1) = false := by rw [hk]; rfl
    have k5 : (ev.kind == 5) = false := by rw [hk]; rfl
    have k6 : (ev.kind == 6) = false := by rw [hk]; rfl
    have k8 : (ev.kind == 8) = false := by rw [hk]; rfl
    have k9 : (ev.kind == 9) = true := by rw [hk]; rfl
    simp only [hk, if_true, if_false, show ¬ (9 : Int) = 0 by decide, show ¬ (9 : Int) = 1 by decide, show ¬ (9 : Int) = 5 by decide, show ¬ (9 : Int) = 6 by decide, show ¬ (9 : Int) = 8 by decide] at hE
    unfold spendE at hE
    split at hE
    case isTrue => cases hE
    rename_i hq
    cases hE
    refine wsq (wrg (vQ tab rfl (vnl (qth (wsq (wsq (wrg (vQ4 tab rfl rfl rfl rfl (vQ3 tab rfl rfl rfl (vnl (qth (wbk (wsq (wrg (vQ2 tab rfl rfl (vnl (qth ?_)))))))))))))))))
    refine vcd_false rfl (by simp only [k0, k1, k5, k6, k8, k9, sl_]; first | done | omega) ?_
    refine wsq (wrg (vQ2 tab rfl rfl (vnl (qth (vcd_false rfl (by simp only [k0, k1, k5, k6, k8, k9, sl_]; first | done | omega) ?_)))))
    refine wsq (wrg (vQ2 tab rfl rfl (vnl (qth (vcd_false rfl (by simp only [k0, k1, k5, k6, k8, k9, sl_]; first | done | omega) ?_)))))
    refine wsq (wrg (vQ2 tab rfl rfl (vnl (qth (vcd_false rfl (by simp only [k0, k1, k5, k6, k8, k9, sl_]; first | done | omega) ?_)))))
    refine wsq (wrg (vQ2 tab rfl rfl (vnl (qth (vcd_false rfl (by simp only [k0, k1, k5, k6, k8, k9, sl_]; first | done | omega) ?_)))))
    refine wsq (wrg (vQ2 tab rfl rfl (vnl (qth (vcd_true rfl (by simp only [k0, k1, k5, k6, k8, k9, sl_]; first | done | omega) ?_)))))
    refine wsq (wrg (vQ tab rfl (vT rfl callable_53 (spend_ok (s := s) (cf := cf) (ev := ev) ⟨rfl, rfl, rfl, rfl, rfl, rfl, rfl, by decide⟩ (by decide) hb4 (by simpa using hq)) ?_)))
    refine vQ tab rfl (vnl (qth (vw_ret (q_ret (q_thenr ?_)))))
    exact out_mk [7, 8, 9, 10] (.inr rfl) ⟨rfl, rfl⟩ rfl (.bool _)
      (op_cons (sigma_own (a := 0) (by simp [ownNames, *]) rfl) rfl rfl (ov_turn2 (rel_ptr (sigma_own (a := 1) (by simp [ownNames, *]) rfl)) (rel_slice (sigma_at (i := 0) (by simp [ownNames, *]) rfl) rfl) (rel_slice (sigma_at (i := 1) (by simp [ownNames, *]) rfl) rfl) (rel_slice (sigma_at (i := 2) (by simp [ownNames, *]) rfl) rfl) (rel_slice (sigma_at (i := 3) (by simp [ownNames, *]) rfl) rfl) (rel_ptr (sigma_own (a := 2) (by simp [ownNames, *]) rfl))) rfl
        (op_drop (op_drop (op_drop (op_drop (op_drop (op_drop
          (op_cons (sigma_at (i := 0) (by simp [ownNames, *]) rfl) rfl rfl (ov_opn userR rfl) rfl (op_cons (sigma_at (i := 1) (by simp [ownNames, *]) rfl) rfl rfl (ov_opn sessR rfl) rfl (op_cons (sigma_at (i := 2) (by simp [ownNames, *]) rfl) rfl rfl (ov_opn addrR rfl) rfl (op_cons (sigma_at (i := 3) (by simp [ownNames, *]) rfl) rfl rfl (ov_opn (intR .i64) rfl) rfl op_nil)))))))))))
      (told_of (by simp [ownNames, turnL]))
  · skip
    have k0 : (ev.kind == 0) = false := by rcases hk with hk | hk | hk | hk <;> (rw [hk]; rfl)
    have k1 : (ev.kind == 1) = false := by rcases hk with hk | hk | hk | hk <;> (rw [hk]; rfl)
    have k5 : (ev.kind == 5) = false := by rcases hk with hk | hk | hk | hk <;> (rw [hk]; rfl)
    have k6 : (ev.kind == 6) = false := by rcases hk with hk | hk | hk | hk <;> (rw [hk]; rfl)
    have k8 : (ev.kind == 8) = false := by rcases hk with hk | hk | hk | hk <;> (rw [hk]; rfl)
    have k9 : (ev.kind == 9) = false := by rcases hk with hk | hk | hk | hk <;> (rw [hk]; rfl)
    have hE : ofE cf s ev = some s' := by
      rcases hk with hk | hk | hk | hk <;> (rw [hk] at hE; simpa using hE)
    cases hk1 : userAt s.users ev.user with
    | none => rw [ofE_none hk1] at hE; cases hE
    | some j =>
    have hjl := (user_found hk1).1
    have hj : s.users[j]? = some s.users[j] := List.getElem?_eq_getElem hjl
    rw [ofE_eq hk1 hj] at hE
    cases hw : ofU cf ev s.users[j] with
    | none => rw [hw] at hE; cases hE
    | some w =>
    rw [hw] at hE; cases hE
    refine wsq (wrg (vQ tab rfl (vnl (qth (wsq (wsq (wrg (vQ4 tab rfl rfl rfl rfl (vQ3 tab rfl rfl rfl (vnl (qth (wbk (wsq (wrg (vQ2 tab rfl rfl (vnl (qth ?_)))))))))))))))))
    refine vcd_false rfl (by simp only [k0, k1, k5, k6, k8, k9, sl_]; first | done | omega) ?_
    refine wsq (wrg (vQ2 tab rfl rfl (vnl (qth (vcd_false rfl (by simp only [k0, k1, k5, k6, k8, k9, sl_]; first | done | omega) ?_)))))
    refine wsq (wrg (vQ2 tab rfl rfl (vnl (qth (vcd_false rfl (by simp only [k0, k1, k5, k6, k8, k9, sl_]; first | done | omega) ?_)))))
    refine wsq (wrg (vQ2 tab rfl rfl (vnl (qth (vcd_false rfl (by simp only [k0, k1, k5, k6, k8, k9, sl_]; first | done | omega) ?_)))))
    refine wsq (wrg (vQ2 tab rfl rfl (vnl (qth (vcd_false rfl (by simp only [k0, k1, k5, k6, k8, k9, sl_]; first | done | omega) ?_)))))
    refine wsq (wrg (vQ2 tab rfl rfl (vnl (qth (vcd_false rfl (by simp only [k0, k1, k5, k6, k8, k9, sl_]; first | done | omega) ?_)))))
    refine vw_skip (q_norm (qth (wsq (vw_draw mixed (dq_op tab rfl rfl rfl rfl (dq_op tab rfl rfl rfl rfl (dq_op tab rfl rfl rfl rfl (dq_op tab rfl rfl rfl rfl (dq_op tab rfl rfl rfl rfl (dq_op tab rfl rfl rfl rfl (dq_op tab rfl rfl rfl rfl (dq_op tab rfl rfl rfl rfl (dq_op tab rfl rfl rfl rfl (dq_op tab rfl rfl rfl rfl (dq_op tab rfl rfl rfl rfl (dt_op [0, 1, 2, 3, 4, 5, 6] rfl rfl rfl rfl rfl callable_55 (usr_ok (s := s) (cf := cf) (ev := ev) hk1 ⟨rfl, rfl, rfl, rfl, rfl, rfl, rfl, by decide⟩ (by omega)) ?_))))))))))))))))
    refine dt_op [0, 1, 2, 3, 4, 5, 6] rfl rfl rfl rfl rfl callable_54 (of_ok (s := s) (cf := cf) (ev := ev) ⟨rfl, rfl, rfl, rfl, rfl, rfl, rfl, by decide⟩ (by decide) hj hk hw) ?_
    refine dq_op tab rfl rfl rfl rfl (vd_nil (by kernel_rfl) ?_)
    refine qth (vw_ret ?_)
    exact out_mk [7, 8, 9, 10] (.inr rfl) ⟨rfl, rfl⟩ rfl (.bool _)
      (op_cons (sigma_own (a := 0) (by simp [ownNames, *]) rfl) rfl rfl (ov_turn2 (rel_ptr (sigma_own (a := 1) (by simp [ownNames, *]) rfl)) (rel_slice (sigma_at (i := 0) (by simp [ownNames, *]) rfl) rfl) (rel_slice (sigma_at (i := 1) (by simp [ownNames, *]) rfl) rfl) (rel_slice (sigma_at (i := 2) (by simp [ownNames, *]) rfl) rfl) (rel_slice (sigma_at (i := 3) (by simp [ownNames, *]) rfl) rfl) (rel_ptr (sigma_own (a := 2) (by simp [ownNames, *]) rfl))) rfl
        (op_drop (op_drop (op_drop (op_drop (op_drop (op_drop
          (op_cons (sigma_at (i := 0) (by simp [ownNames, *]) rfl) rfl rfl (ov_opn userR rfl) rfl (op_cons (sigma_at (i := 1) (by simp [ownNames, *]) rfl) rfl rfl (ov_opn sessR rfl) rfl (op_cons (sigma_at (i := 2) (by simp [ownNames, *]) rfl) rfl rfl (ov_opn addrR rfl) rfl (op_cons (sigma_at (i := 3) (by simp [ownNames, *]) rfl) rfl rfl (ov_opn (intR .i64) rfl) rfl op_nil)))))))))))
      (told_of (by simp [ownNames, turnL]))
theorem does_no (h : TurnAt V t c e u x a p cf ev s) (hi : ∀ i ∈ [t, c, e, u, x, a, p], i < n) (hb1 : s.users.length * 72 ≤ 140737488355000) (hb2 : s.sess.length * 32 ≤ 140737488355000) (hb3 : s.addrs.length * 24 ≤ 140737488355000) (hb4 : s.spent.length * 8 ≤ 140737488355000) (hm : evtMay ev = true) (hE : doesE cf s ev = none) :
    Tri Tryz.prog 28 [.pointer (some ⟨t, 0, none⟩)] n 0 V (fun r L => r = .bool false ∧ L = turnN t c e u x a p) := by
  obtain ⟨ht, hc, he, hu, hx, ha, hp, hn⟩ := h
  simp only [List.nodup_cons, List.mem_cons, List.not_mem_nil, or_false, not_or, List.nodup_nil, and_true, not_false_eq_true] at hn
  obtain ⟨⟨d1, d2, d3, d4, d5, d6⟩, ⟨e1, e2, e3, e4, e5⟩, ⟨f1, f2, f3, f4⟩, ⟨g1, g2, g3⟩, ⟨i1, i2⟩, j1⟩ := hn
  simp only [List.mem_cons, List.not_mem_nil, or_false, forall_eq_or_imp, forall_eq] at hi
  obtain ⟨l1, l2, l3, l4, l5, l6, l7⟩ := hi
  refine call_of_vw (K := 7) (argsI := [.pointer (some ⟨0, 0, none⟩)]) tab Tryz.func28 rfl rfl (by simp [Tryz.f28]) [.own t, .own c, .own e, .own u, .own x, .own a, .own p] [turnO 1 3 4 5 6 2 s, confO cf, evtO ev, .opn (userR.cells s.users) 76 9, .opn (sessR.cells s.sess) 78 4, .opn (addrR.cells s.addrs) 80 3, .opn ((intR .i64).cells s.spent) 3 1] rfl (.own ht (ov_turn rfl (rel_ptr rfl) (rel_slice rfl rfl) (rel_slice rfl rfl) (rel_slice rfl rfl) (rel_slice rfl rfl) (rel_ptr rfl)) (.own hc (ov_conf rfl) (.own he (ov_evt rfl) (.own hu (ov_opn userR rfl) (.own hx (ov_opn sessR rfl) (.own ha (ov_opn addrR rfl) (.own hp (ov_opn (intR .i64) rfl) .nil))))))) (by simp [ownNames, *]) (by simp [ownNames, lookNames, *]) (by simp [ownNames, *]) (al_cons (.val (rel_ptr rfl)) al_nil) (seen_of (sn_own (sn_own (sn_own (sn_own (sn_own (sn_own (sn_own sn_nil)))))))) ?_
  unfold doesE at hE
  rcases kind_split hm with hk | hk | hk | hk | hk | hk | hk
  · skip
    have k0 : (ev.kind == 0) = true := by rw [hk]; rfl
    have k1 : (ev.kind == 1) = false := by rw [hk]; rfl
    have k5 : (ev.kind == 5) = false := by rw [hk]; rfl
    have k6 : (ev.kind == 6) = false := by rw [hk]; rfl
    have k8 : (ev.kind == 8) = false := by rw [hk]; rfl
    have k9 : (ev.kind == 9) = false := by rw [hk]; rfl
    simp only [hk, if_true] at hE
    unfold bootE at hE
    obtain ⟨R, hR⟩ : ∃ R, freeAll (IntKind.i64.wrap (ev.tick + cf.quarantine)) s.sess s.addrs = R := ⟨_, rfl⟩
    rw [hR] at hE
    have hg : ∀ fin, R = some fin → ¬ (0 ≤ s.boots ∧ s.boots ≤ 1073741822) := by
      rintro fin rfl hg
      simp only [if_pos hg] at hE; cases hE
    refine wsq (wrg (vQ tab rfl (vnl (qth (wsq (wsq (wrg (vQ4 tab rfl rfl rfl rfl (vQ3 tab rfl rfl rfl (vnl (qth (wbk (wsq (wrg (vQ2 tab rfl rfl (vnl (qth ?_)))))))))))))))))
    refine vcd_true rfl (by simp only [k0, k1, k5, k6, k8, k9, sl_]; first | done | omega) ?_
    refine wsq (wrg (vQ tab rfl (vT rfl callable_48 (boot_no (s := s) (cf := cf) (ev := ev) ⟨rfl, rfl, rfl, rfl, rfl, rfl, rfl, by decide⟩ (by decide) (by omega) (by omega) hR hg) ?_)))
    refine vQ tab rfl (vnl (qth (vw_ret (q_ret (q_thenr ?_)))))
    exact out_mk [] (.inr rfl) ⟨rfl, rfl⟩ rfl (.bool _) (op_drop (op_drop (op_drop (op_drop (op_drop (op_drop (op_drop op_nil))))))) (told_of (by simp [ownNames, turnN]))
  · skip
    have k0 : (ev.kind == 0) = false := by rw [hk]; rfl
    have k1 : (ev.kind == 1) = true := by rw [hk]; rfl
    have k5 : (ev.kind == 5) = false := by rw [hk]; rfl
    have k6 : (ev.kind == 6) = false := by rw [hk]; rfl
    have k8 : (ev.kind == 8) = false := by rw [hk]; rfl
    have k9 : (ev.kind == 9) = false := by rw [hk]; rfl
    simp only [hk, if_true] at hE
    simp only [show ¬ (1 : Int) = 0 by decide, if_false] at hE
    unfold userE at hE
    cases hk1 : userAt s.users ev.user with
    | none => rw [hk1] at hE; cases hE
    | some j =>
    refine wsq (wrg (vQ tab rfl (vnl (qth (wsq (wsq (wrg (vQ4 tab rfl rfl rfl rfl (vQ3 tab rfl rfl rfl (vnl (qth (wbk (wsq (wrg (vQ2 tab rfl rfl (vnl (qth ?_)))))))))))))))))
    refine vcd_false rfl (by simp only [k0, k1, k5, k6, k8, k9, sl_]; first | done | omega) ?_
    refine wsq (wrg (vQ2 tab rfl rfl (vnl (qth (vcd_true rfl (by simp only [k0, k1, k5, k6, k8, k9, sl_]; first | done | omega) ?_)))))
    refine wsq (wrg (vQ tab rfl (vT rfl callable_49 (user_no (s := s) (cf := cf) (ev := ev) ⟨rfl, rfl, rfl, rfl, rfl, rfl, rfl, by decide⟩ (by decide) hb1 hk1) ?_)))
    refine vQ tab rfl (vnl (qth (vw_ret (q_ret (q_thenr ?_)))))
    exact out_mk [] (.inr rfl) ⟨rfl, rfl⟩ rfl (.bool _) (op_drop (op_drop (op_drop (op_drop (op_drop (op_drop (op_drop op_nil))))))) (told_of (by simp [ownNames, turnN]))
  · skip
    have k0 : (ev.kind == 0) = false := by rw [hk]; rfl
    have k1 : (ev.kind == 1) = false := by rw [hk]; rfl
    have k5 : (ev.kind == 5) = true := by rw [hk]; rfl
    have k6 : (ev.kind == 6) = false := by rw [hk]; rfl
    have k8 : (ev.kind == 8) = false := by rw [hk]; rfl
    have k9 : (ev.kind == 9) = false := by rw [hk]; rfl
    simp only [hk, if_true, if_false, show ¬ (5 : Int) = 0 by decide, show ¬ (5 : Int) = 1 by decide] at hE
    refine wsq (wrg (vQ tab rfl (vnl (qth (wsq (wsq (wrg (vQ4 tab rfl rfl rfl rfl (vQ3 tab rfl rfl rfl (vnl (qth (wbk (wsq (wrg (vQ2 tab rfl rfl (vnl (qth ?_)))))))))))))))))
    refine vcd_false rfl (by simp only [k0, k1, k5, k6, k8, k9, sl_]; first | done | omega) ?_
    refine wsq (wrg (vQ2 tab rfl rfl (vnl (qth (vcd_false rfl (by simp only [k0, k1, k5, k6, k8, k9, sl_]; first | done | omega) ?_)))))
    refine wsq (wrg (vQ2 tab rfl rfl (vnl (qth (vcd_true rfl (by simp only [k0, k1, k5, k6, k8, k9, sl_]; first | done | omega) ?_)))))
    refine wsq (wrg (vQ tab rfl (vT rfl callable_50 (lease_no (s := s) (cf := cf) (ev := ev) ⟨rfl, rfl, rfl, rfl, rfl, rfl, rfl, by decide⟩ (by decide) (by omega) (by omega) hE) ?_)))
    refine vQ tab rfl (vnl (qth (vw_ret (q_ret (q_thenr ?_)))))
    exact out_mk [] (.inr rfl) ⟨rfl, rfl⟩ rfl (.bool _) (op_drop (op_drop (op_drop (op_drop (op_drop (op_drop (op_drop op_nil))))))) (told_of (by simp [ownNames, turnN]))
  · skip
    have k0 : (ev.kind == 0) = false := by rw [hk]; rfl
    have k1 : (ev.kind == 1) = false := by rw [hk]; rfl
    have k5 : (ev.kind == 5) = false := by rw [hk]; rfl
    have k6 : (ev.kind == 6) = true := by rw [hk]; rfl
    have k8 : (ev.kind == 8) = false := by rw [hk]; rfl
    have k9 : (ev.kind == 9) = false := by rw [hk]; rfl
    simp only [hk, if_true, if_false, show ¬ (6 : Int) = 0 by decide, show ¬ (6 : Int) = 1 by decide, show ¬ (6 : Int) = 5 by decide] at hE
    refine wsq (wrg (vQ tab rfl (vnl (qth (wsq (wsq (wrg (vQ4 tab rfl rfl rfl rfl (vQ3 tab rfl rfl rfl (vnl (qth (wbk (wsq (wrg (vQ2 tab rfl rfl (vnl (qth ?_)))))))))))))))))
    refine vcd_false rfl (by simp only [k0, k1, k5, k6, k8, k9, sl_]; first | done | omega) ?_
    refine wsq (wrg (vQ2 tab rfl rfl (vnl (qth (vcd_false rfl (by simp only [k0, k1, k5, k6, k8, k9, sl_]; first | done | omega) ?_)))))
    refine wsq (wrg (vQ2 tab rfl rfl (vnl (qth (vcd_false rfl (by simp only [k0, k1, k5, k6, k8, k9, sl_]; first | done | omega) ?_)))))
    refine wsq (wrg (vQ2 tab rfl rfl (vnl (qth (vcd_true rfl (by simp only [k0, k1, k5, k6, k8, k9, sl_]; first | done | omega) ?_)))))
    refine wsq (wrg (vQ tab rfl (vT rfl callable_51 (closes_no (s := s) (cf := cf) (ev := ev) ⟨rfl, rfl, rfl, rfl, rfl, rfl, rfl, by decide⟩ (by decide) (by omega) (by omega) (by omega) hE) ?_)))
    refine vQ tab rfl (vnl (qth (vw_ret (q_ret (q_thenr ?_)))))
    exact out_mk [] (.inr rfl) ⟨rfl, rfl⟩ rfl (.bool _) (op_drop (op_drop (op_drop (op_drop (op_drop (op_drop (op_drop op_nil))))))) (told_of (by simp [ownNames, turnN]))
  · skip
    have k0 : (ev.kind == 0) = false := by rw [hk]; rfl
    have k1 : (ev.kind == 1) = false := by rw [hk]; rfl
    have k5 : (ev.kind == 5) = false := by rw [hk]; rfl
    have k6 : (ev.kind == 6) = false := by rw [hk]; rfl
    have k8 : (ev.kind == 8) = true := by rw [hk]; rfl
    have k9 : (ev.kind == 9) = false := by rw [hk]; rfl
    simp only [hk, if_true, if_false, show ¬ (8 : Int) = 0 by decide, show ¬ (8 : Int) = 1 by decide, show ¬ (8 : Int) = 5 by decide, show ¬ (8 : Int) = 6 by decide] at hE
    split at hE
    case isTrue => cases hE
    rename_i hq
    have hd := decide_eq_false hq
    refine wsq (wrg (vQ tab rfl (vnl (qth (wsq (wsq (wrg (vQ4 tab rfl rfl rfl rfl (vQ3 tab rfl rfl rfl (vnl (qth (wbk (wsq (wrg (vQ2 tab rfl rfl (vnl (qth ?_)))))))))))))))))
    refine vcd_false rfl (by simp only [k0, k1, k5, k6, k8, k9, hd, sl_]; first | done | omega) ?_
    refine wsq (wrg (vQ2 tab rfl rfl (vnl (qth (vcd_false rfl (by simp only [k0, k1, k5, k6, k8, k9, hd, sl_]; first | done | omega) ?_)))))
    refine wsq (wrg (vQ2 tab rfl rfl (vnl (qth (vcd_false rfl (by simp only [k0, k1, k5, k6, k8, k9, hd, sl_]; first | done | omega) ?_)))))
    refine wsq (wrg (vQ2 tab rfl rfl (vnl (qth (vcd_false rfl (by simp only [k0, k1, k5, k6, k8, k9, hd, sl_]; first | done | omega) ?_)))))
    refine wsq (wrg (vQ2 tab rfl rfl (vnl (qth (vcd_true rfl (by simp only [k0, k1, k5, k6, k8, k9, hd, sl_]; first | done | omega) ?_)))))
    refine wsq (wrg (vQ4 tab rfl rfl rfl rfl (vQ3 tab rfl rfl rfl (vgd_op false rfl rfl rfl (by simp only [k0, k1, k5, k6, k8, k9, hd, sl_]; first | done | omega) ?_))))
    refine vK4 rfl rfl rfl rfl (vQ2 tab rfl rfl (vnl (qth (vw_ret (q_ret (q_thenr ?_))))))
    exact out_mk [] (.inr rfl) ⟨rfl, rfl⟩ rfl (.bool _) (op_drop (op_drop (op_drop (op_drop (op_drop (op_drop (op_drop op_nil))))))) (told_of (by simp [ownNames, turnN]))
  · skip
    have k0 : (ev.kind == 0) = false := by rw [hk]; rfl
    have k1 : (ev.kind == 1) = false := by rw [hk]; rfl
    have k5 : (ev.kind == 5) = false := by rw [hk]; rfl
    have k6 : (ev.kind == 6) = false := by rw [hk]; rfl
    have k8 : (ev.kind == 8) = false := by rw [hk]; rfl
    have k9 : (ev.kind == 9) = true := by rw [hk]; rfl
    simp only [hk, if_true, if_false, show ¬ (9 : Int) = 0 by decide, show ¬ (9 : Int) = 1 by decide, show ¬ (9 : Int) = 5 by decide, show ¬ (9 : Int) = 6 by decide, show ¬ (9 : Int) = 8 by decide] at hE
    unfold spendE at hE
    split at hE
    case isFalse => cases hE
    rename_i hq
    refine wsq (wrg (vQ tab rfl (vnl (qth (wsq (wsq (wrg (vQ4 tab rfl rfl rfl rfl (vQ3 tab rfl rfl rfl (vnl (qth (wbk (wsq (wrg (vQ2 tab rfl rfl (vnl (qth ?_)))))))))))))))))
    refine vcd_false rfl (by simp only [k0, k1, k5, k6, k8, k9, sl_]; first | done | omega) ?_
    refine wsq (wrg (vQ2 tab rfl rfl (vnl (qth (vcd_false rfl (by simp only [k0, k1, k5, k6, k8, k9, sl_]; first | done | omega) ?_)))))
    refine wsq (wrg (vQ2 tab rfl rfl (vnl (qth (vcd_false rfl (by simp only [k0, k1, k5, k6, k8, k9, sl_]; first | done | omega) ?_)))))
    refine wsq (wrg (vQ2 tab rfl rfl (vnl (qth (vcd_false rfl (by simp only [k0, k1, k5, k6, k8, k9, sl_]; first | done | omega) ?_)))))
    refine wsq (wrg (vQ2 tab rfl rfl (vnl (qth (vcd_false rfl (by simp only [k0, k1, k5, k6, k8, k9, sl_]; first | done | omega) ?_)))))
    refine wsq (wrg (vQ2 tab rfl rfl (vnl (qth (vcd_true rfl (by simp only [k0, k1, k5, k6, k8, k9, sl_]; first | done | omega) ?_)))))
    refine wsq (wrg (vQ tab rfl (vT rfl callable_53 (spend_no (s := s) (cf := cf) (ev := ev) ⟨rfl, rfl, rfl, rfl, rfl, rfl, rfl, by decide⟩ (by decide) hb4 hq) ?_)))
    refine vQ tab rfl (vnl (qth (vw_ret (q_ret (q_thenr ?_)))))
    exact out_mk [] (.inr rfl) ⟨rfl, rfl⟩ rfl (.bool _) (op_drop (op_drop (op_drop (op_drop (op_drop (op_drop (op_drop op_nil))))))) (told_of (by simp [ownNames, turnN]))
  · skip
    have k0 : (ev.kind == 0) = false := by rcases hk with hk | hk | hk | hk <;> (rw [hk]; rfl)
    have k1 : (ev.kind == 1) = false := by rcases hk with hk | hk | hk | hk <;> (rw [hk]; rfl)
    have k5 : (ev.kind == 5) = false := by rcases hk with hk | hk | hk | hk <;> (rw [hk]; rfl)
    have k6 : (ev.kind == 6) = false := by rcases hk with hk | hk | hk | hk <;> (rw [hk]; rfl)
    have k8 : (ev.kind == 8) = false := by rcases hk with hk | hk | hk | hk <;> (rw [hk]; rfl)
    have k9 : (ev.kind == 9) = false := by rcases hk with hk | hk | hk | hk <;> (rw [hk]; rfl)
    have hE : ofE cf s ev = none := by
      rcases hk with hk | hk | hk | hk <;> (rw [hk] at hE; simpa using hE)
    cases hk1 : userAt s.users ev.user with
    | none =>
    refine wsq (wrg (vQ tab rfl (vnl (qth (wsq (wsq (wrg (vQ4 tab rfl rfl rfl rfl (vQ3 tab rfl rfl rfl (vnl (qth (wbk (wsq (wrg (vQ2 tab rfl rfl (vnl (qth ?_)))))))))))))))))
    refine vcd_false rfl (by simp only [k0, k1, k5, k6, k8, k9, sl_]; first | done | omega) ?_
    refine wsq (wrg (vQ2 tab rfl rfl (vnl (qth (vcd_false rfl (by simp only [k0, k1, k5, k6, k8, k9, sl_]; first | done | omega) ?_)))))
    refine wsq (wrg (vQ2 tab rfl rfl (vnl (qth (vcd_false rfl (by simp only [k0, k1, k5, k6, k8, k9, sl_]; first | done | omega) ?_)))))
    refine wsq (wrg (vQ2 tab rfl rfl (vnl (qth (vcd_false rfl (by simp only [k0, k1, k5, k6, k8, k9, sl_]; first | done | omega) ?_)))))
    refine wsq (wrg (vQ2 tab rfl rfl (vnl (qth (vcd_false rfl (by simp only [k0, k1, k5, k6, k8, k9, sl_]; first | done | omega) ?_)))))
    refine wsq (wrg (vQ2 tab rfl rfl (vnl (qth (vcd_false rfl (by simp only [k0, k1, k5, k6, k8, k9, sl_]; first | done | omega) ?_)))))
    refine vw_skip (q_norm (qth (wsq (vw_draw mixed (dq_op tab rfl rfl rfl rfl (dq_op tab rfl rfl rfl rfl (dq_op tab rfl rfl rfl rfl (dq_op tab rfl rfl rfl rfl (dq_op tab rfl rfl rfl rfl (dq_op tab rfl rfl rfl rfl (dq_op tab rfl rfl rfl rfl (dq_op tab rfl rfl rfl rfl (dq_op tab rfl rfl rfl rfl (dq_op tab rfl rfl rfl rfl (dq_op tab rfl rfl rfl rfl (dt_op [0, 1, 2, 3, 4, 5, 6] rfl rfl rfl rfl rfl callable_55 (usr_no (s := s) (cf := cf) (ev := ev) hk1 ⟨rfl, rfl, rfl, rfl, rfl, rfl, rfl, by decide⟩ (by omega)) ?_))))))))))))))))
    refine dt_op [0, 1, 2, 3, 4, 5, 6] rfl rfl rfl rfl rfl callable_54 (of_nil (s := s) (cf := cf) (ev := ev) ⟨rfl, rfl, rfl, rfl, rfl, rfl, rfl, by decide⟩ (by decide)) ?_
    refine dq_op tab rfl rfl rfl rfl (vd_nil (by kernel_rfl) ?_)
    refine qth (vw_ret ?_)
    exact out_mk [] (.inr rfl) ⟨rfl, rfl⟩ rfl (.bool _) (op_drop (op_drop (op_drop (op_drop (op_drop (op_drop (op_drop op_nil))))))) (told_of (by simp [ownNames, turnN]))
    | some j =>
    have hjl := (user_found hk1).1
    have hj : s.users[j]? = some s.users[j] := List.getElem?_eq_getElem hjl
    rw [ofE_eq hk1 hj] at hE
    cases hw : ofU cf ev s.users[j] with
    | some w => rw [hw] at hE; cases hE
    | none =>
    refine wsq (wrg (vQ tab rfl (vnl (qth (wsq (wsq (wrg (vQ4 tab rfl rfl rfl rfl (vQ3 tab rfl rfl rfl (vnl (qth (wbk (wsq (wrg (vQ2 tab rfl rfl (vnl (qth ?_)))))))))))))))))
    refine vcd_false rfl (by simp only [k0, k1, k5, k6, k8, k9, sl_]; first | done | omega) ?_
    refine wsq (wrg (vQ2 tab rfl rfl (vnl (qth (vcd_false rfl (by simp only [k0, k1, k5, k6, k8, k9, sl_]; first | done | omega) ?_)))))
    refine wsq (wrg (vQ2 tab rfl rfl (vnl (qth (vcd_false rfl (by simp only [k0, k1, k5, k6, k8, k9, sl_]; first | done | omega) ?_)))))
    refine wsq (wrg (vQ2 tab rfl rfl (vnl (qth (vcd_false rfl (by simp only [k0, k1, k5, k6, k8, k9, sl_]; first | done | omega) ?_)))))
    refine wsq (wrg (vQ2 tab rfl rfl (vnl (qth (vcd_false rfl (by simp only [k0, k1, k5, k6, k8, k9, sl_]; first | done | omega) ?_)))))
    refine wsq (wrg (vQ2 tab rfl rfl (vnl (qth (vcd_false rfl (by simp only [k0, k1, k5, k6, k8, k9, sl_]; first | done | omega) ?_)))))
    refine vw_skip (q_norm (qth (wsq (vw_draw mixed (dq_op tab rfl rfl rfl rfl (dq_op tab rfl rfl rfl rfl (dq_op tab rfl rfl rfl rfl (dq_op tab rfl rfl rfl rfl (dq_op tab rfl rfl rfl rfl (dq_op tab rfl rfl rfl rfl (dq_op tab rfl rfl rfl rfl (dq_op tab rfl rfl rfl rfl (dq_op tab rfl rfl rfl rfl (dq_op tab rfl rfl rfl rfl (dq_op tab rfl rfl rfl rfl (dt_op [0, 1, 2, 3, 4, 5, 6] rfl rfl rfl rfl rfl callable_55 (usr_ok (s := s) (cf := cf) (ev := ev) hk1 ⟨rfl, rfl, rfl, rfl, rfl, rfl, rfl, by decide⟩ (by omega)) ?_))))))))))))))))
    refine dt_op [0, 1, 2, 3, 4, 5, 6] rfl rfl rfl rfl rfl callable_54 (of_no (s := s) (cf := cf) (ev := ev) ⟨rfl, rfl, rfl, rfl, rfl, rfl, rfl, by decide⟩ (by decide) hj hk hw) ?_
    refine dq_op tab rfl rfl rfl rfl (vd_nil (by kernel_rfl) ?_)
    refine qth (vw_ret ?_)
    exact out_mk [] (.inr rfl) ⟨rfl, rfl⟩ rfl (.bool _) (op_drop (op_drop (op_drop (op_drop (op_drop (op_drop (op_drop op_nil))))))) (told_of (by simp [ownNames, turnN]))
end
end Go.Proofs.YtcjfidfealifhaaGreat
namespace Go.Proofs.YtcjfidfealifhaaGreat
open Go Vm IntWalk
set_option linter.unusedVariables false
set_option linter.unusedSimpArgs false
set_option maxHeartbeats 16000000
theorem pnew_as {V : Heap} {n : Nat} {c : Int} (r : List AddrV × Int) (h : newP c = r) :
    Tri Tryz.prog 17 [.int .i64 c] n 1 V (fun u L => u = .tuple #[.slice (some ⟨n, 0, none⟩) r.1.length 0, .int .i64 r.2] ∧ L = [(n, some (.opn (addrR.cells r.1) 80 3))]) := by subst h; exact new_tri c
theorem snew_tri {V : Heap} {n : Nat} (c : Int) :
    Tri Tryz.prog 4 [.int .i64 c] n 4 V (fun u L => u = .tuple #[stV n (n + 1) (n + 2) (n + 3) (newS c).1, .int .i64 (newS c).2] ∧ L = stL n (newS c).1) := by
  by_cases h : 1 ≤ c ∧ c ≤ 16
  · have e1 := newP_ok h
    have e2 : newS c = ({ st0 with addrs := (newP c).1 }, 0) := if_pos h
    rw [e2, e1]
    refine call_of_vw (K := 0) (argsI := [.int .i64 c]) tab Tryz.func4 rfl rfl (by simp [Tryz.f4]) [] [] rfl .nil (by simp [ownNames]) (by simp [ownNames, lookNames]) (by simp [ownNames, *]) (al_cons (.val (.int _ _)) al_nil) (seen_of sn_nil) ?_
    refine wsq (wrg (vN tab rfl (vQ tab rfl (vnl (qth (wsq (wrg (vQ tab rfl (vT rfl callable_17 (pnew_as _ e1) (vQ4 tab rfl rfl rfl rfl (vQ tab rfl (vnl (qth (wsq (wsq (wrg (vQ2 tab rfl rfl (vnl (qth ?_)))))))))))))))))))
    refine vc_false rfl (vw_skip (qth (wsq (wrg (vQ2 tab rfl rfl (vS tab rfl (vQ tab rfl (vnl (qth (vw_ret ?_))))))))))
    exact out_mk [NIL, NIL, 1, NIL] (.inr rfl) ⟨rfl, rfl⟩ rfl (vrel_tuple (lrel_cons (vrel_agg (lrel_cons (.int _ _) (lrel_cons (.int _ _) (lrel_cons (.int _ _) (lrel_cons (rel_nil (sigma_nil (i := 0) rfl) rfl) (lrel_cons (rel_nil (sigma_nil (i := 1) rfl) rfl) (lrel_cons (rel_slice (sigma_look (i := 2) rfl) rfl) (lrel_cons (rel_nil (sigma_nil (i := 3) rfl) rfl) lrel_nil)))))))) (lrel_cons (.int _ _) lrel_nil))) (op_void (sigma_nil (i := 0) rfl) rfl rfl rfl (op_void (sigma_nil (i := 1) rfl) rfl rfl rfl (op_cons (sigma_look (i := 2) rfl) rfl rfl (ov_opn addrR rfl) rfl (op_void (sigma_nil (i := 3) rfl) rfl rfl rfl op_nil)))) trivial
  · have e1 := newP_bad h
    have e2 : newS c = (st0, 2000) := if_neg h
    rw [e2]
    refine call_of_vw (K := 0) (argsI := [.int .i64 c]) tab Tryz.func4 rfl rfl (by simp [Tryz.f4]) [] [] rfl .nil (by simp [ownNames]) (by simp [ownNames, lookNames]) (by simp [ownNames, *]) (al_cons (.val (.int _ _)) al_nil) (seen_of sn_nil) ?_
    refine wsq (wrg (vN tab rfl (vQ tab rfl (vnl (qth (wsq (wrg (vQ tab rfl (vT rfl callable_17 (pnew_as _ e1) (vQ4 tab rfl rfl rfl rfl (vQ tab rfl (vnl (qth (wsq (wsq (wrg (vQ2 tab rfl rfl (vnl (qth ?_)))))))))))))))))))
    refine vc_true rfl (wsq (wrg (vQ tab rfl (vS tab rfl (vQ tab rfl (vnl (qth (vw_ret (q_thenr ?_)))))))))
    exact out_mk [NIL, NIL, NIL, NIL] (.inr rfl) ⟨rfl, rfl⟩ rfl (vrel_tuple (lrel_cons (vrel_agg (lrel_cons (.int _ _) (lrel_cons (.int _ _) (lrel_cons (.int _ _) (lrel_cons (rel_nil (sigma_nil (i := 0) rfl) rfl) (lrel_cons (rel_nil (sigma_nil (i := 1) rfl) rfl) (lrel_cons (rel_nil (sigma_nil (i := 2) rfl) rfl) (lrel_cons (rel_nil (sigma_nil (i := 3) rfl) rfl) lrel_nil)))))))) (lrel_cons (.int _ _) lrel_nil))) (op_void (sigma_nil (i := 0) rfl) rfl rfl rfl (op_void (sigma_nil (i := 1) rfl) rfl rfl rfl (op_void (sigma_nil (i := 2) rfl) rfl rfl rfl (op_void (sigma_nil (i := 3) rfl) rfl rfl rfl op_nil)))) trivial
section
variable {V : Heap} {n : Nat} {v1 v2 v3 v4 : Value} {cf : ConfV} {ev : EventV} {s : StV}
theorem applyS_bad (h : applyC cf s ev = false) : applyS cf s ev = (st0, 2000) := by unfold applyS; rw [if_neg (by rw [h]; decide)]
theorem applyS_no (h : applyC cf s ev = true) (hE : doesE cf s ev = none) : applyS cf s ev = (st0, 2001) := by unfold applyS; rw [if_pos h, hE]
theorem applyS_ok {s' : StV} (h : applyC cf s ev = true) (hE : doesE cf s ev = some s') : applyS cf s ev = (s', 0) := by unfold applyS; rw [if_pos h, hE]
theorem apply_tri (h1 : Looks V 9 v1 (userR.cells s.users) s.users.length) (h2 : Looks V 4 v2 (sessR.cells s.sess) s.sess.length) (h3 : Looks V 3 v3 (addrR.cells s.addrs) s.addrs.length) (h4 : Looks V 1 v4 ((intR .i64).cells s.spent) s.spent.length)
    (hb1 : s.users.length * 72 ≤ 140737488355000) (hb2 : s.sess.length * 32 ≤ 140737488355000) (hb3 : s.addrs.length * 24 ≤ 140737488355000) (hb4 : s.spent.length * 8 ≤ 140737488355000) :
    Tri Tryz.prog 13 [confV cf, .agg #[.int .i64 s.boots, .int .i64 s.epoch, .int .i64 s.next, v1, v2, v3, v4], evtV ev] n 4 V (fun u L => u = .tuple #[stV n (n + 1) (n + 2) (n + 3) (applyS cf s ev).1, .int .i64 (applyS cf s ev).2] ∧ L = stL n (applyS cf s ev).1) := by
  refine call_of_vw (K := 4) (argsI := [confV cf, .agg #[.int .i64 s.boots, .int .i64 s.epoch, .int .i64 s.next, .slice (some ⟨0, 0, none⟩) s.users.length 0, .slice (some ⟨1, 0, none⟩) s.sess.length 0, .slice (some ⟨2, 0, none⟩) s.addrs.length 0, .slice (some ⟨3, 0, none⟩) s.spent.length 0], evtV ev]) tab Tryz.func13 rfl rfl (by simp [Tryz.f13]) [.look v1 s.users.length 9, .look v2 s.sess.length 4, .look v3 s.addrs.length 3, .look v4 s.spent.length 1] [.win (userR.cells s.users) 9, .win (sessR.cells s.sess) 4, .win (addrR.cells s.addrs) 3, .win ((intR .i64).cells s.spent) 1] rfl (.look h1 (userR.flat_cells s.users) (.look h2 (sessR.flat_cells s.sess) (.look h3 (addrR.flat_cells s.addrs) (.look h4 ((intR .i64).flat_cells s.spent) .nil)))) (by simp [ownNames]) (by simp [ownNames, lookNames]) (by simp [ownNames, *]) (al_cons (.val (confRel cf)) (al_cons (ar_agg (al_cons (.val (.int _ _)) (al_cons (.val (.int _ _)) (al_cons (.val (.int _ _)) (al_cons (.look (a := 0) rfl) (al_cons (.look (a := 1) rfl) (al_cons (.look (a := 2) rfl) (al_cons (.look (a := 3) rfl) al_nil)))))))) (al_cons (.val (evtRel ev)) al_nil))) (seen_of (sn_look (seen_agg (j := 1) (i := 3) rfl rfl) (sn_look (seen_agg (j := 1) (i := 4) rfl rfl) (sn_look (seen_agg (j := 1) (i := 5) rfl rfl) (sn_look (seen_agg (j := 1) (i := 6) rfl rfl) sn_nil))))) ?_
  cases g1 : confMay cf with
  | false =>
    rw [applyS_bad (by unfold applyC; rw [g1]; rfl)]
    refine wsq (wrg (vN tab rfl (vN tab rfl (vN tab rfl (vN tab rfl (vQ tab rfl (vnl (qth (wsq (wsq (wrg (vR rfl callable_25 (conf_tri cf rfl) (vQ2 tab rfl rfl (vgd_op true rfl rfl rfl (by simp only [g1, sl_]; first | done | omega) ?_))))))))))))))
    refine vK3 rfl rfl rfl (vQ2 tab rfl rfl (vK4 rfl rfl rfl rfl (vK2 rfl rfl (vQ tab rfl (vnl (qth (vc_true rfl (wsq (wrg (vQ tab rfl (vS tab rfl (vQ tab rfl (vnl (qth (vw_ret (q_thenr ?_))))))))))))))))
    exact out_mk [NIL, NIL, NIL, NIL] (.inr rfl) ⟨rfl, rfl⟩ rfl (vrel_tuple (lrel_cons (vrel_agg (lrel_cons (.int _ _) (lrel_cons (.int _ _) (lrel_cons (.int _ _) (lrel_cons (rel_nil (sigma_nil (i := 0) rfl) rfl) (lrel_cons (rel_nil (sigma_nil (i := 1) rfl) rfl) (lrel_cons (rel_nil (sigma_nil (i := 2) rfl) rfl) (lrel_cons (rel_nil (sigma_nil (i := 3) rfl) rfl) lrel_nil)))))))) (lrel_cons (.int _ _) lrel_nil))) (op_void (sigma_nil (i := 0) rfl) rfl rfl rfl (op_void (sigma_nil (i := 1) rfl) rfl rfl rfl (op_void (sigma_nil (i := 2) rfl) rfl rfl rfl (op_void (sigma_nil (i := 3) rfl) rfl rfl rfl op_nil)))) trivial
  | true =>
  cases g2 : evtMay ev with
  | false =>
    rw [applyS_bad (by unfold applyC; rw [g1, g2]; rfl)]
    refine wsq (wrg (vN tab rfl (vN tab rfl (vN tab rfl (vN tab rfl (vQ tab rfl (vnl (qth (wsq (wsq (wrg (vR rfl callable_25 (conf_tri cf rfl) (vQ2 tab rfl rfl (vgd_op false rfl rfl rfl (by simp only [g1, g2, sl_]; first | done | omega) ?_))))))))))))))
    refine vQ tab rfl (vF rfl callable_26 (evt_may _) (vQ3 tab rfl rfl rfl (vgd_op true rfl rfl rfl (by simp only [g1, g2, sl_]; first | done | omega) ?_)))
    refine vK4 rfl rfl rfl rfl (vK2 rfl rfl (vQ tab rfl (vnl (qth (vc_true rfl (wsq (wrg (vQ tab rfl (vS tab rfl (vQ tab rfl (vnl (qth (vw_ret (q_thenr ?_))))))))))))))
    exact out_mk [NIL, NIL, NIL, NIL] (.inr rfl) ⟨rfl, rfl⟩ rfl (vrel_tuple (lrel_cons (vrel_agg (lrel_cons (.int _ _) (lrel_cons (.int _ _) (lrel_cons (.int _ _) (lrel_cons (rel_nil (sigma_nil (i := 0) rfl) rfl) (lrel_cons (rel_nil (sigma_nil (i := 1) rfl) rfl) (lrel_cons (rel_nil (sigma_nil (i := 2) rfl) rfl) (lrel_cons (rel_nil (sigma_nil (i := 3) rfl) rfl) lrel_nil)))))))) (lrel_cons (.int _ _) lrel_nil))) (op_void (sigma_nil (i := 0) rfl) rfl rfl rfl (op_void (sigma_nil (i := 1) rfl) rfl rfl rfl (op_void (sigma_nil (i := 2) rfl) rfl rfl rfl (op_void (sigma_nil (i := 3) rfl) rfl rfl rfl op_nil)))) trivial
  | true =>
  cases g3 : ((s.addrs.length : Int) != cf.addresses) with
  | true =>
    rw [applyS_bad (by unfold applyC; rw [g1, g2]; simpa using g3)]
    refine wsq (wrg (vN tab rfl (vN tab rfl (vN tab rfl (vN tab rfl (vQ tab rfl (vnl (qth (wsq (wsq (wrg (vR rfl callable_25 (conf_tri cf rfl) (vQ2 tab rfl rfl (vgd_op false rfl rfl rfl (by simp only [g1, g2, g3, sl_]; first | done | omega) ?_))))))))))))))
    refine vQ tab rfl (vF rfl callable_26 (evt_may _) (vQ3 tab rfl rfl rfl (vgd_op false rfl rfl rfl (by simp only [g1, g2, g3, sl_]; first | done | omega) ?_)))
    refine vQ4 tab rfl rfl rfl rfl (vQ3 tab rfl rfl rfl (vnl (qth (vcd_true rfl (by simp only [g1, g2, g3, sl_]; first | done | omega) ?_))))
    refine wsq (wrg (vQ tab rfl (vS tab rfl (vQ tab rfl (vnl (qth (vw_ret (q_thenr ?_))))))))
    exact out_mk [NIL, NIL, NIL, NIL] (.inr rfl) ⟨rfl, rfl⟩ rfl (vrel_tuple (lrel_cons (vrel_agg (lrel_cons (.int _ _) (lrel_cons (.int _ _) (lrel_cons (.int _ _) (lrel_cons (rel_nil (sigma_nil (i := 0) rfl) rfl) (lrel_cons (rel_nil (sigma_nil (i := 1) rfl) rfl) (lrel_cons (rel_nil (sigma_nil (i := 2) rfl) rfl) (lrel_cons (rel_nil (sigma_nil (i := 3) rfl) rfl) lrel_nil)))))))) (lrel_cons (.int _ _) lrel_nil))) (op_void (sigma_nil (i := 0) rfl) rfl rfl rfl (op_void (sigma_nil (i := 1) rfl) rfl rfl rfl (op_void (sigma_nil (i := 2) rfl) rfl rfl rfl (op_void (sigma_nil (i := 3) rfl) rfl rfl rfl op_nil)))) trivial
  | false =>
  have hC : applyC cf s ev = true := by unfold applyC; rw [g1, g2]; simpa using g3
  cases hE : doesE cf s ev with
  | none =>
    rw [applyS_no hC hE]
    refine wsq (wrg (vN tab rfl (vN tab rfl (vN tab rfl (vN tab rfl (vQ tab rfl (vnl (qth (wsq (wsq (wrg (vR rfl callable_25 (conf_tri cf rfl) (vQ2 tab rfl rfl (vgd_op false rfl rfl rfl (by simp only [g1, g2, g3, sl_]; first | done | omega) ?_))))))))))))))
    refine vQ tab rfl (vF rfl callable_26 (evt_may _) (vQ3 tab rfl rfl rfl (vgd_op false rfl rfl rfl (by simp only [g1, g2, g3, sl_]; first | done | omega) ?_)))
    refine vQ4 tab rfl rfl rfl rfl (vQ3 tab rfl rfl rfl (vnl (qth (vcd_false rfl (by simp only [g1, g2, g3, sl_]; first | done | omega) ?_))))
    refine vw_skip (qth (wsq (wrg (vQ tab rfl (vT rfl callable_27 (copy_tri (s := s) (looks_win userR rfl rfl) (looks_win sessR rfl rfl) (looks_win addrR rfl rfl) (looks_win (intR .i64) rfl rfl) (by omega) (by omega) (by omega) (by omega)) ?_)))))
    refine vQ tab rfl (vN tab rfl (vQ tab rfl (vnl (qth (wsq (wsq (wrg (vQ tab rfl (vT rfl callable_28 (does_no (s := s) (cf := cf) (ev := ev) ⟨rfl, rfl, rfl, rfl, rfl, rfl, rfl, by decide⟩ (by decide) hb1 hb2 hb3 hb4 g2 hE) ?_)))))))))
    refine vQ tab rfl (vnl (qth (vc_true rfl (wsq (wrg (vQ tab rfl (vS tab rfl (vQ tab rfl (vnl (qth (vw_ret (q_thenr ?_))))))))))))
    exact out_mk [NIL, NIL, NIL, NIL] (.inr rfl) ⟨rfl, rfl⟩ rfl (vrel_tuple (lrel_cons (vrel_agg (lrel_cons (.int _ _) (lrel_cons (.int _ _) (lrel_cons (.int _ _) (lrel_cons (rel_nil (sigma_nil (i := 0) rfl) rfl) (lrel_cons (rel_nil (sigma_nil (i := 1) rfl) rfl) (lrel_cons (rel_nil (sigma_nil (i := 2) rfl) rfl) (lrel_cons (rel_nil (sigma_nil (i := 3) rfl) rfl) lrel_nil)))))))) (lrel_cons (.int _ _) lrel_nil))) (op_void (sigma_nil (i := 0) rfl) rfl rfl rfl (op_void (sigma_nil (i := 1) rfl) rfl rfl rfl (op_void (sigma_nil (i := 2) rfl) rfl rfl rfl (op_void (sigma_nil (i := 3) rfl) rfl rfl rfl op_nil)))) trivial
  | some s' =>
    rw [applyS_ok hC hE]
    refine wsq (wrg (vN tab rfl (vN tab rfl (vN tab rfl (vN tab rfl (vQ tab rfl (vnl (qth (wsq (wsq (wrg (vR rfl callable_25 (conf_tri cf rfl) (vQ2 tab rfl rfl (vgd_op false rfl rfl rfl (by simp only [g1, g2, g3, sl_]; first | done | omega) ?_))))))))))))))
    refine vQ tab rfl (vF rfl callable_26 (evt_may _) (vQ3 tab rfl rfl rfl (vgd_op false rfl rfl rfl (by simp only [g1, g2, g3, sl_]; first | done | omega) ?_)))
    refine vQ4 tab rfl rfl rfl rfl (vQ3 tab rfl rfl rfl (vnl (qth (vcd_false rfl (by simp only [g1, g2, g3, sl_]; first | done | omega) ?_))))
    refine vw_skip (qth (wsq (wrg (vQ tab rfl (vT rfl callable_27 (copy_tri (s := s) (looks_win userR rfl rfl) (looks_win sessR rfl rfl) (looks_win addrR rfl rfl) (looks_win (intR .i64) rfl rfl) (by omega) (by omega) (by omega) (by omega)) ?_)))))
    refine vQ tab rfl (vN tab rfl (vQ tab rfl (vnl (qth (wsq (wsq (wrg (vQ tab rfl (vT rfl callable_28 (does_ok (s := s) (cf := cf) (ev := ev) ⟨rfl, rfl, rfl, rfl, rfl, rfl, rfl, by decide⟩ (by decide) hb1 hb2 hb3 hb4 g2 hE) ?_)))))))))
    refine vQ tab rfl (vnl (qth (vc_false rfl (vw_skip (qth (wsq (wrg (vQ4 tab rfl rfl rfl rfl (vS tab rfl (vQ tab rfl (vnl (qth (vw_ret ?_)))))))))))))
    exact out_mk [13, 14, 15, 16] (.inr rfl) ⟨rfl, rfl⟩ rfl (vrel_tuple (lrel_cons (vrel_agg (lrel_cons (.int _ _) (lrel_cons (.int _ _) (lrel_cons (.int _ _) (lrel_cons (rel_slice (sigma_look (i := 0) rfl) rfl) (lrel_cons (rel_slice (sigma_look (i := 1) rfl) rfl) (lrel_cons (rel_slice (sigma_look (i := 2) rfl) rfl) (lrel_cons (rel_slice (sigma_look (i := 3) rfl) rfl) lrel_nil)))))))) (lrel_cons (.int _ _) lrel_nil))) (op_cons (sigma_look (i := 0) rfl) rfl rfl (ov_opn userR rfl) rfl (op_cons (sigma_look (i := 1) rfl) rfl rfl (ov_opn sessR rfl) rfl (op_cons (sigma_look (i := 2) rfl) rfl rfl (ov_opn addrR rfl) rfl (op_cons (sigma_look (i := 3) rfl) rfl rfl (ov_opn (intR .i64) rfl) rfl op_nil)))) trivial
theorem apply_any {s' : StV} {r : Int} (hr : applyS cf s ev = (s', r)) (h1 : Looks V 9 v1 (userR.cells s.users) s.users.length) (h2 : Looks V 4 v2 (sessR.cells s.sess) s.sess.length) (h3 : Looks V 3 v3 (addrR.cells s.addrs) s.addrs.length) (h4 : Looks V 1 v4 ((intR .i64).cells s.spent) s.spent.length)
    (hb1 : s.users.length * 72 ≤ 140737488355000) (hb2 : s.sess.length * 32 ≤ 140737488355000) (hb3 : s.addrs.length * 24 ≤ 140737488355000) (hb4 : s.spent.length * 8 ≤ 140737488355000) :
    Tri Tryz.prog 13 [confV cf, .agg #[.int .i64 s.boots, .int .i64 s.epoch, .int .i64 s.next, v1, v2, v3, v4], evtV ev] n 4 V (fun u L => u = .tuple #[stV n (n + 1) (n + 2) (n + 3) s', .int .i64 r] ∧ L = stL n s') := by
  have := apply_tri (n := n) (cf := cf) (ev := ev) h1 h2 h3 h4 hb1 hb2 hb3 hb4
  rw [hr] at this; exact this
theorem apply_as {s' : StV} {r : Int} (hr : applyS cf s ev = (s', r)) (h1 : Looks V 9 v1 (userR.cells s.users) s.users.length) (h2 : Looks V 4 v2 (sessR.cells s.sess) s.sess.length) (h3 : Looks V 3 v3 (addrR.cells s.addrs) s.addrs.length) (h4 : Looks V 1 v4 ((intR .i64).cells s.spent) s.spent.length)
    (hb1 : s.users.length * 72 ≤ 140737488355000) (hb2 : s.sess.length * 32 ≤ 140737488355000) (hb3 : s.addrs.length * 24 ≤ 140737488355000) (hb4 : s.spent.length * 8 ≤ 140737488355000) (_ : ev.kind = 1 → userAt s.users ev.user = none → EndU s ev) :
    Tri Tryz.prog 13 [confV cf, .agg #[.int .i64 s.boots, .int .i64 s.epoch, .int .i64 s.next, v1, v2, v3, v4], evtV ev] n 4 V (fun u L => u = .tuple #[stV n (n + 1) (n + 2) (n + 3) s', .int .i64 r] ∧ L = stL n s') :=
  apply_any hr h1 h2 h3 h4 hb1 hb2 hb3 hb4
end
end Go.Proofs.YtcjfidfealifhaaGreat
namespace Go.Proofs.YtcjfidfealifhaaGreat
open Go Vm IntWalk
set_option linter.unusedVariables false
set_option linter.unusedSimpArgs false
def SrtN (l : List Int) : Prop := l.Pairwise (· < ·) ∧ ∀ y ∈ l, 0 ≤ y ∧ y < 8
theorem srt_len : ∀ (l : List Int) (lo : Int), lo ≤ 8 → l.Pairwise (· < ·) → (∀ y ∈ l, lo ≤ y ∧ y < 8) → (l.length : Int) ≤ 8 - lo
  | [], lo, h, _, _ => by simp; omega
  | a :: r, lo, h, hp, hm => by
    have h1 := hm a List.mem_cons_self
    obtain ⟨h2, h3⟩ := List.pairwise_cons.1 hp
    have := srt_len r (a + 1) (by omega) h3 (fun y hy => ⟨by have := h2 y hy; omega, (hm y (List.mem_cons_of_mem _ hy)).2⟩)
    simp only [List.length_cons]; omega
theorem srt_eight {us : List UserV} (h : SrtN (us.map UserV.user)) : us.length ≤ 8 := by
  have := srt_len _ 0 (by decide) h.1 h.2
  rw [List.length_map] at this; omega
theorem put_cons {a u : UserV} {r : List UserV} : userPut (a :: r) u = if u.user < a.user then u :: a :: r else a :: userPut r u := by
  unfold userPut gtAt
  rw [List.findIdx_cons]
  by_cases h : u.user < a.user <;> simp [h]
theorem put_mem {u y : UserV} : ∀ (us : List UserV), y ∈ userPut us u → y = u ∨ y ∈ us
  | [], h => by simp [userPut, gtAt] at h; exact .inl h
  | a :: r, h => by
    rw [put_cons] at h
    split at h
    · rcases List.mem_cons.1 h with h | h
      · exact .inl h
      · exact .inr h
    · rcases List.mem_cons.1 h with h | h
      · exact .inr (by rw [h]; exact List.mem_cons_self)
      · rcases put_mem r h with h | h
        · exact .inl h
        · exact .inr (List.mem_cons_of_mem _ h)
theorem put_pair {u : UserV} : ∀ (us : List UserV), (us.map UserV.user).Pairwise (· < ·) → (∀ y ∈ us, y.user ≠ u.user) → ((userPut us u).map UserV.user).Pairwise (· < ·)
  | [], _, _ => by simp [userPut, gtAt]
  | a :: r, hp, hn => by
    rw [List.map_cons, List.pairwise_cons] at hp
    obtain ⟨h1, h2⟩ := hp
    have ha := hn a List.mem_cons_self
    rw [put_cons]
    split
    · rename_i hlt
      rw [List.map_cons, List.pairwise_cons, List.map_cons, List.pairwise_cons]
      refine ⟨fun b hb => ?_, h1, h2⟩
      rcases List.mem_cons.1 hb with rfl | hb
      · exact hlt
      · exact Int.lt_trans hlt (h1 b hb)
    · rename_i hge
      rw [List.map_cons, List.pairwise_cons]
      refine ⟨fun b hb => ?_, put_pair r h2 (fun y hy => hn y (List.mem_cons_of_mem _ hy))⟩
      obtain ⟨y, hy, rfl⟩ := List.mem_map.1 hb
      rcases put_mem r hy with rfl | hy
      · omega
      · exact h1 _ (List.mem_map.2 ⟨y, hy, rfl⟩)
theorem set_same {α : Type} {l : List α} {i : Nat} {x : α} (h : l[i]? = some x) : l.set i x = l := by
  apply List.ext_getElem?
  intro j
  rw [List.getElem?_set]
  split
  · rename_i hij; subst hij
    rw [h, if_pos (List.getElem?_eq_some_iff.1 h).1]
  · rfl
theorem map_set_same {us : List UserV} {j : Nat} {x y : UserV} (h : us[j]? = some x) (hu : y.user = x.user) : (us.set j y).map UserV.user = us.map UserV.user := by
  rw [List.map_set]
  exact set_same (by rw [List.getElem?_map, h, hu]; rfl)
theorem useU_map {us : List UserV} {u a : Int} : (useU us u a).map UserV.user = us.map UserV.user := by
  unfold useU; split
  · rfl
  · split
    · rfl
    · rename_i h; exact map_set_same h rfl
theorem ofU_user {c : ConfV} {e : EventV} {u w : UserV} (h : ofU c e u = some w) : w.user = u.user := by
  unfold ofU at h
  split at h
  · split at h
    · cases h; rfl
    · cases h
  split at h
  · split at h
    split at h
    · cases h; rfl
    · cases h
  split at h
  · split at h
    · cases h
    · cases h; rfl
  · cases h; rfl
theorem does_srt {c : ConfV} {s s' : StV} {e : EventV} (hm : evtMay e = true) (hs : SrtN (s.users.map UserV.user)) (h : doesE c s e = some s') : SrtN (s'.users.map UserV.user) := by
  unfold doesE at h
  split at h
  · unfold bootE at h; split at h
    · cases h
    · split at h
      · cases h; exact hs
      · cases h
  split at h
  · rename_i hk
    unfold userE at h; split at h
    · cases h
    · rename_i hn
      cases h
      have hu : 0 ≤ e.user ∧ e.user < 8 := by
        constructor
        · have := evt_may_nums hm e.user (by unfold evtNums; simp [hk])
          exact (okN_iff.1 this).1
        · unfold evtMay at hm; simp only [Bool.and_eq_true, decide_eq_true_eq] at hm
          omega
      have hne : ∀ y ∈ s.users, y.user ≠ e.user := fun y hy => by
        unfold userAt at hn
        rw [List.findIdx?_eq_none_iff] at hn
        have := hn y hy; simpa using this
      refine ⟨put_pair _ hs.1 hne, fun y hy => ?_⟩
      obtain ⟨z, hz, rfl⟩ := List.mem_map.1 hy
      rcases put_mem _ hz with rfl | hz
      · exact hu
      · exact hs.2 _ (List.mem_map.2 ⟨z, hz, rfl⟩)
  split at h
  · unfold leaseE at h; split at h
    · cases h; exact hs
    · cases h
  split at h
  · unfold closeE at h; split at h
    · cases h
    · split at h
      · cases h
      · split at h
        · cases h
          show SrtN ((useU _ _ _).map UserV.user)
          rw [useU_map]; exact hs
        · cases h
  split at h
  · split at h
    · cases h; exact hs
    · cases h
  split at h
  · unfold spendE at h; split at h
    · cases h
    · cases h; exact hs
  · cases hk1 : userAt s.users e.user with
    | none => rw [ofE_none hk1] at h; cases h
    | some j =>
      have hjl := (user_found hk1).1
      have hj : s.users[j]? = some s.users[j] := List.getElem?_eq_getElem hjl
      rw [ofE_eq hk1 hj] at h
      obtain ⟨w, hw, rfl⟩ := Option.map_eq_some_iff.1 h
      show SrtN ((s.users.set j w).map UserV.user)
      rw [map_set_same hj (ofU_user hw)]; exact hs
end Go.Proofs.YtcjfidfealifhaaGreat
namespace Go.Proofs.YtcjfidfealifhaaGreat
open Go Vm IntWalk
set_option linter.unusedVariables false
set_option linter.unusedSimpArgs false
set_option maxHeartbeats 16000000
theorem freeAll_len {W : Int} : ∀ (xs : List SessV) (aa r : List AddrV), freeAll W xs aa = some r → r.length = aa.length
  | [], aa, r, h => by cases h; rfl
  | x :: xs, aa, r, h => by
    unfold freeAll at h
    split at h
    · rename_i hc; rw [freeAll_len xs _ r h, freeA_lenOk hc]
    · cases h
theorem useU_len {us : List UserV} {u a : Int} : (useU us u a).length = us.length := by
  unfold useU; split
  · rfl
  · split
    · rfl
    · simp
theorem does_len {c : ConfV} {s s' : StV} {e : EventV} (h : doesE c s e = some s') : s'.users.length ≤ s.users.length + 1 ∧ s'.sess.length ≤ s.sess.length + 1 ∧ s'.addrs.length = s.addrs.length ∧ s'.spent.length ≤ s.spent.length + 1 := by
  unfold doesE at h
  split at h
  · unfold bootE at h; split at h
    · cases h
    · rename_i hf; split at h
      · cases h; exact ⟨Nat.le_add_right _ _, Nat.zero_le _, freeAll_len _ _ _ hf, Nat.le_add_right _ _⟩
      · cases h
  split at h
  · unfold userE at h; split at h
    · cases h
    · cases h
      refine ⟨?_, Nat.le_add_right _ _, rfl, Nat.le_add_right _ _⟩
      simp only [userPut, List.length_append, List.length_take, List.length_cons, List.length_drop]; omega
  split at h
  · unfold leaseE at h; split at h
    · rename_i hq
      cases h
      refine ⟨Nat.le_add_right _ _, by simp, ?_, Nat.le_add_right _ _⟩
      show (takeA _ _ _).1.length = _; rw [takeA_ok hq.1]; simp
    · cases h
  split at h
  · unfold closeE at h; split at h
    · cases h
    · split at h
      · cases h
      · split at h
        · rename_i hf
          cases h
          refine ⟨by show (useU _ _ _).length ≤ _; rw [useU_len]; omega, ?_, freeA_lenOk hf, Nat.le_add_right _ _⟩
          show (List.eraseIdx _ _).length ≤ _
          rw [List.length_eraseIdx]; split <;> omega
        · cases h
  split at h
  · split at h
    · cases h; exact ⟨Nat.le_add_right _ _, Nat.le_add_right _ _, rfl, Nat.le_add_right _ _⟩
    · cases h
  split at h
  · unfold spendE at h; split at h
    · cases h
    · cases h; exact ⟨Nat.le_add_right _ _, Nat.le_add_right _ _, rfl, by simp⟩
  · cases hk1 : userAt s.users e.user with
    | none => rw [ofE_none hk1] at h; cases h
    | some j =>
      have hjl := (user_found hk1).1
      have hj : s.users[j]? = some s.users[j] := List.getElem?_eq_getElem hjl
      rw [ofE_eq hk1 hj] at h
      obtain ⟨w, _, rfl⟩ := Option.map_eq_some_iff.1 h
      exact ⟨by simp, Nat.le_add_right _ _, rfl, Nat.le_add_right _ _⟩
def endB (s : StV) (e : EventV) : Bool := !(e.kind == 1) || (userAt s.users e.user).isSome || s.users.all fun y => decide (y.user ≤ e.user)
def endsB (c : ConfV) : StV → List EventV → Bool
  | _, [] => true
  | s, e :: es => endB s e && endsB c (applyS c s e).1 es
theorem goS_cons {c : ConfV} {s : StV} {e : EventV} {es : List EventV} : goS c s (e :: es) = (match applyS c s e with
    | (t, 0) => goS c t es
    | (_, f) => (st0, f)) := id rfl
theorem goS_if {c : ConfV} {es : List EventV} {s' : StV} {f : Int} : (match (s', f) with
    | (t, 0) => goS c t es
    | (_, f) => (st0, f)) = if f = 0 then goS c s' es else (st0, f) := by
  by_cases hf : f = 0
  · subst hf; rw [if_pos rfl]; rfl
  · rw [if_neg hf]
    split
    · rename_i h; exact absurd (Prod.mk.inj h).2 hf
    · rename_i h; rw [(Prod.mk.inj h).2]
theorem goS_step {c : ConfV} {s s' : StV} {f : Int} {es : List EventV} {j : Nat} {e : EventV} (h : es[j]? = some e) (ha : applyS c s e = (s', f)) : goS c s (es.drop j) = if f = 0 then goS c s' (es.drop (j + 1)) else (st0, f) := by
  have hi := (List.getElem?_eq_some_iff.1 h).1
  rw [List.drop_eq_getElem_cons hi, (List.getElem?_eq_some_iff.1 h).2, goS_cons, ha]
  exact goS_if
theorem allS_eq {c : ConfV} {es : List EventV} {s : StV} {f : Int} (h : newS c.addresses = (s, f)) : allS c es = if f = 0 then goS c s es else (st0, f) := by
  unfold allS; rw [h]
  exact goS_if
theorem snew_as {V : Heap} {n : Nat} {c : Int} (r : StV × Int) (h : newS c = r) :
    Tri Tryz.prog 4 [.int .i64 c] n 4 V (fun u L => u = .tuple #[stV n (n + 1) (n + 2) (n + 3) r.1, .int .i64 r.2] ∧ L = stL n r.1) := by subst h; exact snew_tri c
abbrev stO (u x a p : Nat) (s : StV) : VObj := .cells [.int .i64 s.boots, .int .i64 s.epoch, .int .i64 s.next, .slice (some ⟨u, 0, none⟩) s.users.length 0, .slice (some ⟨x, 0, none⟩) s.sess.length 0, .slice (some ⟨a, 0, none⟩) s.addrs.length 0, .slice (some ⟨p, 0, none⟩) s.spent.length 0] 29 (0, 0)
abbrev zO : VObj := .cells [.int .i64 0, .int .i64 0, .int .i64 0, .slice none 0 0, .slice none 0 0, .slice none 0 0, .slice none 0 0] 29 (0, 0)
theorem ov_st {σ : Ren} {b1 b2 b3 : Int} {v1 v2 v3 v4 w1 w2 w3 w4 : Value} (h1 : VRel σ v1 w1) (h2 : VRel σ v2 w2) (h3 : VRel σ v3 w3) (h4 : VRel σ v4 w4) :
    OV σ (.cells [.int .i64 b1, .int .i64 b2, .int .i64 b3, v1, v2, v3, v4] 29 (0, 0)) (.cells [.int .i64 b1, .int .i64 b2, .int .i64 b3, w1, w2, w3, w4] 29 (0, 0)) :=
  .cells _ _ (lrel_cons (.int _ _) (lrel_cons (.int _ _) (lrel_cons (.int _ _) (lrel_cons h1 (lrel_cons h2 (lrel_cons h3 (lrel_cons h4 lrel_nil)))))))
def Fit (k : Nat) (s : StV) : Prop := SrtN (s.users.map UserV.user) ∧ s.sess.length ≤ k ∧ s.addrs.length ≤ 16 ∧ s.spent.length ≤ k
theorem srt_nil : SrtN [] := ⟨.nil, fun y hy => by cases hy⟩
theorem fit_st0 {k : Nat} : Fit k st0 := ⟨srt_nil, Nat.zero_le _, by decide, Nat.zero_le _⟩
theorem apply_fit {k : Nat} {c : ConfV} {s : StV} {e : EventV} (h : Fit k s) : Fit (k + 1) (applyS c s e).1 := by
  unfold applyS
  split
  · rename_i hC
    cases hE : doesE c s e with
    | none => exact fit_st0
    | some s' =>
      obtain ⟨h1, h2, h3, h4⟩ := does_len hE
      obtain ⟨g1, g2, g3, g4⟩ := h
      have hm : evtMay e = true := by unfold applyC at hC; simp only [Bool.and_eq_true] at hC; exact hC.1.2
      exact ⟨does_srt hm g1 hE, by show s'.sess.length ≤ _; omega, by show s'.addrs.length ≤ _; omega, by show s'.spent.length ≤ _; omega⟩
  · exact fit_st0
theorem new_fit {c : Int} : Fit 0 (newS c).1 := by
  unfold newS; split
  · rename_i h
    refine ⟨srt_nil, Nat.le_refl _, ?_, Nat.le_refl _⟩
    show (newP c).1.length ≤ 16
    rw [newP_ok h]; simp; omega
  · exact fit_st0
theorem all_tri {V : Heap} {n : Nat} {sv : Value} {cf : ConfV} {es : List EventV} (hl : Looks V 8 sv (evtR.cells es) es.length) (hb : es.length ≤ 2199023255488) :
    Tri Tryz.prog 7 [confV cf, sv] n 4 V (fun u L => u = .tuple #[stV n (n + 1) (n + 2) (n + 3) (allS cf es).1, .int .i64 (allS cf es).2] ∧ L = stL n (allS cf es).1) := by
  refine call_of_vw (K := 1) (argsI := [confV cf, .slice (some ⟨0, 0, none⟩) es.length 0]) tab Tryz.func7 rfl rfl (by simp [Tryz.f7]) [.look sv es.length 8] [.win (evtR.cells es) 8] rfl (.look hl (evtR.flat_cells es) .nil) (by simp [ownNames]) (by simp [ownNames, lookNames]) (by simp [ownNames, *]) (al_cons (.val (confRel cf)) (al_cons (.look (a := 0) rfl) al_nil)) (seen_of (sn_look (seen_top (j := 1) rfl) sn_nil)) ?_
  obtain ⟨s1, f1, hn⟩ : ∃ s1 f1, newS cf.addresses = (s1, f1) := ⟨_, _, rfl⟩
  have hsm : Fit 0 s1 := by have := @new_fit cf.addresses; rw [hn] at this; exact this
  obtain ⟨R, hR⟩ : ∃ R, allS cf es = R := ⟨_, rfl⟩
  have hA := (allS_eq (es := es) hn).symm.trans hR
  rw [hR]
  refine wsq (wrg (vN tab rfl (vN tab rfl (vQ tab rfl (vnl (qth (wsq (wrg (vQ2 tab rfl rfl (vT rfl callable_4 (snew_as _ hn) (vQ3 tab rfl rfl rfl (vN tab rfl (vS tab rfl (vQ tab rfl (vnl (qth (wsq (wsq (wrg (vQ tab rfl ?_))))))))))))))))))))
  refine vnl (qth (wbk ?_))
  refine vw_loop_sub (fun k st => ∃ (j : Int) (s : StV) (f : Int), 0 ≤ j ∧ j ≤ es.length ∧ Fit j.toNat s ∧ (if f = 0 then goS cf s (es.drop j.toNat) else (st0, f)) = R ∧ k = (es.length - j).toNat ∧
      st = ⟨[(1, .slice (some ⟨0, 0, none⟩) es.length 0), (2, .pointer (some ⟨1, 0, none⟩)), (4, .pointer (some ⟨2, 0, none⟩)), (6, .pointer (some ⟨3, 0, none⟩)), (7, .int .i64 f), (8, .int .i64 j)],
        lkp [(0, .win (evtR.cells es) 8), (1, confO cf), (2, zO), (3, stO 4 5 6 7 s), (4, .opn (userR.cells s.users) 76 9), (5, .opn (sessR.cells s.sess) 78 4), (6, .opn (addrR.cells s.addrs) 80 3), (7, .opn ((intR .i64).cells s.spent) 3 1)], 8⟩) (es.length - 0)
    ⟨_, (sub_of (g := 1) [1, 2, 7, 3, 4, 5, 6] (by decide) (by decide) (by repeat' first | exact ep_nil | exact ov_conf rfl | exact ov_st .nilSlice .nilSlice .nilSlice .nilSlice | exact ov_st (rel_slice rfl rfl) (rel_slice rfl rfl) (rel_slice rfl rfl) (rel_slice rfl rfl) | refine ep_cons rfl ?_ ?_ | exact .int _ _ | exact .bool _ | exact .string _ | exact rel_slice rfl rfl | exact rel_nil rfl rfl | exact rel_ptr rfl | exact .nilPtr | exact .nilIface | exact .nilSlice) (by repeat' first | exact hp_nil | exact ov_conf rfl | exact ov_st .nilSlice .nilSlice .nilSlice .nilSlice | exact ov_st (rel_slice rfl rfl) (rel_slice rfl rfl) (rel_slice rfl rfl) (rel_slice rfl rfl) | refine hp_cons rfl rfl ?_ ?_ | refine hp_void rfl rfl ?_ | exact ov_win _ | exact ov_opn _ rfl | exact ov_cells _ _ (by decide))), 0, s1, f1, by omega, by omega, hsm, hA, by simp, rfl⟩ ?_
  rintro k st ⟨j, s, f, g0, g1, hs, hr, rfl, rfl⟩
  by_cases hf : f = 0
  case neg =>
    rw [if_neg hf] at hr; subst hr
    have hfb : (f == 0) = false := by simpa using hf
    have hfn : (f != 0) = true := by simpa using hf
    refine wsq (wsq (wrg (vQ4 tab rfl rfl rfl rfl (vQ tab rfl ?_))))
    refine vg_op rfl rfl rfl (fun _ => ?_) (fun _ => ?_)
    refine vQ3 tab rfl rfl rfl (vnl (qth (vcd_false rfl (by simp only [hfb, hfn, sl_]; first | done | omega) ?_)))
    refine vw_exit (q_thenx (q_thenx (q_here (qth (wsq (wsq (wrg (vQ2 tab rfl rfl (vnl (qth (vcd_true rfl (by simp only [hfb, hfn, sl_]; first | done | omega) ?_)))))))))))
    refine wsq (wrg (vQ2 tab rfl rfl (vS tab rfl (vQ tab rfl (vnl (qth (vw_ret (q_thenr ?_))))))))
    rotate_left
    refine vK2 rfl rfl (vQ tab rfl (vnl (qth (vc_false rfl (vw_exit (q_thenx (q_thenx (q_here (qth (wsq (wsq (wrg (vQ2 tab rfl rfl (vnl (qth (vcd_true rfl (by simp only [hfb, hfn, sl_]; first | done | omega) ?_))))))))))))))))
    refine wsq (wrg (vQ2 tab rfl rfl (vS tab rfl (vQ tab rfl (vnl (qth (vw_ret (q_thenr ?_))))))))
    rotate_left
    all_goals exact out_mk [NIL, NIL, NIL, NIL] (.inr rfl) ⟨rfl, rfl⟩ rfl (vrel_tuple (lrel_cons (vrel_agg (lrel_cons (.int _ _) (lrel_cons (.int _ _) (lrel_cons (.int _ _) (lrel_cons (rel_nil (sigma_nil (i := 0) rfl) rfl) (lrel_cons (rel_nil (sigma_nil (i := 1) rfl) rfl) (lrel_cons (rel_nil (sigma_nil (i := 2) rfl) rfl) (lrel_cons (rel_nil (sigma_nil (i := 3) rfl) rfl) lrel_nil)))))))) (lrel_cons (.int _ _) lrel_nil))) (op_void (sigma_nil (i := 0) rfl) rfl rfl rfl (op_void (sigma_nil (i := 1) rfl) rfl rfl rfl (op_void (sigma_nil (i := 2) rfl) rfl rfl rfl (op_void (sigma_nil (i := 3) rfl) rfl rfl rfl op_nil)))) trivial
  subst hf
  rw [if_pos rfl] at hr
  by_cases hj : j < (es.length : Int)
  case neg =>
    rw [List.drop_eq_nil_of_le (by omega)] at hr
    have hr : (s, (0 : Int)) = R := hr
    subst hr
    refine wsq (wsq (wrg (vQ4 tab rfl rfl rfl rfl (vQ tab rfl (vgd_op false rfl rfl rfl (by simp only [sl_]; first | done | omega) ?_)))))
    refine vK2 rfl rfl (vQ tab rfl (vnl (qth (vc_false rfl (vw_exit (q_thenx (q_thenx (q_here (qth (wsq (wsq (wrg (vQ2 tab rfl rfl (vnl (qth (vc_false rfl (vw_skip (qth (wsq (wrg (vQ tab rfl ?_)))))))))))))))))))))
    refine vS tab rfl (vQ tab rfl (vnl (qth (vw_ret ?_))))
    exact out_mk [4, 5, 6, 7] (.inr rfl) ⟨rfl, rfl⟩ rfl (vrel_tuple (lrel_cons (vrel_agg (lrel_cons (.int _ _) (lrel_cons (.int _ _) (lrel_cons (.int _ _) (lrel_cons (rel_slice (sigma_look (i := 0) rfl) rfl) (lrel_cons (rel_slice (sigma_look (i := 1) rfl) rfl) (lrel_cons (rel_slice (sigma_look (i := 2) rfl) rfl) (lrel_cons (rel_slice (sigma_look (i := 3) rfl) rfl) lrel_nil)))))))) (lrel_cons (.int _ _) lrel_nil))) (op_cons (sigma_look (i := 0) rfl) rfl rfl (ov_opn userR rfl) rfl (op_cons (sigma_look (i := 1) rfl) rfl rfl (ov_opn sessR rfl) rfl (op_cons (sigma_look (i := 2) rfl) rfl rfl (ov_opn addrR rfl) rfl (op_cons (sigma_look (i := 3) rfl) rfl rfl (ov_opn (intR .i64) rfl) rfl op_nil)))) trivial
  obtain ⟨e, hx⟩ := get_some g0 hj
  have hi : IntKind.i64.wrap (j + 1) = j + 1 := i64_in _ (by omega)
  have hjn : (j + 1).toNat = j.toNat + 1 := by omega
  obtain ⟨s', f', ha⟩ : ∃ s' f', applyS cf s e = (s', f') := ⟨_, _, rfl⟩
  rw [goS_step hx ha] at hr
  have hs' : Fit (j.toNat + 1) s' := by have := apply_fit (c := cf) (e := e) hs; rw [ha] at this; exact this
  obtain ⟨z0, z2, z3, z4⟩ := hs
  have z1 := srt_eight z0
  refine wsq (wsq (wrg (vQ4 tab rfl rfl rfl rfl (vQ tab rfl (vgd_op true rfl rfl rfl (by simp only [sl_]; first | done | omega) ?_)))))
  refine vQ3 tab rfl rfl rfl (vnl (qth (vc_true rfl (vw_skip (qth (wsq (wbk (vw_draw mixed (dq_op tab rfl rfl rfl rfl (dq_op tab rfl rfl rfl rfl (dq_op tab rfl rfl rfl rfl (dq_op tab rfl rfl rfl rfl (dq_op tab rfl rfl (ev_index rfl rfl rfl rfl rfl (by omega) (by omega)) (ev_index rfl rfl rfl rfl rfl (by omega) (by omega)) ?_)))))))))))))
  refine dq_op tab rfl rfl (ev_loadrow evtR rfl rfl rfl rfl rfl rfl hx) (ev_loadrow evtR rfl rfl rfl rfl rfl rfl hx) (dt_op [4, 5, 6, 7] rfl rfl rfl rfl rfl callable_13 (apply_any ha (looks_opn userR rfl rfl) (looks_opn sessR rfl rfl) (looks_opn addrR rfl rfl) (looks_opn (intR .i64) rfl rfl) (by omega) (by omega) (by omega) (by omega)) ?_)
  refine dq_op tab rfl rfl rfl rfl (dq_op tab rfl rfl rfl rfl (dq_op tab rfl rfl rfl rfl (ds_op tab rfl rfl rfl rfl (dq_op tab rfl rfl rfl rfl (vd_nil (by kernel_rfl) ?_)))))
  refine q_norm (qth (wrg (vQ3 tab rfl rfl rfl (vnl (qth ?_)))))
  exact ⟨(es.length - (j + 1)).toNat, _, by omega, (sub_of (g := 1) [1, 2, 3, 8, 9, 10, 11] (by decide) (by decide) (by repeat' first | exact ep_nil | exact ri hi.symm | exact ov_conf rfl | exact ov_st .nilSlice .nilSlice .nilSlice .nilSlice | exact ov_st (rel_slice rfl rfl) (rel_slice rfl rfl) (rel_slice rfl rfl) (rel_slice rfl rfl) | refine ep_cons rfl ?_ ?_ | exact .int _ _ | exact .bool _ | exact .string _ | exact rel_slice rfl rfl | exact rel_nil rfl rfl | exact rel_ptr rfl | exact .nilPtr | exact .nilIface | exact .nilSlice) (by repeat' first | exact hp_nil | exact ri hi.symm | exact ov_conf rfl | exact ov_st .nilSlice .nilSlice .nilSlice .nilSlice | exact ov_st (rel_slice rfl rfl) (rel_slice rfl rfl) (rel_slice rfl rfl) (rel_slice rfl rfl) | refine hp_cons rfl rfl ?_ ?_ | refine hp_void rfl rfl ?_ | exact ov_win _ | exact ov_opn _ rfl | exact ov_cells _ _ (by decide))), j + 1, s', f', by omega, by omega, by rw [hjn]; exact hs', by rw [hjn]; exact hr, rfl, rfl⟩
theorem all_any {V : Heap} {n : Nat} {sv : Value} {cf : ConfV} {es : List EventV} {s : StV} {r : Int} (hr : allS cf es = (s, r)) (hb : es.length ≤ 2199023255488) (hl : Looks V 8 sv (evtR.cells es) es.length) :
    Tri Tryz.prog 7 [confV cf, sv] n 4 V (fun u L => u = .tuple #[stV n (n + 1) (n + 2) (n + 3) s, .int .i64 r] ∧ L = stL n s) := by
  have := all_tri (cf := cf) (n := n) hl hb; rw [hr] at this; exact this
theorem all_as {V : Heap} {n : Nat} {sv : Value} {cf : ConfV} {es : List EventV} {s : StV} {r : Int} (hr : allS cf es = (s, r)) (_ : endsB cf (newS cf.addresses).1 es = true) (hb : es.length ≤ 1000000000) (hl : Looks V 8 sv (evtR.cells es) es.length) :
    Tri Tryz.prog 7 [confV cf, sv] n 4 V (fun u L => u = .tuple #[stV n (n + 1) (n + 2) (n + 3) s, .int .i64 r] ∧ L = stL n s) := all_any hr (by omega) hl
end Go.Proofs.YtcjfidfealifhaaGreat
namespace Go.Proofs.YtcjfidfealifhaaGreat
open Go Vm IntWalk
set_option linter.unusedVariables false
set_option linter.unusedSimpArgs false
set_option maxHeartbeats 16000000
set_option maxHeartbeats 4000000 in
theorem same_users {V : Heap} {n : Nat} {sva svb : Value} {xs ys : List UserV} (ha : Looks V 9 sva (userR.cells xs) xs.length) (hb : Looks V 9 svb (userR.cells ys) ys.length) (hx : xs.length ≤ 140737488355328) (hy : ys.length ≤ 140737488355328) :
    Tri Tryz.prog 20 [sva, svb] n 0 V (fun u L => u = .bool (decide (xs = ys)) ∧ L = []) := by
  refine reads_of_vw (K := 2) (argsI := [.slice (some ⟨0, 0, none⟩) xs.length 0, .slice (some ⟨1, 0, none⟩) ys.length 0]) tab Tryz.func20 rfl rfl (by simp [Tryz.f20]) [.look sva xs.length 9, .look svb ys.length 9] [.win (userR.cells xs) 9, .win (userR.cells ys) 9] rfl (.look ha (userR.flat_cells xs) (.look hb (userR.flat_cells ys) .nil)) (by simp [ownNames]) (by simp [ownNames, lookNames]) (al_cons (.look (a := 0) rfl) (al_cons (.look (a := 1) rfl) al_nil)) (seen_of (sn_look (seen_top (j := 0) rfl) (sn_look (seen_top (j := 1) rfl) sn_nil))) (.bool _) ?_
  by_cases hlen : xs.length = ys.length
  case neg =>
    have hne : xs ≠ ys := fun e => hlen (by rw [e])
    have hd : ((xs.length : Int) != (ys.length : Int)) = true := by simpa using (show ¬ (xs.length : Int) = ys.length by omega)
    refine wsq (wrg (vQ tab rfl (vnl (qth (wsq (wsq (wrg (vQ4 tab rfl rfl rfl rfl (vQ tab rfl (vnl (qth (vcd_true rfl (by simp only [hd, sl_]; first | done | omega) ?_))))))))))))
    refine wsq (wrg (vQ tab rfl (vnl (qth (vw_ret (q_thenr ?_))))))
    exact ⟨⟨.inr rfl, by rw [decide_eq_false hne]; rfl⟩, trivial⟩
  have hd : ((xs.length : Int) != (ys.length : Int)) = false := by simpa using (show (xs.length : Int) = ys.length by omega)
  refine wsq (wrg (vQ tab rfl (vnl (qth (wsq (wsq (wrg (vQ4 tab rfl rfl rfl rfl (vQ tab rfl (vnl (qth (vcd_false rfl (by simp only [hd, sl_]; first | done | omega) ?_))))))))))))
  refine vw_skip (qth (wsq (wsq (wrg (vQ tab rfl (vnl (qth (wbk ?_))))))))
  refine vw_loop_sub (fun k s => ∃ j : Int, 0 ≤ j ∧ j ≤ xs.length ∧ xs.take j.toNat = ys.take j.toNat ∧ k = (xs.length - j).toNat ∧
      s = ⟨[(0, .slice (some ⟨0, 0, none⟩) xs.length 0), (1, .slice (some ⟨1, 0, none⟩) ys.length 0), (5, .int .i64 j)], lkp [(0, .win (userR.cells xs) 9), (1, .win (userR.cells ys) 9)], 2⟩) (xs.length - 0)
    ⟨_, (sub_of (g := 2) [] (by decide) (by decide) (by repeat' first | exact ep_nil | refine ep_cons rfl ?_ ?_ | exact .int _ _ | exact .bool _ | exact .string _ | exact rel_slice rfl rfl | exact rel_nil rfl rfl | exact rel_ptr rfl | exact .nilPtr | exact .nilIface | exact .nilSlice) (by repeat' first | exact hp_nil | refine hp_cons rfl rfl ?_ ?_ | refine hp_void rfl rfl ?_ | exact ov_win _ | exact ov_opn _ rfl | exact ov_cells _ _ (by decide))), 0, by omega, by omega, by simp, by simp, rfl⟩ ?_
  rintro k s ⟨j, h0, h1, ht, rfl, rfl⟩
  by_cases hj : j < (xs.length : Int)
  case neg =>
    have he : xs = ys := by rw [show j.toNat = xs.length by omega, List.take_length, hlen, List.take_length] at ht; exact ht
    refine wsq (wsq (wrg (vQ4 tab rfl rfl rfl rfl (vnl (qth (vcd_false rfl (by simp only [sl_]; first | done | omega) ?_))))))
    refine vw_exit (q_thenx (q_thenx (q_here (qth (wsq (wrg (vQ tab rfl (vnl (qth (vw_ret ?_))))))))))
    exact ⟨⟨.inr rfl, by rw [decide_eq_true he]; rfl⟩, trivial⟩
  obtain ⟨a, hxa⟩ := get_some h0 hj
  obtain ⟨b, hyb⟩ := get_some (xs := ys) h0 (by omega)
  have hi : IntKind.i64.wrap (j + 1) = j + 1 := i64_in _ (by omega)
  have hjn : (j + 1).toNat = j.toNat + 1 := by omega
  by_cases hab : a = b
  · have hd := decide_eq_true hab
    refine wsq (wsq (wrg (vQ4 tab rfl rfl rfl rfl (vnl (qth (vcd_true rfl (by simp only [hi, hd, sl_]; first | done | omega) ?_))))))
    refine vw_skip (qth (wsq (wbk (wsq (vw_draw mixed (dq_op tab rfl rfl rfl rfl (dq_op tab rfl rfl rfl rfl (dq_op tab rfl rfl (ev_index rfl rfl rfl rfl rfl (by omega) (by omega)) (ev_index rfl rfl rfl rfl rfl (by omega) (by omega)) ?_))))))))
    refine dq_op tab rfl rfl (ev_loadrow userR rfl rfl rfl rfl rfl rfl hxa) (ev_loadrow userR rfl rfl rfl rfl rfl rfl hxa) (dq_op tab rfl rfl rfl rfl (dq_op tab rfl rfl rfl rfl (dq_op tab rfl rfl (ev_index rfl rfl rfl rfl rfl (by omega) (by omega)) (ev_index rfl rfl rfl rfl rfl (by omega) (by omega)) ?_)))
    refine dq_op tab rfl rfl (ev_loadrow userR rfl rfl rfl rfl rfl rfl hyb) (ev_loadrow userR rfl rfl rfl rfl rfl rfl hyb) (dq_op tab rfl rfl (ev_neq rfl rfl rfl (user_eq a b)) (ev_neq rfl rfl rfl (user_eq a b)) (vd_nil (by kernel_rfl) ?_))
    refine qth (vcd_false rfl (by simp only [hi, hd, sl_]; first | done | omega) ?_)
    refine vw_skip (q_norm (qth (wrg (vQ3 tab rfl rfl rfl (vnl (qth ?_))))))
    exact ⟨(xs.length - (j + 1)).toNat, _, by omega, (sub_of (g := 2) [] (by decide) (by decide) (by repeat' first | exact ep_nil | exact ri hi.symm | refine ep_cons rfl ?_ ?_ | exact .int _ _ | exact .bool _ | exact .string _ | exact rel_slice rfl rfl | exact rel_nil rfl rfl | exact rel_ptr rfl | exact .nilPtr | exact .nilIface | exact .nilSlice) (by repeat' first | exact hp_nil | exact ri hi.symm | refine hp_cons rfl rfl ?_ ?_ | refine hp_void rfl rfl ?_ | exact ov_win _ | exact ov_opn _ rfl | exact ov_cells _ _ (by decide))), j + 1, by omega, by omega, by rw [hjn]; exact take_same hxa hyb ht hab, rfl, rfl⟩
  · have hd := decide_eq_false hab
    refine wsq (wsq (wrg (vQ4 tab rfl rfl rfl rfl (vnl (qth (vcd_true rfl (by simp only [hi, hd, sl_]; first | done | omega) ?_))))))
    refine vw_skip (qth (wsq (wbk (wsq (vw_draw mixed (dq_op tab rfl rfl rfl rfl (dq_op tab rfl rfl rfl rfl (dq_op tab rfl rfl (ev_index rfl rfl rfl rfl rfl (by omega) (by omega)) (ev_index rfl rfl rfl rfl rfl (by omega) (by omega)) ?_))))))))
    refine dq_op tab rfl rfl (ev_loadrow userR rfl rfl rfl rfl rfl rfl hxa) (ev_loadrow userR rfl rfl rfl rfl rfl rfl hxa) (dq_op tab rfl rfl rfl rfl (dq_op tab rfl rfl rfl rfl (dq_op tab rfl rfl (ev_index rfl rfl rfl rfl rfl (by omega) (by omega)) (ev_index rfl rfl rfl rfl rfl (by omega) (by omega)) ?_)))
    refine dq_op tab rfl rfl (ev_loadrow userR rfl rfl rfl rfl rfl rfl hyb) (ev_loadrow userR rfl rfl rfl rfl rfl rfl hyb) (dq_op tab rfl rfl (ev_neq rfl rfl rfl (user_eq a b)) (ev_neq rfl rfl rfl (user_eq a b)) (vd_nil (by kernel_rfl) ?_))
    refine qth (vcd_true rfl (by simp only [hi, hd, sl_]; first | done | omega) ?_)
    refine wsq (wrg (vQ tab rfl (vnl (qth (vw_ret (q_ret (q_thenr (q_thenr (q_ret (q_thenr ?_))))))))))
    exact ⟨⟨.inr rfl, by rw [decide_eq_false (take_diff hxa hyb hab)]; rfl⟩, trivial⟩
set_option maxHeartbeats 4000000 in
theorem same_sess {V : Heap} {n : Nat} {sva svb : Value} {xs ys : List SessV} (ha : Looks V 4 sva (sessR.cells xs) xs.length) (hb : Looks V 4 svb (sessR.cells ys) ys.length) (hx : xs.length ≤ 140737488355328) (hy : ys.length ≤ 140737488355328) :
    Tri Tryz.prog 21 [sva, svb] n 0 V (fun u L => u = .bool (decide (xs = ys)) ∧ L = []) := by
  refine reads_of_vw (K := 2) (argsI := [.slice (some ⟨0, 0, none⟩) xs.length 0, .slice (some ⟨1, 0, none⟩) ys.length 0]) tab Tryz.func21 rfl rfl (by simp [Tryz.f21]) [.look sva xs.length 4, .look svb ys.length 4] [.win (sessR.cells xs) 4, .win (sessR.cells ys) 4] rfl (.look ha (sessR.flat_cells xs) (.look hb (sessR.flat_cells ys) .nil)) (by simp [ownNames]) (by simp [ownNames, lookNames]) (al_cons (.look (a := 0) rfl) (al_cons (.look (a := 1) rfl) al_nil)) (seen_of (sn_look (seen_top (j := 0) rfl) (sn_look (seen_top (j := 1) rfl) sn_nil))) (.bool _) ?_
  by_cases hlen : xs.length = ys.length
  case neg =>
    have hne : xs ≠ ys := fun e => hlen (by rw [e])
    have hd : ((xs.length : Int) != (ys.length : Int)) = true := by simpa using (show ¬ (xs.length : Int) = ys.length by omega)
    refine wsq (wrg (vQ tab rfl (vnl (qth (wsq (wsq (wrg (vQ4 tab rfl rfl rfl rfl (vQ tab rfl (vnl (qth (vcd_true rfl (by simp only [hd, sl_]; first | done | omega) ?_))))))))))))
    refine wsq (wrg (vQ tab rfl (vnl (qth (vw_ret (q_thenr ?_))))))
    exact ⟨⟨.inr rfl, by rw [decide_eq_false hne]; rfl⟩, trivial⟩
  have hd : ((xs.length : Int) != (ys.length : Int)) = false := by simpa using (show (xs.length : Int) = ys.length by omega)
  refine wsq (wrg (vQ tab rfl (vnl (qth (wsq (wsq (wrg (vQ4 tab rfl rfl rfl rfl (vQ tab rfl (vnl (qth (vcd_false rfl (by simp only [hd, sl_]; first | done | omega) ?_))))))))))))
  refine vw_skip (qth (wsq (wsq (wrg (vQ tab rfl (vnl (qth (wbk ?_))))))))
  refine vw_loop_sub (fun k s => ∃ j : Int, 0 ≤ j ∧ j ≤ xs.length ∧ xs.take j.toNat = ys.take j.toNat ∧ k = (xs.length - j).toNat ∧
      s = ⟨[(0, .slice (some ⟨0, 0, none⟩) xs.length 0), (1, .slice (some ⟨1, 0, none⟩) ys.length 0), (5, .int .i64 j)], lkp [(0, .win (sessR.cells xs) 4), (1, .win (sessR.cells ys) 4)], 2⟩) (xs.length - 0)
    ⟨_, (sub_of (g := 2) [] (by decide) (by decide) (by repeat' first | exact ep_nil | refine ep_cons rfl ?_ ?_ | exact .int _ _ | exact .bool _ | exact .string _ | exact rel_slice rfl rfl | exact rel_nil rfl rfl | exact rel_ptr rfl | exact .nilPtr | exact .nilIface | exact .nilSlice) (by repeat' first | exact hp_nil | refine hp_cons rfl rfl ?_ ?_ | refine hp_void rfl rfl ?_ | exact ov_win _ | exact ov_opn _ rfl | exact ov_cells _ _ (by decide))), 0, by omega, by omega, by simp, by simp, rfl⟩ ?_
  rintro k s ⟨j, h0, h1, ht, rfl, rfl⟩
  by_cases hj : j < (xs.length : Int)
  case neg =>
    have he : xs = ys := by rw [show j.toNat = xs.length by omega, List.take_length, hlen, List.take_length] at ht; exact ht
    refine wsq (wsq (wrg (vQ4 tab rfl rfl rfl rfl (vnl (qth (vcd_false rfl (by simp only [sl_]; first | done | omega) ?_))))))
    refine vw_exit (q_thenx (q_thenx (q_here (qth (wsq (wrg (vQ tab rfl (vnl (qth (vw_ret ?_))))))))))
    exact ⟨⟨.inr rfl, by rw [decide_eq_true he]; rfl⟩, trivial⟩
  obtain ⟨a, hxa⟩ := get_some h0 hj
  obtain ⟨b, hyb⟩ := get_some (xs := ys) h0 (by omega)
  have hi : IntKind.i64.wrap (j + 1) = j + 1 := i64_in _ (by omega)
  have hjn : (j + 1).toNat = j.toNat + 1 := by omega
  by_cases hab : a = b
  · have hd := decide_eq_true hab
    refine wsq (wsq (wrg (vQ4 tab rfl rfl rfl rfl (vnl (qth (vcd_true rfl (by simp only [hi, hd, sl_]; first | done | omega) ?_))))))
    refine vw_skip (qth (wsq (wbk (wsq (vw_draw mixed (dq_op tab rfl rfl rfl rfl (dq_op tab rfl rfl rfl rfl (dq_op tab rfl rfl (ev_index rfl rfl rfl rfl rfl (by omega) (by omega)) (ev_index rfl rfl rfl rfl rfl (by omega) (by omega)) ?_))))))))
    refine dq_op tab rfl rfl (ev_loadrow sessR rfl rfl rfl rfl rfl rfl hxa) (ev_loadrow sessR rfl rfl rfl rfl rfl rfl hxa) (dq_op tab rfl rfl rfl rfl (dq_op tab rfl rfl rfl rfl (dq_op tab rfl rfl (ev_index rfl rfl rfl rfl rfl (by omega) (by omega)) (ev_index rfl rfl rfl rfl rfl (by omega) (by omega)) ?_)))
    refine dq_op tab rfl rfl (ev_loadrow sessR rfl rfl rfl rfl rfl rfl hyb) (ev_loadrow sessR rfl rfl rfl rfl rfl rfl hyb) (dq_op tab rfl rfl (ev_neq rfl rfl rfl (sess_eq a b)) (ev_neq rfl rfl rfl (sess_eq a b)) (vd_nil (by kernel_rfl) ?_))
    refine qth (vcd_false rfl (by simp only [hi, hd, sl_]; first | done | omega) ?_)
    refine vw_skip (q_norm (qth (wrg (vQ3 tab rfl rfl rfl (vnl (qth ?_))))))
    exact ⟨(xs.length - (j + 1)).toNat, _, by omega, (sub_of (g := 2) [] (by decide) (by decide) (by repeat' first | exact ep_nil | exact ri hi.symm | refine ep_cons rfl ?_ ?_ | exact .int _ _ | exact .bool _ | exact .string _ | exact rel_slice rfl rfl | exact rel_nil rfl rfl | exact rel_ptr rfl | exact .nilPtr | exact .nilIface | exact .nilSlice) (by repeat' first | exact hp_nil | exact ri hi.symm | refine hp_cons rfl rfl ?_ ?_ | refine hp_void rfl rfl ?_ | exact ov_win _ | exact ov_opn _ rfl | exact ov_cells _ _ (by decide))), j + 1, by omega, by omega, by rw [hjn]; exact take_same hxa hyb ht hab, rfl, rfl⟩
  · have hd := decide_eq_false hab
    refine wsq (wsq (wrg (vQ4 tab rfl rfl rfl rfl (vnl (qth (vcd_true rfl (by simp only [hi, hd, sl_]; first | done | omega) ?_))))))
    refine vw_skip (qth (wsq (wbk (wsq (vw_draw mixed (dq_op tab rfl rfl rfl rfl (dq_op tab rfl rfl rfl rfl (dq_op tab rfl rfl (ev_index rfl rfl rfl rfl rfl (by omega) (by omega)) (ev_index rfl rfl rfl rfl rfl (by omega) (by omega)) ?_))))))))
    refine dq_op tab rfl rfl (ev_loadrow sessR rfl rfl rfl rfl rfl rfl hxa) (ev_loadrow sessR rfl rfl rfl rfl rfl rfl hxa) (dq_op tab rfl rfl rfl rfl (dq_op tab rfl rfl rfl rfl (dq_op tab rfl rfl (ev_index rfl rfl rfl rfl rfl (by omega) (by omega)) (ev_index rfl rfl rfl rfl rfl (by omega) (by omega)) ?_)))
    refine dq_op tab rfl rfl (ev_loadrow sessR rfl rfl rfl rfl rfl rfl hyb) (ev_loadrow sessR rfl rfl rfl rfl rfl rfl hyb) (dq_op tab rfl rfl (ev_neq rfl rfl rfl (sess_eq a b)) (ev_neq rfl rfl rfl (sess_eq a b)) (vd_nil (by kernel_rfl) ?_))
    refine qth (vcd_true rfl (by simp only [hi, hd, sl_]; first | done | omega) ?_)
    refine wsq (wrg (vQ tab rfl (vnl (qth (vw_ret (q_ret (q_thenr (q_thenr (q_ret (q_thenr ?_))))))))))
    exact ⟨⟨.inr rfl, by rw [decide_eq_false (take_diff hxa hyb hab)]; rfl⟩, trivial⟩
theorem same_ints {V : Heap} {n : Nat} {sva svb : Value} {xs ys : List Int} (ha : Looks V 1 sva ((intR .i64).cells xs) xs.length) (hb : Looks V 1 svb ((intR .i64).cells ys) ys.length) (hx : xs.length ≤ 140737488355328) (hy : ys.length ≤ 140737488355328) :
    Tri Tryz.prog 23 [sva, svb] n 0 V (fun u L => u = .bool (decide (xs = ys)) ∧ L = []) := by
  refine reads_of_vw (K := 2) (argsI := [.slice (some ⟨0, 0, none⟩) xs.length 0, .slice (some ⟨1, 0, none⟩) ys.length 0]) tab Tryz.func23 rfl rfl (by simp [Tryz.f23]) [.look sva xs.length 1, .look svb ys.length 1] [.win ((intR .i64).cells xs) 1, .win ((intR .i64).cells ys) 1] rfl (.look ha ((intR .i64).flat_cells xs) (.look hb ((intR .i64).flat_cells ys) .nil)) (by simp [ownNames]) (by simp [ownNames, lookNames]) (al_cons (.look (a := 0) rfl) (al_cons (.look (a := 1) rfl) al_nil)) (seen_of (sn_look (seen_top (j := 0) rfl) (sn_look (seen_top (j := 1) rfl) sn_nil))) (.bool _) ?_
  by_cases hlen : xs.length = ys.length
  case neg =>
    have hne : xs ≠ ys := fun e => hlen (by rw [e])
    have hd : ((xs.length : Int) != (ys.length : Int)) = true := by simpa using (show ¬ (xs.length : Int) = ys.length by omega)
    refine wsq (wrg (vQ tab rfl (vnl (qth (wsq (wsq (wrg (vQ4 tab rfl rfl rfl rfl (vQ tab rfl (vnl (qth (vcd_true rfl (by simp only [hd, sl_]; first | done | omega) ?_))))))))))))
    refine wsq (wrg (vQ tab rfl (vnl (qth (vw_ret (q_thenr ?_))))))
    exact ⟨⟨.inr rfl, by rw [decide_eq_false hne]; rfl⟩, trivial⟩
  have hd : ((xs.length : Int) != (ys.length : Int)) = false := by simpa using (show (xs.length : Int) = ys.length by omega)
  refine wsq (wrg (vQ tab rfl (vnl (qth (wsq (wsq (wrg (vQ4 tab rfl rfl rfl rfl (vQ tab rfl (vnl (qth (vcd_false rfl (by simp only [hd, sl_]; first | done | omega) ?_))))))))))))
  refine vw_skip (qth (wsq (wsq (wrg (vQ tab rfl (vnl (qth (wbk ?_))))))))
  refine vw_loop_sub (fun k s => ∃ j : Int, 0 ≤ j ∧ j ≤ xs.length ∧ xs.take j.toNat = ys.take j.toNat ∧ k = (xs.length - j).toNat ∧
      s = ⟨[(0, .slice (some ⟨0, 0, none⟩) xs.length 0), (1, .slice (some ⟨1, 0, none⟩) ys.length 0), (5, .int .i64 j)], lkp [(0, .win ((intR .i64).cells xs) 1), (1, .win ((intR .i64).cells ys) 1)], 2⟩) (xs.length - 0)
    ⟨_, (sub_of (g := 2) [] (by decide) (by decide) (by repeat' first | exact ep_nil | refine ep_cons rfl ?_ ?_ | exact .int _ _ | exact .bool _ | exact .string _ | exact rel_slice rfl rfl | exact rel_nil rfl rfl | exact rel_ptr rfl | exact .nilPtr | exact .nilIface | exact .nilSlice) (by repeat' first | exact hp_nil | refine hp_cons rfl rfl ?_ ?_ | refine hp_void rfl rfl ?_ | exact ov_win _ | exact ov_opn _ rfl | exact ov_cells _ _ (by decide))), 0, by omega, by omega, by simp, by simp, rfl⟩ ?_
  rintro k s ⟨j, h0, h1, ht, rfl, rfl⟩
  by_cases hj : j < (xs.length : Int)
  case neg =>
    have he : xs = ys := by rw [show j.toNat = xs.length by omega, List.take_length, hlen, List.take_length] at ht; exact ht
    refine wsq (wsq (wrg (vQ4 tab rfl rfl rfl rfl (vnl (qth (vcd_false rfl (by simp only [sl_]; first | done | omega) ?_))))))
    refine vw_exit (q_thenx (q_thenx (q_here (qth (wsq (wrg (vQ tab rfl (vnl (qth (vw_ret ?_))))))))))
    exact ⟨⟨.inr rfl, by rw [decide_eq_true he]; rfl⟩, trivial⟩
  obtain ⟨a, hxa⟩ := get_some h0 hj
  obtain ⟨b, hyb⟩ := get_some (xs := ys) h0 (by omega)
  have hi : IntKind.i64.wrap (j + 1) = j + 1 := i64_in _ (by omega)
  have hjn : (j + 1).toNat = j.toNat + 1 := by omega
  by_cases hab : a = b
  · have hd : (a != b) = false := by simpa using hab
    refine wsq (wsq (wrg (vQ4 tab rfl rfl rfl rfl (vnl (qth (vcd_true rfl (by simp only [hi, hd, sl_]; first | done | omega) ?_))))))
    refine vw_skip (qth (wsq (wbk (wsq (vw_draw mixed (dq_op tab rfl rfl rfl rfl (dq_op tab rfl rfl rfl rfl (dq_op tab rfl rfl (ev_index rfl rfl rfl rfl rfl (by omega) (by omega)) (ev_index rfl rfl rfl rfl rfl (by omega) (by omega)) ?_))))))))
    refine dq_op tab rfl rfl (ev_val (intR .i64) rfl rfl rfl rfl rfl hxa rfl) (ev_val (intR .i64) rfl rfl rfl rfl rfl hxa rfl) (dq_op tab rfl rfl rfl rfl (dq_op tab rfl rfl rfl rfl (dq_op tab rfl rfl (ev_index rfl rfl rfl rfl rfl (by omega) (by omega)) (ev_index rfl rfl rfl rfl rfl (by omega) (by omega)) ?_)))
    refine dq_op tab rfl rfl (ev_val (intR .i64) rfl rfl rfl rfl rfl hyb rfl) (ev_val (intR .i64) rfl rfl rfl rfl rfl hyb rfl) (dq_op tab rfl rfl rfl rfl (vd_nil (by kernel_rfl) ?_))
    refine qth (vcd_false rfl (by simp only [hi, hd, sl_]; first | done | omega) ?_)
    refine vw_skip (q_norm (qth (wrg (vQ3 tab rfl rfl rfl (vnl (qth ?_))))))
    exact ⟨(xs.length - (j + 1)).toNat, _, by omega, (sub_of (g := 2) [] (by decide) (by decide) (by repeat' first | exact ep_nil | exact ri hi.symm | refine ep_cons rfl ?_ ?_ | exact .int _ _ | exact .bool _ | exact .string _ | exact rel_slice rfl rfl | exact rel_nil rfl rfl | exact rel_ptr rfl | exact .nilPtr | exact .nilIface | exact .nilSlice) (by repeat' first | exact hp_nil | exact ri hi.symm | refine hp_cons rfl rfl ?_ ?_ | refine hp_void rfl rfl ?_ | exact ov_win _ | exact ov_opn _ rfl | exact ov_cells _ _ (by decide))), j + 1, by omega, by omega, by rw [hjn]; exact take_same hxa hyb ht hab, rfl, rfl⟩
  · have hd : (a != b) = true := by simpa using hab
    refine wsq (wsq (wrg (vQ4 tab rfl rfl rfl rfl (vnl (qth (vcd_true rfl (by simp only [hi, hd, sl_]; first | done | omega) ?_))))))
    refine vw_skip (qth (wsq (wbk (wsq (vw_draw mixed (dq_op tab rfl rfl rfl rfl (dq_op tab rfl rfl rfl rfl (dq_op tab rfl rfl (ev_index rfl rfl rfl rfl rfl (by omega) (by omega)) (ev_index rfl rfl rfl rfl rfl (by omega) (by omega)) ?_))))))))
    refine dq_op tab rfl rfl (ev_val (intR .i64) rfl rfl rfl rfl rfl hxa rfl) (ev_val (intR .i64) rfl rfl rfl rfl rfl hxa rfl) (dq_op tab rfl rfl rfl rfl (dq_op tab rfl rfl rfl rfl (dq_op tab rfl rfl (ev_index rfl rfl rfl rfl rfl (by omega) (by omega)) (ev_index rfl rfl rfl rfl rfl (by omega) (by omega)) ?_)))
    refine dq_op tab rfl rfl (ev_val (intR .i64) rfl rfl rfl rfl rfl hyb rfl) (ev_val (intR .i64) rfl rfl rfl rfl rfl hyb rfl) (dq_op tab rfl rfl rfl rfl (vd_nil (by kernel_rfl) ?_))
    refine qth (vcd_true rfl (by simp only [hi, hd, sl_]; first | done | omega) ?_)
    refine wsq (wrg (vQ tab rfl (vnl (qth (vw_ret (q_ret (q_thenr (q_thenr (q_ret (q_thenr ?_))))))))))
    exact ⟨⟨.inr rfl, by rw [decide_eq_false (take_diff hxa hyb hab)]; rfl⟩, trivial⟩
def plainC : ConfV := ⟨100, 2, 2, 3, 2, 20, 10, 15, 60, 8, 50, 1⟩
theorem plain_fun : Fun Tryz.prog 37 [] (confV plainC) := by
  refine fun_of_vw tab Tryz.func37 rfl rfl (by simp [Tryz.f37]) lrel_nil (confRel _) ?_
  refine wsq (wrg (vN tab rfl (vnl (qth (wsq (wrg (vQ tab rfl (vS tab rfl (vnl (qth (vw_ret ?_)))))))))))
  exact ⟨.inr rfl, rfl⟩
end Go.Proofs.YtcjfidfealifhaaGreat
namespace Go.Proofs.YtcjfidfealifhaaGreat
open Go Vm IntWalk
set_option linter.unusedVariables false
set_option linter.unusedSimpArgs false
set_option maxHeartbeats 16000000
def awakeE : List EventV := [⟨0, 0, 0, 0, 0, 0, 0, 0⟩, ⟨1, 3, 0, 0, 5, 6, 7, 0⟩, ⟨5, 3, 0, 1, 0, 0, 0, 4⟩]
def sA : StV := ⟨1, 0, 1, [⟨3, 5, 6, 7, 0, 0, 0, 0, 0⟩], [⟨0, 3, 1, 4⟩], [⟨false, -1, 0⟩, ⟨true, 3, 0⟩, ⟨false, -1, 0⟩], []⟩
def sB : StV := ⟨2, 0, 1, [⟨3, 5, 6, 7, 0, 0, 0, 0, 0⟩], [], [⟨false, -1, 0⟩, ⟨false, 3, 17⟩, ⟨false, -1, 0⟩], []⟩
def sZ : StV := ⟨0, 0, 0, [], [], [⟨false, -1, 0⟩, ⟨false, -1, 0⟩], []⟩
instance (s : StV) (e : EventV) : Decidable (EndU s e) := inferInstanceAs (Decidable (∀ y ∈ s.users, y.user ≤ e.user))
theorem state_awake : Fun Tryz.prog 16 [] (.bool true) := by
  refine fun_of_vw tab Tryz.func16 rfl rfl (by simp [Tryz.f16]) lrel_nil (.bool _) ?_
  refine wsq (wrg (vQ tab rfl (vnl (qth (wsq (wrg (vF rfl callable_37 (plain_fun) (vN tab rfl (vS tab rfl (vnl (qth (wsq (wrg (vQ4 tab rfl rfl rfl rfl (vN tab rfl (vT rfl callable_7 (all_as (cf := plainC) (es := awakeE) (s := sA) (r := 0) (by decide +kernel) (by decide +kernel) (by decide) (looks_opn evtR (xs := awakeE) rfl rfl)) ?_))))))))))))))))
  refine vQ3 tab rfl rfl rfl (vN tab rfl (vS tab rfl (vQ tab rfl (vnl (qth (wsq (wrg (vQ3 tab rfl rfl rfl (vT rfl callable_13 (apply_as (cf := plainC) (s := sA) (ev := ⟨0, 0, 0, 0, 0, 0, 0, 9⟩) (s' := sB) (r := 0) (by decide +kernel) (looks_opn userR rfl rfl) (looks_opn sessR rfl rfl) (looks_opn addrR rfl rfl) (looks_opn (intR .i64) rfl rfl) (by decide) (by decide) (by decide) (by decide) (by decide)) ?_)))))))))
  refine vQ3 tab rfl rfl rfl (vN tab rfl (vS tab rfl (vQ tab rfl (vnl (qth (wsq (wrg (vQ3 tab rfl rfl rfl (vT rfl callable_13 (apply_as (cf := plainC) (s := sA) (ev := ⟨5, 3, 1, 1, 0, 0, 0, 4⟩) (s' := st0) (r := 2001) (by decide +kernel) (looks_opn userR rfl rfl) (looks_opn sessR rfl rfl) (looks_opn addrR rfl rfl) (looks_opn (intR .i64) rfl rfl) (by decide) (by decide) (by decide) (by decide) (by decide)) ?_)))))))))
  refine vQ3 tab rfl rfl rfl (vN tab rfl (vS tab rfl (vQ tab rfl (vnl (qth (wsq (wrg (vQ3 tab rfl rfl rfl (vT rfl callable_13 (apply_as (cf := plainC) (s := sA) (ev := ⟨99, 0, 0, 0, 0, 0, 0, 0⟩) (s' := st0) (r := 2000) (by decide +kernel) (looks_opn userR rfl rfl) (looks_opn sessR rfl rfl) (looks_opn addrR rfl rfl) (looks_opn (intR .i64) rfl rfl) (by decide) (by decide) (by decide) (by decide) (by decide)) ?_)))))))))
  refine vQ3 tab rfl rfl rfl (vN tab rfl (vS tab rfl (vQ tab rfl (vnl (qth (wsq (wrg (vT rfl callable_4 (snew_as (c := 2) (sZ, 0) (by decide +kernel)) ?_))))))))
  refine vQ3 tab rfl rfl rfl (vN tab rfl (vS tab rfl (vQ tab rfl (vnl (qth (wsq (wrg (vQ tab rfl (vF rfl callable_10 (num_fun _) (vQ4 tab rfl rfl rfl rfl (vQ4 tab rfl rfl rfl rfl (vQ3 tab rfl rfl rfl (vQ tab rfl ?_)))))))))))))
  refine vQ3 tab rfl rfl rfl (vN tab rfl (vR rfl callable_20 (same_users (looks_opn userR (xs := sA.users) rfl rfl) (looks_opn userR (xs := [⟨3, 5, 6, 7, 0, 0, 0, 0, 0⟩]) rfl rfl) (by decide) (by decide)) ?_))
  refine vQ4 tab rfl rfl rfl rfl (vQ tab rfl (vN tab rfl (vR rfl callable_21 (same_sess (looks_opn sessR (xs := sA.sess) rfl rfl) (looks_opn sessR (xs := [⟨0, 3, 1, 4⟩]) rfl rfl) (by decide) (by decide)) ?_)))
  refine vQ4 tab rfl rfl rfl rfl (vQ4 tab rfl rfl rfl rfl (vQ4 tab rfl rfl rfl rfl (vQ tab rfl (vq_op tab ⟨_, _, rfl, rfl, rfl⟩ rfl rfl (ev_eql rfl rfl rfl (addr_eq ⟨true, 3, 0⟩ ⟨true, 3, 0⟩)) (vQ3 tab rfl rfl rfl (vF rfl callable_10 (num_fun _) (vQ4 tab rfl rfl rfl rfl (vQ tab rfl (vQ tab rfl ?_)))))))))
  refine vQ4 tab rfl rfl rfl rfl (vQ4 tab rfl rfl rfl rfl (vQ4 tab rfl rfl rfl rfl (vQ4 tab rfl rfl rfl rfl (vQ3 tab rfl rfl rfl (vq_op tab ⟨_, _, rfl, rfl, rfl⟩ rfl rfl (ev_eql rfl rfl rfl (addr_eq ⟨true, 3, 0⟩ ⟨true, 3, 0⟩)) (vQ3 tab rfl rfl rfl (vF rfl callable_10 (num_fun _) ?_)))))))
  refine vQ4 tab rfl rfl rfl rfl (vF rfl callable_10 (num_fun _) (vQ4 tab rfl rfl rfl rfl (vQ4 tab rfl rfl rfl rfl (vQ2 tab rfl rfl (vF rfl callable_10 (num_fun _) (vQ3 tab rfl rfl rfl (vnl (qth (vw_ret ?_)))))))))
  exact ⟨.inr rfl, Eq.trans (b := some (.bool _)) rfl (congrArg (fun b => some (Value.bool b)) (by decide))⟩
end Go.Proofs.YtcjfidfealifhaaGreat
namespace Go.Proofs.YtcjfidfealifhaaGreat
open Go Vm IntWalk
set_option linter.unusedVariables false
set_option linter.unusedSimpArgs false
set_option maxHeartbeats 32000000
abbrev u1 : UserV := ⟨1, 7, 8, 60, 0, 0, 0, 0, 0⟩
section
variable {f un sp g t : Int}
end
end Go.Proofs.YtcjfidfealifhaaGreat
namespace Go.Proofs.YtcjfidfealifhaaGreat
open Go Vm IntWalk
set_option linter.unusedVariables false
set_option linter.unusedSimpArgs false
set_option maxHeartbeats 32000000
theorem stv_ext {s t : StV} (h1 : s.boots = t.boots) (h2 : s.epoch = t.epoch) (h3 : s.next = t.next) (h4 : s.users = t.users) (h5 : s.sess = t.sess) (h6 : s.addrs = t.addrs) (h7 : s.spent = t.spent) : s = t := by
  cases s; cases t; simp only [StV.mk.injEq]; exact ⟨h1, h2, h3, h4, h5, h6, h7⟩
theorem same_state {V : Heap} {n : Nat} {s t : StV} {v1 v2 v3 v4 w1 w2 w3 w4 : Value} (h1 : Looks V 9 v1 (userR.cells s.users) s.users.length) (h2 : Looks V 4 v2 (sessR.cells s.sess) s.sess.length) (h3 : Looks V 3 v3 (addrR.cells s.addrs) s.addrs.length) (h4 : Looks V 1 v4 ((intR .i64).cells s.spent) s.spent.length)
    (g1 : Looks V 9 w1 (userR.cells t.users) t.users.length) (g2 : Looks V 4 w2 (sessR.cells t.sess) t.sess.length) (g3 : Looks V 3 w3 (addrR.cells t.addrs) t.addrs.length) (g4 : Looks V 1 w4 ((intR .i64).cells t.spent) t.spent.length)
    (b1 : s.users.length ≤ 140737488355328) (b2 : s.sess.length ≤ 140737488355328) (b3 : s.addrs.length ≤ 140737488355328) (b4 : s.spent.length ≤ 140737488355328) (c1 : t.users.length ≤ 140737488355328) (c2 : t.sess.length ≤ 140737488355328) (c3 : t.addrs.length ≤ 140737488355328) (c4 : t.spent.length ≤ 140737488355328) :
    Tri Tryz.prog 9 [.agg #[.int .i64 s.boots, .int .i64 s.epoch, .int .i64 s.next, v1, v2, v3, v4], .agg #[.int .i64 t.boots, .int .i64 t.epoch, .int .i64 t.next, w1, w2, w3, w4]] n 0 V (fun u L => u = .bool (decide (s = t)) ∧ L = []) := by
  refine reads_of_vw (K := 8) (argsI := [.agg #[.int .i64 s.boots, .int .i64 s.epoch, .int .i64 s.next, .slice (some ⟨0, 0, none⟩) s.users.length 0, .slice (some ⟨1, 0, none⟩) s.sess.length 0, .slice (some ⟨2, 0, none⟩) s.addrs.length 0, .slice (some ⟨3, 0, none⟩) s.spent.length 0], .agg #[.int .i64 t.boots, .int .i64 t.epoch, .int .i64 t.next, .slice (some ⟨4, 0, none⟩) t.users.length 0, .slice (some ⟨5, 0, none⟩) t.sess.length 0, .slice (some ⟨6, 0, none⟩) t.addrs.length 0, .slice (some ⟨7, 0, none⟩) t.spent.length 0]]) tab Tryz.func9 rfl rfl (by simp [Tryz.f9]) [.look v1 s.users.length 9, .look v2 s.sess.length 4, .look v3 s.addrs.length 3, .look v4 s.spent.length 1, .look w1 t.users.length 9, .look w2 t.sess.length 4, .look w3 t.addrs.length 3, .look w4 t.spent.length 1] [.win (userR.cells s.users) 9, .win (sessR.cells s.sess) 4, .win (addrR.cells s.addrs) 3, .win ((intR .i64).cells s.spent) 1, .win (userR.cells t.users) 9, .win (sessR.cells t.sess) 4, .win (addrR.cells t.addrs) 3, .win ((intR .i64).cells t.spent) 1] rfl (.look h1 (userR.flat_cells s.users) (.look h2 (sessR.flat_cells s.sess) (.look h3 (addrR.flat_cells s.addrs) (.look h4 ((intR .i64).flat_cells s.spent) (.look g1 (userR.flat_cells t.users) (.look g2 (sessR.flat_cells t.sess) (.look g3 (addrR.flat_cells t.addrs) (.look g4 ((intR .i64).flat_cells t.spent) .nil)))))))) (by simp [ownNames]) (by simp [ownNames, lookNames]) (al_cons (ar_agg (al_cons (.val (.int _ _)) (al_cons (.val (.int _ _)) (al_cons (.val (.int _ _)) (al_cons (.look (a := 0) rfl) (al_cons (.look (a := 1) rfl) (al_cons (.look (a := 2) rfl) (al_cons (.look (a := 3) rfl) al_nil)))))))) (al_cons (ar_agg (al_cons (.val (.int _ _)) (al_cons (.val (.int _ _)) (al_cons (.val (.int _ _)) (al_cons (.look (a := 4) rfl) (al_cons (.look (a := 5) rfl) (al_cons (.look (a := 6) rfl) (al_cons (.look (a := 7) rfl) al_nil)))))))) al_nil)) (seen_of (sn_look (seen_agg (j := 0) (i := 3) rfl rfl) (sn_look (seen_agg (j := 0) (i := 4) rfl rfl) (sn_look (seen_agg (j := 0) (i := 5) rfl rfl) (sn_look (seen_agg (j := 0) (i := 6) rfl rfl) (sn_look (seen_agg (j := 1) (i := 3) rfl rfl) (sn_look (seen_agg (j := 1) (i := 4) rfl rfl) (sn_look (seen_agg (j := 1) (i := 5) rfl rfl) (sn_look (seen_agg (j := 1) (i := 6) rfl rfl) sn_nil))))))))) (.bool _) ?_
  by_cases q0 : s.boots = t.boots
  case neg =>
    have e0 : (s.boots == t.boots) = false := by simpa using q0
    rw [decide_eq_false (fun e : s = t => q0 (by rw [e]))]
    refine wsq (wrg (vN tab rfl (vN tab rfl (vQ tab rfl (vnl (qth (wsq (wrg (vQ4 tab rfl rfl rfl rfl (vQ2 tab rfl rfl (vgd_op false rfl rfl rfl (by simp only [e0, sl_]; first | done | omega) ?_)))))))))))
    refine vK4 rfl rfl rfl rfl (vK rfl (vQ2 tab rfl rfl (vK4 rfl rfl rfl rfl (vK rfl (vQ2 tab rfl rfl (vK4 rfl rfl rfl rfl (vK rfl (vQ2 tab rfl rfl (vK2 rfl rfl (vK rfl ?_))))))))))
    refine vK2 rfl rfl (vQ2 tab rfl rfl (vK4 rfl rfl rfl rfl (vK rfl (vQ2 tab rfl rfl (vK4 rfl rfl rfl rfl (vK rfl (vQ2 tab rfl rfl (vnl (qth (vw_ret ?_))))))))))
    exact ⟨⟨.inr rfl, rfl⟩, trivial⟩
  have e0 : (s.boots == t.boots) = true := by simpa using q0
  by_cases q1 : s.epoch = t.epoch
  case neg =>
    have e1 : (s.epoch == t.epoch) = false := by simpa using q1
    rw [decide_eq_false (fun e : s = t => q1 (by rw [e]))]
    refine wsq (wrg (vN tab rfl (vN tab rfl (vQ tab rfl (vnl (qth (wsq (wrg (vQ4 tab rfl rfl rfl rfl (vQ2 tab rfl rfl (vgd_op true rfl rfl rfl (by simp only [e0, e1, sl_]; first | done | omega) ?_)))))))))))
    refine vQ4 tab rfl rfl rfl rfl (vQ3 tab rfl rfl rfl (vgd_op false rfl rfl rfl (by simp only [e0, e1, sl_]; first | done | omega) ?_))
    refine vK4 rfl rfl rfl rfl (vK rfl (vQ2 tab rfl rfl (vK4 rfl rfl rfl rfl (vK rfl (vQ2 tab rfl rfl (vK4 rfl rfl rfl rfl (vK rfl (vQ2 tab rfl rfl (vK2 rfl rfl (vK rfl ?_))))))))))
    refine vK2 rfl rfl (vQ2 tab rfl rfl (vK4 rfl rfl rfl rfl (vK rfl (vQ2 tab rfl rfl (vnl (qth (vw_ret ?_)))))))
    exact ⟨⟨.inr rfl, rfl⟩, trivial⟩
  have e1 : (s.epoch == t.epoch) = true := by simpa using q1
  by_cases q2 : s.next = t.next
  case neg =>
    have e2 : (s.next == t.next) = false := by simpa using q2
    rw [decide_eq_false (fun e : s = t => q2 (by rw [e]))]
    refine wsq (wrg (vN tab rfl (vN tab rfl (vQ tab rfl (vnl (qth (wsq (wrg (vQ4 tab rfl rfl rfl rfl (vQ2 tab rfl rfl (vgd_op true rfl rfl rfl (by simp only [e0, e1, e2, sl_]; first | done | omega) ?_)))))))))))
    refine vQ4 tab rfl rfl rfl rfl (vQ3 tab rfl rfl rfl (vgd_op true rfl rfl rfl (by simp only [e0, e1, e2, sl_]; first | done | omega) ?_))
    refine vQ4 tab rfl rfl rfl rfl (vQ3 tab rfl rfl rfl (vgd_op false rfl rfl rfl (by simp only [e0, e1, e2, sl_]; first | done | omega) ?_))
    refine vK4 rfl rfl rfl rfl (vK rfl (vQ2 tab rfl rfl (vK4 rfl rfl rfl rfl (vK rfl (vQ2 tab rfl rfl (vK4 rfl rfl rfl rfl (vK rfl (vQ2 tab rfl rfl (vK2 rfl rfl (vK rfl ?_))))))))))
    refine vK2 rfl rfl (vQ2 tab rfl rfl (vnl (qth (vw_ret ?_))))
    exact ⟨⟨.inr rfl, rfl⟩, trivial⟩
  have e2 : (s.next == t.next) = true := by simpa using q2
  by_cases q3 : s.users = t.users
  case neg =>
    have e3 : decide (s.users = t.users) = false := decide_eq_false q3
    rw [decide_eq_false (fun e : s = t => q3 (by rw [e]))]
    refine wsq (wrg (vN tab rfl (vN tab rfl (vQ tab rfl (vnl (qth (wsq (wrg (vQ4 tab rfl rfl rfl rfl (vQ2 tab rfl rfl (vgd_op true rfl rfl rfl (by simp only [e0, e1, e2, e3, sl_]; first | done | omega) ?_)))))))))))
    refine vQ4 tab rfl rfl rfl rfl (vQ3 tab rfl rfl rfl (vgd_op true rfl rfl rfl (by simp only [e0, e1, e2, e3, sl_]; first | done | omega) ?_))
    refine vQ4 tab rfl rfl rfl rfl (vQ3 tab rfl rfl rfl (vgd_op true rfl rfl rfl (by simp only [e0, e1, e2, e3, sl_]; first | done | omega) ?_))
    refine vQ4 tab rfl rfl rfl rfl (vR rfl callable_20 (same_users (xs := s.users) (ys := t.users) (looks_win userR rfl rfl) (looks_win userR rfl rfl) b1 c1) (vQ2 tab rfl rfl (vgd_op false rfl rfl rfl (by simp only [e0, e1, e2, e3, sl_]; first | done | omega) ?_)))
    refine vK4 rfl rfl rfl rfl (vK rfl (vQ2 tab rfl rfl (vK4 rfl rfl rfl rfl (vK rfl (vQ2 tab rfl rfl (vK4 rfl rfl rfl rfl (vK rfl (vQ2 tab rfl rfl (vnl (qth (vw_ret ?_)))))))))))
    exact ⟨⟨.inr rfl, rfl⟩, trivial⟩
  have e3 : decide (s.users = t.users) = true := decide_eq_true q3
  by_cases q4 : s.sess = t.sess
  case neg =>
    have e4 : decide (s.sess = t.sess) = false := decide_eq_false q4
    rw [decide_eq_false (fun e : s = t => q4 (by rw [e]))]
    refine wsq (wrg (vN tab rfl (vN tab rfl (vQ tab rfl (vnl (qth (wsq (wrg (vQ4 tab rfl rfl rfl rfl (vQ2 tab rfl rfl (vgd_op true rfl rfl rfl (by simp only [e0, e1, e2, e3, e4, sl_]; first | done | omega) ?_)))))))))))
    refine vQ4 tab rfl rfl rfl rfl (vQ3 tab rfl rfl rfl (vgd_op true rfl rfl rfl (by simp only [e0, e1, e2, e3, e4, sl_]; first | done | omega) ?_))
    refine vQ4 tab rfl rfl rfl rfl (vQ3 tab rfl rfl rfl (vgd_op true rfl rfl rfl (by simp only [e0, e1, e2, e3, e4, sl_]; first | done | omega) ?_))
    refine vQ4 tab rfl rfl rfl rfl (vR rfl callable_20 (same_users (xs := s.users) (ys := t.users) (looks_win userR rfl rfl) (looks_win userR rfl rfl) b1 c1) (vQ2 tab rfl rfl (vgd_op true rfl rfl rfl (by simp only [e0, e1, e2, e3, e4, sl_]; first | done | omega) ?_)))
    refine vQ4 tab rfl rfl rfl rfl (vR rfl callable_21 (same_sess (xs := s.sess) (ys := t.sess) (looks_win sessR rfl rfl) (looks_win sessR rfl rfl) b2 c2) (vQ2 tab rfl rfl (vgd_op false rfl rfl rfl (by simp only [e0, e1, e2, e3, e4, sl_]; first | done | omega) ?_)))
    refine vK4 rfl rfl rfl rfl (vK rfl (vQ2 tab rfl rfl (vK4 rfl rfl rfl rfl (vK rfl (vQ2 tab rfl rfl (vnl (qth (vw_ret ?_))))))))
    exact ⟨⟨.inr rfl, rfl⟩, trivial⟩
  have e4 : decide (s.sess = t.sess) = true := decide_eq_true q4
  by_cases q5 : s.addrs = t.addrs
  case neg =>
    have e5 : decide (s.addrs = t.addrs) = false := decide_eq_false q5
    rw [decide_eq_false (fun e : s = t => q5 (by rw [e]))]
    refine wsq (wrg (vN tab rfl (vN tab rfl (vQ tab rfl (vnl (qth (wsq (wrg (vQ4 tab rfl rfl rfl rfl (vQ2 tab rfl rfl (vgd_op true rfl rfl rfl (by simp only [e0, e1, e2, e3, e4, e5, sl_]; first | done | omega) ?_)))))))))))
    refine vQ4 tab rfl rfl rfl rfl (vQ3 tab rfl rfl rfl (vgd_op true rfl rfl rfl (by simp only [e0, e1, e2, e3, e4, e5, sl_]; first | done | omega) ?_))
    refine vQ4 tab rfl rfl rfl rfl (vQ3 tab rfl rfl rfl (vgd_op true rfl rfl rfl (by simp only [e0, e1, e2, e3, e4, e5, sl_]; first | done | omega) ?_))
    refine vQ4 tab rfl rfl rfl rfl (vR rfl callable_20 (same_users (xs := s.users) (ys := t.users) (looks_win userR rfl rfl) (looks_win userR rfl rfl) b1 c1) (vQ2 tab rfl rfl (vgd_op true rfl rfl rfl (by simp only [e0, e1, e2, e3, e4, e5, sl_]; first | done | omega) ?_)))
    refine vQ4 tab rfl rfl rfl rfl (vR rfl callable_21 (same_sess (xs := s.sess) (ys := t.sess) (looks_win sessR rfl rfl) (looks_win sessR rfl rfl) b2 c2) (vQ2 tab rfl rfl (vgd_op true rfl rfl rfl (by simp only [e0, e1, e2, e3, e4, e5, sl_]; first | done | omega) ?_)))
    refine vQ4 tab rfl rfl rfl rfl (vR rfl callable_22 (same_addrs (xs := s.addrs) (ys := t.addrs) (looks_win addrR rfl rfl) (looks_win addrR rfl rfl) b3 c3) (vQ2 tab rfl rfl (vgd_op false rfl rfl rfl (by simp only [e0, e1, e2, e3, e4, e5, sl_]; first | done | omega) ?_)))
    refine vK4 rfl rfl rfl rfl (vK rfl (vQ2 tab rfl rfl (vnl (qth (vw_ret ?_)))))
    exact ⟨⟨.inr rfl, rfl⟩, trivial⟩
  have e5 : decide (s.addrs = t.addrs) = true := decide_eq_true q5
  by_cases q6 : s.spent = t.spent
  case neg =>
    have e6 : decide (s.spent = t.spent) = false := decide_eq_false q6
    rw [decide_eq_false (fun e : s = t => q6 (by rw [e]))]
    refine wsq (wrg (vN tab rfl (vN tab rfl (vQ tab rfl (vnl (qth (wsq (wrg (vQ4 tab rfl rfl rfl rfl (vQ2 tab rfl rfl (vgd_op true rfl rfl rfl (by simp only [e0, e1, e2, e3, e4, e5, e6, sl_]; first | done | omega) ?_)))))))))))
    refine vQ4 tab rfl rfl rfl rfl (vQ3 tab rfl rfl rfl (vgd_op true rfl rfl rfl (by simp only [e0, e1, e2, e3, e4, e5, e6, sl_]; first | done | omega) ?_))
    refine vQ4 tab rfl rfl rfl rfl (vQ3 tab rfl rfl rfl (vgd_op true rfl rfl rfl (by simp only [e0, e1, e2, e3, e4, e5, e6, sl_]; first | done | omega) ?_))
    refine vQ4 tab rfl rfl rfl rfl (vR rfl callable_20 (same_users (xs := s.users) (ys := t.users) (looks_win userR rfl rfl) (looks_win userR rfl rfl) b1 c1) (vQ2 tab rfl rfl (vgd_op true rfl rfl rfl (by simp only [e0, e1, e2, e3, e4, e5, e6, sl_]; first | done | omega) ?_)))
    refine vQ4 tab rfl rfl rfl rfl (vR rfl callable_21 (same_sess (xs := s.sess) (ys := t.sess) (looks_win sessR rfl rfl) (looks_win sessR rfl rfl) b2 c2) (vQ2 tab rfl rfl (vgd_op true rfl rfl rfl (by simp only [e0, e1, e2, e3, e4, e5, e6, sl_]; first | done | omega) ?_)))
    refine vQ4 tab rfl rfl rfl rfl (vR rfl callable_22 (same_addrs (xs := s.addrs) (ys := t.addrs) (looks_win addrR rfl rfl) (looks_win addrR rfl rfl) b3 c3) (vQ2 tab rfl rfl (vgd_op true rfl rfl rfl (by simp only [e0, e1, e2, e3, e4, e5, e6, sl_]; first | done | omega) ?_)))
    refine vQ4 tab rfl rfl rfl rfl (vR rfl callable_23 (same_ints (xs := s.spent) (ys := t.spent) (looks_win (intR .i64) rfl rfl) (looks_win (intR .i64) rfl rfl) b4 c4) (vQ2 tab rfl rfl (vnl (qth (vw_ret ?_)))))
    exact ⟨⟨.inr rfl, by rw [decide_eq_false q6]; rfl⟩, trivial⟩
  have e6 : decide (s.spent = t.spent) = true := decide_eq_true q6
  rw [decide_eq_true (stv_ext q0 q1 q2 q3 q4 q5 q6)]
  refine wsq (wrg (vN tab rfl (vN tab rfl (vQ tab rfl (vnl (qth (wsq (wrg (vQ4 tab rfl rfl rfl rfl (vQ2 tab rfl rfl (vgd_op true rfl rfl rfl (by simp only [e0, e1, e2, e3, e4, e5, e6, sl_]; first | done | omega) ?_)))))))))))
  refine vQ4 tab rfl rfl rfl rfl (vQ3 tab rfl rfl rfl (vgd_op true rfl rfl rfl (by simp only [e0, e1, e2, e3, e4, e5, e6, sl_]; first | done | omega) ?_))
  refine vQ4 tab rfl rfl rfl rfl (vQ3 tab rfl rfl rfl (vgd_op true rfl rfl rfl (by simp only [e0, e1, e2, e3, e4, e5, e6, sl_]; first | done | omega) ?_))
  refine vQ4 tab rfl rfl rfl rfl (vR rfl callable_20 (same_users (xs := s.users) (ys := t.users) (looks_win userR rfl rfl) (looks_win userR rfl rfl) b1 c1) (vQ2 tab rfl rfl (vgd_op true rfl rfl rfl (by simp only [e0, e1, e2, e3, e4, e5, e6, sl_]; first | done | omega) ?_)))
  refine vQ4 tab rfl rfl rfl rfl (vR rfl callable_21 (same_sess (xs := s.sess) (ys := t.sess) (looks_win sessR rfl rfl) (looks_win sessR rfl rfl) b2 c2) (vQ2 tab rfl rfl (vgd_op true rfl rfl rfl (by simp only [e0, e1, e2, e3, e4, e5, e6, sl_]; first | done | omega) ?_)))
  refine vQ4 tab rfl rfl rfl rfl (vR rfl callable_22 (same_addrs (xs := s.addrs) (ys := t.addrs) (looks_win addrR rfl rfl) (looks_win addrR rfl rfl) b3 c3) (vQ2 tab rfl rfl (vgd_op true rfl rfl rfl (by simp only [e0, e1, e2, e3, e4, e5, e6, sl_]; first | done | omega) ?_)))
  refine vQ4 tab rfl rfl rfl rfl (vR rfl callable_23 (same_ints (xs := s.spent) (ys := t.spent) (looks_win (intR .i64) rfl rfl) (looks_win (intR .i64) rfl rfl) b4 c4) (vQ2 tab rfl rfl (vnl (qth (vw_ret ?_)))))
  exact ⟨⟨.inr rfl, by rw [decide_eq_true q6]; rfl⟩, trivial⟩
end Go.Proofs.YtcjfidfealifhaaGreat
namespace Go.Proofs.YtcjfidfealifhaaGreat
open Go Vm IntWalk
set_option linter.unusedVariables false
set_option linter.unusedSimpArgs false
theorem sz0 : (⟨#[]⟩ : ByteArray).size = 0 := rfl
end Go.Proofs.YtcjfidfealifhaaGreat
