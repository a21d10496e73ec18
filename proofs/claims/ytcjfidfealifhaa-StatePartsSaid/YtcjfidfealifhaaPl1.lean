/- Package pool: may a pool be; Clone; with; Take, Free, and the document's. -/
import Derived.Test.YtcjfidfealifhaaVg1
import Derived.Test.YtcjfidfealifhaaPl0
namespace Go.Proofs.Ytcjfidfealifhaa
open Go Vm IntWalk
set_option linter.unusedVariables false
set_option linter.unusedSimpArgs false
theorem findI_any {α : Type} (p : α → Bool) (xs : List α) : decide (0 ≤ findI p xs) = xs.any p := by
  unfold findI
  cases h : xs.findIdx? p with
  | none =>
    rw [List.findIdx?_eq_none_iff] at h
    have : xs.any p = false := List.any_eq_false.2 fun x hx => by simpa using h x hx
    rw [this]; rfl
  | some j =>
    rw [List.findIdx?_eq_some_iff_getElem] at h
    obtain ⟨h1, h2, _⟩ := h
    have : xs.any p = true := List.any_eq_true.2 ⟨xs[j], by simp, h2⟩
    rw [this]; simp
set_option maxHeartbeats 4000000 in
theorem indexfunc_addrs {V : Heap} {n : Nat} {sv : Value} {xs : List AddrV} {F' : FuncId} {caps : List Value} (capsI : List Value) (p : AddrV → Bool) (is : List Nat) (os : List VObj) (hl : Looks V 3 sv (addrR.cells xs) xs.length) (hx : xs.length ≤ 140737488355328)
    (he : EList V (.look sv xs.length 3 :: is.map .own) (is.map .own) os) (hn : is.Nodup) (hd : ∀ x ∈ lookNames [.look sv xs.length 3], x ∉ is) (hcaps : LRel (ownR (.look sv xs.length 3 :: is.map .own)) capsI caps) (hF : Callable Try.prog F')
    (hcall : ∀ n' (V' : Heap), (∀ (a : Nat) (o : VObj), os[a]? = some o → V' (1 + a) = some o) → ∀ x ∈ xs, Tri Try.prog F' (.agg (addrR.f x).toArray :: capsI) n' 0 V' (fun u L => u = .bool (p x) ∧ L = [])) :
    Tri Try.prog 73 [sv, .func (.func F') #[] caps.toArray] n 0 V (fun u L => u = .int .i64 (findI p xs) ∧ L = []) := by
  refine reads_of_vw (argsI := [.slice (some ⟨0, 0, none⟩) xs.length 0, .func (.func F') #[] capsI.toArray]) tab Try.func73 rfl rfl (by simp [Try.f73]) (.look sv xs.length 3 :: is.map .own) (.win (addrR.cells xs) 3 :: os) rfl (.look hl (addrR.flat_cells xs) he)
    (by show (ownNames (is.map .own)).Nodup; rw [ownNames_map]; exact hn) ?_ (al_cons (.look (a := 0) rfl) (al_cons (.val (rel_func hcaps)) al_nil)) (seen_of (sn_look (seen_top (j := 0) rfl) (seen_owns is))) (.int _ _) ?_
  · have e : ownNames (.look sv xs.length 3 :: is.map .own) = is := ownNames_map is
    rw [e]
    rw [lookNames_one]; exact hd
  have hos : ∀ (a : Nat) (o : VObj), os[a]? = some o → lkp (oHeap 0 (.win (addrR.cells xs) 3 :: os)) (1 + a) = some o := fun a o h => by
    have := oHeap_get (k := 0) (os := .win (addrR.cells xs) 3 :: os) (a := a + 1) (o := o) (by simpa using h)
    rw [Nat.zero_add, Nat.add_comm] at this; exact this
  have hst : Stays (lkp (oHeap 0 (.win (addrR.cells xs) 3 :: os))) 0 (.look sv xs.length 3 :: is.map .own) (.win (addrR.cells xs) 3 :: os) := stays_self fun a o h => oHeap_get h
  refine wsq (wrg (vQ tab rfl (vnl (qth (wsq (wsq (wrg (vQ tab rfl (vQ tab rfl (vQ tab rfl (vnl (qth (wbk ?_)))))))))))))
  refine vw_loop_env (fun k env => ∃ j : Int, 0 ≤ j ∧ j ≤ xs.length ∧ (xs.take j.toNat).any p = false ∧ k = (xs.length - j).toNat ∧
      env = [(0, .slice (some ⟨0, 0, none⟩) xs.length 0), (1, .func (.func F') #[] capsI.toArray), (7, .int .i64 xs.length), (8, .int .i64 j)]) (xs.length - 0)
    ⟨_, se_cons rfl (se_cons rfl (se_cons rfl (se_cons rfl se_nil))), 0, by omega, by omega, by simp, by simp, rfl⟩ ?_
  rintro k env ⟨j, h0, h1, ht, rfl, rfl⟩
  by_cases hj : j < (xs.length : Int)
  case neg =>
    rw [show j.toNat = xs.length by omega, List.take_length] at ht
    refine wsq (wrg (vQ tab rfl (vnl (qth (wsq (vcd_false rfl (by simp only [decide_eq_true_eq, decide_eq_false_iff_not, Bool.not_eq_eq_eq_not, Bool.not_true, Bool.not_false, bne_iff_ne, bne_eq_false_iff_eq, beq_iff_eq, beq_eq_false_iff_ne, ne_eq, beq_self_eq_true, bne_self_eq_false, Bool.and_eq_true, Bool.and_eq_false_iff, Bool.or_eq_true, Bool.or_eq_false_iff, and_self, and_true, true_and, Bool.false_eq_true, Bool.true_eq_false, not_false_eq_true, not_true_eq_false]; first | done | omega) ?_))))))
    refine vw_exit (q_thenx (q_thenx (q_here (qth (wsq (wrg (vQ tab rfl (vnl (qth (vw_ret ?_))))))))))
    exact ⟨⟨.inr rfl, by rw [findI_none ht]; rfl⟩, hst⟩
  obtain ⟨a, hxa⟩ := get_some h0 hj
  have hi : IntKind.i64.wrap (j + 1) = j + 1 := i64_in _ (by omega)
  have hjn : (j + 1).toNat = j.toNat + 1 := by omega
  have hT := fun n' => hcall n' (lkp (oHeap 0 (.win (addrR.cells xs) 3 :: os))) hos a (List.mem_of_getElem? hxa)
  cases hp : p a with
  | true =>
    refine wsq (wrg (vQ tab rfl (vnl (qth (wsq (vcd_true rfl (by simp only [hi, hp, decide_eq_true_eq, decide_eq_false_iff_not, Bool.not_eq_eq_eq_not, Bool.not_true, Bool.not_false, bne_iff_ne, bne_eq_false_iff_eq, beq_iff_eq, beq_eq_false_iff_ne, ne_eq, beq_self_eq_true, bne_self_eq_false, Bool.and_eq_true, Bool.and_eq_false_iff, Bool.or_eq_true, Bool.or_eq_false_iff, and_self, and_true, true_and, Bool.false_eq_true, Bool.true_eq_false, not_false_eq_true, not_true_eq_false]; first | done | omega) ?_))))))
    refine vw_skip (qth (wsq (wbk (wsq (wrg (vQ tab rfl (vQ tab rfl (vnl (qth (wsq (wrg (vQ tab rfl (vQ tab rfl (vQ tab rfl (vq_op tab rfl rfl rfl (ev_index rfl rfl rfl rfl rfl (by omega) (by omega)) ?_)))))))))))))))
    refine vq_op tab rfl rfl rfl (ev_loadrow addrR rfl rfl rfl rfl rfl rfl hxa) (vclr_op rfl rfl rfl rfl rfl rfl hF (hT _) (vnl (qth (vcd_true rfl (by simp only [hi, hp, decide_eq_true_eq, decide_eq_false_iff_not, Bool.not_eq_eq_eq_not, Bool.not_true, Bool.not_false, bne_iff_ne, bne_eq_false_iff_eq, beq_iff_eq, beq_eq_false_iff_ne, ne_eq, beq_self_eq_true, bne_self_eq_false, Bool.and_eq_true, Bool.and_eq_false_iff, Bool.or_eq_true, Bool.or_eq_false_iff, and_self, and_true, true_and, Bool.false_eq_true, Bool.true_eq_false, not_false_eq_true, not_true_eq_false]; first | done | omega) ?_))))
    refine wsq (wrg (vQ tab rfl (vQ tab rfl (vnl (qth (vw_ret (q_ret (q_thenr (q_thenr (q_ret (q_thenr ?_)))))))))))
    exact ⟨⟨.inr rfl, by rw [findI_some hxa hp ht]; exact congrArg (fun j => some (Value.int .i64 j)) (by omega)⟩, hst⟩
  | false =>
    refine wsq (wrg (vQ tab rfl (vnl (qth (wsq (vcd_true rfl (by simp only [hi, hp, decide_eq_true_eq, decide_eq_false_iff_not, Bool.not_eq_eq_eq_not, Bool.not_true, Bool.not_false, bne_iff_ne, bne_eq_false_iff_eq, beq_iff_eq, beq_eq_false_iff_ne, ne_eq, beq_self_eq_true, bne_self_eq_false, Bool.and_eq_true, Bool.and_eq_false_iff, Bool.or_eq_true, Bool.or_eq_false_iff, and_self, and_true, true_and, Bool.false_eq_true, Bool.true_eq_false, not_false_eq_true, not_true_eq_false]; first | done | omega) ?_))))))
    refine vw_skip (qth (wsq (wbk (wsq (wrg (vQ tab rfl (vQ tab rfl (vnl (qth (wsq (wrg (vQ tab rfl (vQ tab rfl (vQ tab rfl (vq_op tab rfl rfl rfl (ev_index rfl rfl rfl rfl rfl (by omega) (by omega)) ?_)))))))))))))))
    refine vq_op tab rfl rfl rfl (ev_loadrow addrR rfl rfl rfl rfl rfl rfl hxa) (vclr_op rfl rfl rfl rfl rfl rfl hF (hT _) (vnl (qth (vcd_false rfl (by simp only [hi, hp, decide_eq_true_eq, decide_eq_false_iff_not, Bool.not_eq_eq_eq_not, Bool.not_true, Bool.not_false, bne_iff_ne, bne_eq_false_iff_eq, beq_iff_eq, beq_eq_false_iff_ne, ne_eq, beq_self_eq_true, bne_self_eq_false, Bool.and_eq_true, Bool.and_eq_false_iff, Bool.or_eq_true, Bool.or_eq_false_iff, and_self, and_true, true_and, Bool.false_eq_true, Bool.true_eq_false, not_false_eq_true, not_true_eq_false]; first | done | omega) ?_))))
    refine vw_skip (q_norm (qth (wrg (vQ tab rfl (vQ tab rfl (vnl (qth ?_)))))))
    exact ⟨rfl, rfl, (xs.length - (j + 1)).toNat, _, by omega, se_cons rfl (se_cons rfl (se_cons rfl (se_cons (se_int rfl hi) se_nil))), j + 1, by omega, by omega, by rw [hjn]; exact any_take hxa hp ht, rfl, rfl⟩
set_option maxHeartbeats 4000000 in
theorem contains_addrs {V : Heap} {n : Nat} {sv : Value} {xs : List AddrV} {F' : FuncId} (p : AddrV → Bool) (hl : Looks V 3 sv (addrR.cells xs) xs.length) (hx : xs.length ≤ 140737488355328) (hF : Callable Try.prog F')
    (hcall : ∀ x ∈ xs, Fun Try.prog F' [.agg (addrR.f x).toArray] (.bool (p x))) :
    Tri Try.prog 71 [sv, .func (.func F') #[] #[]] n 0 V (fun u L => u = .bool (xs.any p) ∧ L = []) := by
  refine reads_of_vw (K := 1) (argsI := [.slice (some ⟨0, 0, none⟩) xs.length 0, .func (.func F') #[] #[]]) tab Try.func71 rfl rfl (by simp [Try.f71]) [.look sv xs.length 3] [.win (addrR.cells xs) 3] rfl (.look hl (addrR.flat_cells xs) .nil) (by simp [ownNames]) (by simp [ownNames, lookNames]) (al_cons (.look (a := 0) rfl) (al_cons (.val (rel_func lrel_nil)) al_nil)) (seen_of (sn_look (seen_top (j := 0) rfl) sn_nil)) (.bool _) ?_
  refine wsq (wrg (vQ tab rfl (vnl (qth (wsq (wrg (vQ tab rfl (vQ tab rfl (vR rfl callable_73 (indexfunc_addrs (caps := []) [] p [] [] (looks_win addrR rfl rfl) hx .nil (by decide) (by simp) lrel_nil hF (fun n' V' _ x hx => hcall x hx n' V')) ?_)))))))))
  refine vQ tab rfl (vQ tab rfl (vnl (qth (vw_ret ?_))))
  exact ⟨⟨.inr rfl, Eq.trans (b := some (.bool (decide (0 ≤ findI p xs)))) rfl (congrArg (fun b => some (Value.bool b)) (findI_any p xs))⟩, trivial⟩
def userOk (u : Int) : Bool := decide (0 ≤ u) && decide (u < 8)
theorem usermay_fun (u : Int) : Fun Try.prog 61 [.int .i64 u] (.bool (userOk u)) := by
  refine fun_of_vw tab Try.func61 rfl rfl (by simp [Try.f61]) (lrel_cons (.int _ _) lrel_nil) (.bool _) ?_
  refine wsq (wrg (vQ tab rfl (vnl (qth (wsq (wrg (vQ tab rfl (vQ tab rfl (vQ tab rfl ?_)))))))))
  refine vg_op rfl rfl rfl (fun _ => ?_) (fun _ => ?_)
  refine vQ tab rfl (vQ tab rfl (vQ tab rfl (vQ tab rfl (vnl (qth (vw_ret ?_))))))
  rotate_left
  refine vK rfl (vK rfl (vQ tab rfl (vQ tab rfl (vnl (qth (vw_ret ?_))))))
  rotate_left
  all_goals exact ⟨.inr rfl, Eq.trans (b := some (.bool _)) rfl (congrArg (fun b => some (Value.bool b)) (by simp_all [userOk] <;> (intros; omega)))⟩
def badA (a : AddrV) : Bool := ((a.last != -1) && !userOk a.last) || decide (a.until_ < 0)
set_option maxHeartbeats 4000000 in
theorem bad_fun (a : AddrV) : Fun Try.prog 70 [.agg (addrR.f a).toArray] (.bool (badA a)) := by
  refine fun_of_vw tab Try.func70 rfl rfl (by simp [Try.f70]) (lrel_cons (addrRel a) lrel_nil) (.bool _) ?_
  refine wsq (wrg (vN tab rfl (vQ tab rfl (vnl (qth (wsq (wrg (vQ tab rfl (vQ tab rfl (vQ tab rfl (vQ tab rfl ?_)))))))))))
  refine vg_op rfl rfl rfl (fun _ => ?_) (fun _ => ?_)
  refine vQ tab rfl (vQ tab rfl (vF rfl callable_61 (usermay_fun _) (vQ tab rfl (vQ tab rfl (vQ tab rfl ?_)))))
  refine vg_op rfl rfl rfl (fun _ => ?_) (fun _ => ?_)
  refine vQ tab rfl (vQ tab rfl (vQ tab rfl (vQ tab rfl (vQ tab rfl (vnl (qth (vw_ret ?_)))))))
  rotate_left
  refine vK rfl (vK rfl (vK rfl (vQ tab rfl (vQ tab rfl (vnl (qth (vw_ret ?_)))))))
  rotate_left
  refine vK rfl (vK rfl (vK rfl (vK rfl (vQ tab rfl (vQ tab rfl (vQ tab rfl (vQ tab rfl (vQ tab rfl (vQ tab rfl (vQ tab rfl (vnl (qth (vw_ret ?_)))))))))))))
  rotate_left
  all_goals exact ⟨.inr rfl, Eq.trans (b := some (.bool _)) rfl (congrArg (fun b => some (Value.bool b)) (by simp_all [badA] <;> (intros; omega)))⟩
def mayP (xs : List AddrV) : Bool := (decide (1 ≤ (xs.length : Int)) && decide ((xs.length : Int) ≤ 16)) && !xs.any badA
set_option maxHeartbeats 4000000 in
theorem may_tri {V : Heap} {n : Nat} {sv : Value} {xs : List AddrV} (hl : Looks V 3 sv (addrR.cells xs) xs.length) (hx : xs.length ≤ 140737488355328) :
    Tri Try.prog 60 [sv] n 0 V (fun u L => u = .bool (mayP xs) ∧ L = []) := by
  refine reads_of_vw (K := 1) (argsI := [.slice (some ⟨0, 0, none⟩) xs.length 0]) tab Try.func60 rfl rfl (by simp [Try.f60]) [.look sv xs.length 3] [.win (addrR.cells xs) 3] rfl (.look hl (addrR.flat_cells xs) .nil) (by simp [ownNames]) (by simp [ownNames, lookNames]) (al_cons (.look (a := 0) rfl) al_nil) (seen_of (sn_look (seen_top (j := 0) rfl) sn_nil)) (.bool _) ?_
  refine wsq (wrg (vQ tab rfl (vnl (qth (wsq (wrg (vQ tab rfl (vnl (qth (wsq (wrg (vQ tab rfl (vQ tab rfl (vQ tab rfl (vQ tab rfl ?_)))))))))))))))
  refine vg_op rfl rfl rfl (fun _ => ?_) (fun _ => ?_)
  refine vQ tab rfl (vQ tab rfl (vQ tab rfl (vQ tab rfl (vQ tab rfl ?_))))
  refine vg_op rfl rfl rfl (fun _ => ?_) (fun _ => ?_)
  refine vQ tab rfl (vQ tab rfl (vR rfl callable_71 (contains_addrs badA (looks_win addrR rfl rfl) hx callable_70 (fun x _ => bad_fun x)) (vQ tab rfl (vQ tab rfl (vQ tab rfl (vnl (qth (vw_ret ?_))))))))
  rotate_left
  refine vK rfl (vK rfl (vK rfl (vK rfl (vQ tab rfl (vQ tab rfl (vnl (qth (vw_ret ?_))))))))
  rotate_left
  refine vK rfl (vK rfl (vK rfl (vQ tab rfl (vQ tab rfl (vK rfl (vK rfl (vK rfl (vK rfl (vQ tab rfl (vQ tab rfl (vnl (qth (vw_ret ?_)))))))))))))
  rotate_left
  all_goals exact ⟨⟨.inr rfl, Eq.trans (b := some (.bool _)) rfl (congrArg (fun b => some (Value.bool b)) (by simp_all [mayP] <;> (intros; omega)))⟩, trivial⟩
def thereB (xs : List AddrV) (i : Int) : Bool := decide (0 ≤ i) && decide (i < (xs.length : Int))
set_option maxHeartbeats 4000000 in
theorem there_tri {V : Heap} {n : Nat} {sv : Value} {xs : List AddrV} (i : Int) (hl : Looks V 3 sv (addrR.cells xs) xs.length) :
    Tri Try.prog 62 [sv, .int .i64 i] n 0 V (fun u L => u = .bool (thereB xs i) ∧ L = []) := by
  refine reads_of_vw (K := 1) (argsI := [.slice (some ⟨0, 0, none⟩) xs.length 0, .int .i64 i]) tab Try.func62 rfl rfl (by simp [Try.f62]) [.look sv xs.length 3] [.win (addrR.cells xs) 3] rfl (.look hl (addrR.flat_cells xs) .nil) (by simp [ownNames]) (by simp [ownNames, lookNames]) (al_cons (.look (a := 0) rfl) (al_cons (.val (.int _ _)) al_nil)) (seen_of (sn_look (seen_top (j := 0) rfl) sn_nil)) (.bool _) ?_
  refine wsq (wrg (vQ tab rfl (vnl (qth (wsq (wrg (vQ tab rfl (vQ tab rfl (vQ tab rfl ?_)))))))))
  refine vg_op rfl rfl rfl (fun _ => ?_) (fun _ => ?_)
  refine vQ tab rfl (vQ tab rfl (vQ tab rfl (vQ tab rfl (vQ tab rfl (vQ tab rfl (vnl (qth (vw_ret ?_))))))))
  rotate_left
  refine vK rfl (vK rfl (vK rfl (vK rfl (vQ tab rfl (vQ tab rfl (vnl (qth (vw_ret ?_))))))))
  rotate_left
  all_goals exact ⟨⟨.inr rfl, Eq.trans (b := some (.bool _)) rfl (congrArg (fun b => some (Value.bool b)) (by simp_all [thereB] <;> (intros; omega)))⟩, trivial⟩
set_option maxHeartbeats 4000000 in
theorem clone_addrs {V : Heap} {n : Nat} {sv : Value} {xs : List AddrV} (hl : Looks V 3 sv (addrR.cells xs) xs.length) (hb : xs.length * 24 ≤ 140737488355328) :
    Tri Try.prog 33 [sv] n 1 V (fun u L => u = .slice (some ⟨n, 0, none⟩) xs.length 0 ∧ L = [(n, some (.opn (addrR.cells xs) 58 3))]) := by
  refine call_of_vw (K := 1) (argsI := [.slice (some ⟨0, 0, none⟩) xs.length 0]) tab Try.func33 rfl rfl (by simp [Try.f33]) [.look sv xs.length 3] [.win (addrR.cells xs) 3] rfl (.look hl (addrR.flat_cells xs) .nil) (by simp [ownNames]) (by simp [ownNames, lookNames]) (by simp [ownNames, *]) (al_cons (.look (a := 0) rfl) al_nil) (seen_of (sn_look (seen_top (j := 0) rfl) sn_nil)) ?_
  refine wsq (wrg (vQ tab rfl (vnl (qth (wsq (wsq (wrg (vQ tab rfl ?_))))))))
  refine vnil_op tab rfl rfl rfl rfl rfl rfl rfl (fun hz => ?_) ?_
  refine vnl (qth (vc_true rfl (wsq (wrg (vQ tab rfl (vnl (qth (vw_ret (q_thenr ?_)))))))))
  rotate_left
  refine vnl (qth (vc_false rfl (vw_skip (qth (wsq (wrg (vN tab rfl (vQ tab rfl (vo_op rfl rfl rfl (opr_ev tab (ev_app addrR (xs := []) (ys := xs) (m := xs.length) rfl rfl rfl rfl rfl rfl (news_all addrR rfl rfl) rfl rfl (by rw [Nat.zero_add]; exact hb) (by omega))) ?_)))))))))
  refine vQ tab rfl (vnl (qth (vw_ret ?_)))
  rotate_left
  · obtain rfl := List.length_eq_zero_iff.1 hz
    exact out_mk [NIL] (.inr rfl) ⟨rfl, rfl⟩ rfl (rel_nil (sigma_nil (i := 0) rfl) rfl) (op_void (sigma_nil (i := 0) rfl) rfl rfl rfl op_nil) trivial
  · exact out_mk [2] (.inr rfl) ⟨rfl, rfl⟩ rfl (rel_slice (sigma_look (i := 0) rfl) (by omega)) (op_cons (sigma_look (i := 0) rfl) rfl rfl (ov_opn addrR rfl) rfl op_nil) trivial
set_option maxHeartbeats 4000000 in
theorem with_tri {V : Heap} {n : Nat} {sv : Value} {xs : List AddrV} {i : Int} (a : AddrV) (hl : Looks V 3 sv (addrR.cells xs) xs.length) (hb : xs.length * 24 ≤ 140737488355328) (h0 : 0 ≤ i) (h1 : i < (xs.length : Int)) :
    Tri Try.prog 63 [sv, .int .i64 i, addrV a] n 1 V (fun u L => u = .slice (some ⟨n, 0, none⟩) xs.length 0 ∧ L = [(n, some (.opn (addrR.cells (xs.set i.toNat a)) 58 3))]) := by
  refine call_of_vw (K := 1) (argsI := [.slice (some ⟨0, 0, none⟩) xs.length 0, .int .i64 i, addrV a]) tab Try.func63 rfl rfl (by simp [Try.f63]) [.look sv xs.length 3] [.win (addrR.cells xs) 3] rfl (.look hl (addrR.flat_cells xs) .nil) (by simp [ownNames]) (by simp [ownNames, lookNames]) (by simp [ownNames, *]) (al_cons (.look (a := 0) rfl) (al_cons (.val (.int _ _)) (al_cons (.val (addrRel a)) al_nil))) (seen_of (sn_look (seen_top (j := 0) rfl) sn_nil)) ?_
  refine wsq (wrg (vN tab rfl (vQ tab rfl (vnl (qth (wsq (wrg (vQ tab rfl (vT rfl callable_33 (clone_addrs (looks_win addrR rfl rfl) hb) (vQ tab rfl (vnl (qth (wsq (wrg (vQ tab rfl (vQ tab rfl (vQ tab rfl (vq_op tab rfl rfl rfl (ev_index rfl rfl rfl rfl rfl (by omega) (by omega)) ?_))))))))))))))))))
  refine vs_op tab rfl rfl (ev_storerow addrR rfl rfl rfl rfl rfl rfl (by omega) (a' := a)) ?_
  refine vnl (qth (wsq (wrg (vQ tab rfl (vQ tab rfl (vnl (qth (vw_ret ?_))))))))
  exact out_mk [2] (.inr rfl) ⟨rfl, rfl⟩ rfl (rel_slice (sigma_look (i := 0) rfl) rfl) (op_cons (sigma_look (i := 0) rfl) rfl rfl (ov_opn addrR rfl) rfl op_nil) trivial
end Go.Proofs.Ytcjfidfealifhaa
