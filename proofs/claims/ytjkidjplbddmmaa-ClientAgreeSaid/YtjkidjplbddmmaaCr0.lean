/- Package craft: terms by kind, and their names. -/
import Derived.Test.YtjkidjplbddmmaaVg1
import Derived.Test.YtjkidjplbddmmaaBk0
import Derived.Test.YtjkidjplbddmmaaFd0
namespace Go.Proofs.Ytjkidjplbddmmaa
open Go Vm IntWalk
set_option linter.unusedVariables false
set_option linter.unusedSimpArgs false
set_option maxHeartbeats 4000000
/-- A book behind a name more: its terms have moved. -/
theorem out_book {σ : Ren} {V : Heap} {most : Int} {p t m n pi ti mi : Nat} {l : List ByteArray} (hσp : σ p = some ⟨pi, none, 0⟩) (hσn : σ n = some ⟨ti, none, 0⟩) (hσm : σ m = some ⟨mi, none, 0⟩)
    (hVp : V pi = some (bookC most ti l.length mi)) (hVt : V ti = some (.opn (strR.cells l) 9 1)) (hVm : V mi = some (.map (ents 0 l) l.length)) {L : List (Nat × Option VObj)} (k : OutPart σ L V) : OutPart σ (nameL most p t m n l ++ L) V :=
  op_cons hσp rfl hVp (ov_book (rel_slice hσn rfl) (rel_map hσm)) rfl (op_drop (op_cons hσn rfl hVt (ov_opn strR rfl) rfl (op_cons hσm rfl hVm (ov_ents rfl rfl) rfl k)))
theorem out_book0 {σ : Ren} {V : Heap} {most : Int} {p t m n pi ti mi : Nat} {l : List ByteArray} (hσp : σ p = some ⟨pi, none, 0⟩) (hσn : σ n = some ⟨ti, none, 0⟩) (hσm : σ m = some ⟨mi, none, 0⟩)
    (hVp : V pi = some (bookC most ti l.length mi)) (hVt : V ti = some (.opn (strR.cells l) 9 1)) (hVm : V mi = some (.map (ents 0 l) l.length)) : OutPart σ (nameL most p t m n l) V :=
  op_cons hσp rfl hVp (ov_book (rel_slice hσn rfl) (rel_map hσm)) rfl (op_drop (op_cons hσn rfl hVt (ov_opn strR rfl) rfl (op_cons hσm rfl hVm (ov_ents rfl rfl) rfl op_nil)))
theorem nameB_err {most : Int} {l : List ByteArray} {s : ByteArray} (h : (nameB most l s).2.1 ≠ 0) : (nameB most l s).2.2 = l := by
  unfold nameB at h ⊢
  split
  · rfl
  · rename_i hb
    rw [if_neg hb] at h
    split
    · rename_i j hj; rfl
    · rename_i hj
      rw [hj] at h
      simp only at h
      split
      · rfl
      · rename_i hm; rw [if_neg hm] at h; exact (h rfl).elim
/-- A term's name, for a craft. -/
def craftB (most : Int) (l : List ByteArray) (s : ByteArray) (may : Bool) : Int × Int × List ByteArray := if may = true then (if (nameB most l s).2.1 = 0 then ((nameB most l s).1, 0, (nameB most l s).2.2) else (0, 300, l)) else (0, 300, l)
theorem craftB_no {most : Int} {l : List ByteArray} {s : ByteArray} : craftB most l s false = (0, 300, l) := rfl
theorem craftB_ok {most : Int} {l : List ByteArray} {s : ByteArray} (h : (nameB most l s).2.1 = 0) : craftB most l s true = ((nameB most l s).1, 0, (nameB most l s).2.2) := by unfold craftB; rw [if_pos rfl, if_pos h]
theorem craftB_bad {most : Int} {l : List ByteArray} {s : ByteArray} (h : (nameB most l s).2.1 ≠ 0) : craftB most l s true = (0, 300, l) := by unfold craftB; rw [if_pos rfl, if_neg h]
theorem named_tri {V : Heap} {n p t m : Nat} {most : Int} {l : List ByteArray} (h : BkAt V p t m most l) (hn : p < n ∧ t < n ∧ m < n) (hl : (l.length : Int) ≤ 65536) (s : ByteArray) (may : Bool) :
    Tri Try.prog 97 [.pointer (some ⟨p, 0, none⟩), .string s, .bool may] n 1 V (fun u L => u = .tuple #[.int .i64 (craftB most l s may).1, .int .i64 (craftB most l s may).2.1] ∧ L = nameL most p t m n (craftB most l s may).2.2) := by
  obtain ⟨hp, ht, hm, d1, d2, d3⟩ := h
  obtain ⟨n1, n2, n3⟩ := hn
  refine call_of_vw (K := 3) (argsI := [.pointer (some ⟨0, 0, none⟩), .string s, .bool may]) tab Try.func97 rfl rfl (by simp [Try.f97]) [.own p, .own t, .own m] [bookC most 1 l.length 2, .opn (strR.cells l) 9 1, .map (ents 0 l) l.length] rfl (.own hp (ov_book (rel_slice rfl rfl) (rel_map rfl)) (.own ht (ov_opn strR rfl) (.own hm (ov_ents rfl rfl) .nil))) (by simp [ownNames, *]) (by simp [ownNames, lookNames, *]) (by simp [ownNames, *]) (al_cons (.val (rel_ptr rfl)) (al_cons (.val (.string _)) (al_cons (.val (.bool _)) al_nil))) (seen_of (sn_own (sn_own (sn_own sn_nil)))) ?_
  cases may with
  | false =>
    rw [craftB_no]
    refine wsq (wrg (vQ tab rfl (vQ tab rfl (vnl (qth (wsq (wbk (wsq (wrg (vQ tab rfl (vQ tab rfl (vQ tab rfl (vnl (qth (vc_false rfl (wsq (wrg (vQ tab rfl (vQ tab rfl (vQ tab rfl (vnl (qth (vc_true rfl ?_)))))))))))))))))))))))
    refine wsq (wrg (vQ tab rfl (vQ tab rfl (vnl (qth (vw_ret (q_ret (q_thenr ?_))))))))
    exact out_mk [1] (.inr rfl) ⟨rfl, rfl⟩ rfl (vrel_tuple (lrel_cons (.int _ _) (lrel_cons (.int _ _) lrel_nil))) (out_book0 (sigma_own (a := 0) (by simp [ownNames, *]) rfl) (sigma_at (i := 0) (by simp [ownNames, *]) rfl) (sigma_own (a := 2) (by simp [ownNames, *]) rfl) rfl rfl rfl) (told_of (by simp [ownNames, nameL]))
  | true =>
    by_cases he : (nameB most l s).2.1 = 0
    · rw [craftB_ok he]
      have h0 : ((nameB most l s).2.1 != 0) = false := by rw [he]; rfl
      refine wsq (wrg (vQ tab rfl (vQ tab rfl (vnl (qth (wsq (wbk (wsq (wrg (vQ tab rfl (vQ tab rfl (vQ tab rfl (vnl (qth (vc_false rfl (wsq (wrg (vQ tab rfl (vQ tab rfl (vQ tab rfl (vnl (qth (vc_false rfl ?_)))))))))))))))))))))))
      refine vw_skip (q_norm (qth (wsq (wrg (vQ tab rfl (vQ tab rfl (vT rfl callable_37 (name_tri ⟨rfl, rfl, rfl, by decide, by decide, by decide⟩ (by decide) hl s) ?_)))))))
      refine vQ tab rfl (vQ tab rfl (vQ tab rfl (vQ tab rfl (vQ tab rfl (vnl (qth (wsq (wsq (wrg (vQ tab rfl (vQ tab rfl (vnl (qth (vcd_false rfl (by simp only [h0, decide_eq_true_eq, decide_eq_false_iff_not, Bool.not_eq_eq_eq_not, Bool.not_true, Bool.not_false, bne_iff_ne, bne_eq_false_iff_eq, beq_iff_eq, beq_eq_false_iff_ne, ne_eq, beq_self_eq_true, bne_self_eq_false, Bool.and_eq_true, Bool.and_eq_false_iff, Bool.or_eq_true, Bool.or_eq_false_iff, and_self, and_true, true_and, Bool.false_eq_true, Bool.true_eq_false, not_false_eq_true, not_true_eq_false]; first | done | omega) ?_))))))))))))))
      refine vw_skip (qth (wsq (wrg (vQ tab rfl (vQ tab rfl (vQ tab rfl (vnl (qth (vw_ret ?_)))))))))
      exact out_mk [3] (.inr rfl) ⟨rfl, rfl⟩ rfl (vrel_tuple (lrel_cons (.int _ _) (lrel_cons (.int _ _) lrel_nil))) (out_book0 (sigma_own (a := 0) (by simp [ownNames, *]) rfl) (sigma_at (i := 0) (by simp [ownNames, *]) rfl) (sigma_own (a := 2) (by simp [ownNames, *]) rfl) rfl rfl rfl) (told_of (by simp [ownNames, nameL]))
    · rw [craftB_bad he]
      have h0 : ((nameB most l s).2.1 != 0) = true := by simpa using he
      have hk := nameB_err he
      refine wsq (wrg (vQ tab rfl (vQ tab rfl (vnl (qth (wsq (wbk (wsq (wrg (vQ tab rfl (vQ tab rfl (vQ tab rfl (vnl (qth (vc_false rfl (wsq (wrg (vQ tab rfl (vQ tab rfl (vQ tab rfl (vnl (qth (vc_false rfl ?_)))))))))))))))))))))))
      refine vw_skip (q_norm (qth (wsq (wrg (vQ tab rfl (vQ tab rfl (vT rfl callable_37 (name_tri ⟨rfl, rfl, rfl, by decide, by decide, by decide⟩ (by decide) hl s) ?_)))))))
      refine vQ tab rfl (vQ tab rfl (vQ tab rfl (vQ tab rfl (vQ tab rfl (vnl (qth (wsq (wsq (wrg (vQ tab rfl (vQ tab rfl (vnl (qth (vcd_true rfl (by simp only [h0, decide_eq_true_eq, decide_eq_false_iff_not, Bool.not_eq_eq_eq_not, Bool.not_true, Bool.not_false, bne_iff_ne, bne_eq_false_iff_eq, beq_iff_eq, beq_eq_false_iff_ne, ne_eq, beq_self_eq_true, bne_self_eq_false, Bool.and_eq_true, Bool.and_eq_false_iff, Bool.or_eq_true, Bool.or_eq_false_iff, and_self, and_true, true_and, Bool.false_eq_true, Bool.true_eq_false, not_false_eq_true, not_true_eq_false]; first | done | omega) ?_))))))))))))))
      refine wsq (wrg (vQ tab rfl (vQ tab rfl (vnl (qth (vw_ret (q_thenr ?_)))))))
      exact out_mk [3] (.inr rfl) ⟨rfl, rfl⟩ rfl (vrel_tuple (lrel_cons (.int _ _) (lrel_cons (.int _ _) lrel_nil))) (out_book0 (sigma_own (a := 0) (by simp [ownNames, *]) rfl) (sigma_at (i := 0) (by simp [ownNames, *]) rfl) (sigma_own (a := 2) (by simp [ownNames, *]) rfl) (congrArg (fun l : List ByteArray => some (bookC most 3 l.length 2)) hk) (congrArg (fun l : List ByteArray => some (VObj.opn (strR.cells l) 9 1)) hk) (congrArg (fun l : List ByteArray => some (VObj.map (ents 0 l) l.length)) hk)) (told_of (by simp [ownNames, nameL]))
theorem numR_may (x : Int) : ((numR x).2 == 0) = okN x := by
  cases h : okN x with
  | true => rw [numR_ok h]; rfl
  | false => rw [numR_no h]; rfl
/-- A kind's letter, and a key. -/
def keyT (c : UInt8) (key : Int) : ByteArray := ⟨#[c]⟩ ++ (numR key).1
theorem keyT_size (c : UInt8) (key : Int) : (keyT c key).size ≤ 6 := by
  unfold keyT
  have := numR_size key
  rw [ByteArray.size_append]
  show 1 + _ ≤ 6
  omega
theorem keyed_fun (c : UInt8) (key : Int) : Fun Try.prog 96 [.string ⟨#[c]⟩, .int .i64 key] (.tuple #[.string (keyT c key), .bool (okN key)]) := by
  refine fun_of_vw tab Try.func96 rfl rfl (by simp [Try.f96]) (lrel_cons (.string _) (lrel_cons (.int _ _) lrel_nil)) (vrel_tuple (lrel_cons (.string _) (lrel_cons (.bool _) lrel_nil))) ?_
  have hz := numR_size key
  refine wsq (wrg (vQ tab rfl (vQ tab rfl (vnl (qth (wsq (wrg (vQ tab rfl (vF rfl callable_45 (num_fun_ key) (vQ tab rfl (vQ tab rfl (vQ tab rfl (vQ tab rfl (vQ tab rfl (vnl (qth (wsq (wrg (vQ tab rfl (vQ tab rfl (vq_op tab rfl rfl rfl (cat_ev rfl rfl (by show 1 + _ ≤ _; omega)) ?_)))))))))))))))))))))
  refine vQ tab rfl (vQ tab rfl (vQ tab rfl (vQ tab rfl (vnl (qth (vw_ret ?_))))))
  exact ⟨.inr rfl, by rw [← numR_may]; rfl⟩
def macT (key : Int) (s : ByteArray) : ByteArray := keyT 77 key ++ s
def macB (most : Int) (l : List ByteArray) (key : Int) (s : ByteArray) : Int × Int × List ByteArray := craftB most l (macT key s) (okN key)
theorem mac_tri {V : Heap} {n p t m : Nat} {most : Int} {l : List ByteArray} (h : BkAt V p t m most l) (hn : p < n ∧ t < n ∧ m < n) (hl : (l.length : Int) ≤ 65536) (key : Int) (s : ByteArray) (hs : s.size ≤ 100000) :
    Tri Try.prog 69 [.pointer (some ⟨p, 0, none⟩), .int .i64 key, .string s] n 1 V (fun u L => u = .tuple #[.int .i64 (macB most l key s).1, .int .i64 (macB most l key s).2.1] ∧ L = nameL most p t m n (macB most l key s).2.2) := by
  obtain ⟨hp, ht, hm, d1, d2, d3⟩ := h
  obtain ⟨n1, n2, n3⟩ := hn
  refine call_of_vw (K := 3) (argsI := [.pointer (some ⟨0, 0, none⟩), .int .i64 key, .string s]) tab Try.func69 rfl rfl (by simp [Try.f69]) [.own p, .own t, .own m] [bookC most 1 l.length 2, .opn (strR.cells l) 9 1, .map (ents 0 l) l.length] rfl (.own hp (ov_book (rel_slice rfl rfl) (rel_map rfl)) (.own ht (ov_opn strR rfl) (.own hm (ov_ents rfl rfl) .nil))) (by simp [ownNames, *]) (by simp [ownNames, lookNames, *]) (by simp [ownNames, *]) (al_cons (.val (rel_ptr rfl)) (al_cons (.val (.int _ _)) (al_cons (.val (.string _)) al_nil))) (seen_of (sn_own (sn_own (sn_own sn_nil)))) ?_
  have hz := keyT_size 77 key
  refine wsq (wrg (vQ tab rfl (vQ tab rfl (vnl (qth (wsq (wrg (vQ tab rfl (vF rfl callable_96 (keyed_fun 77 key) (vQ tab rfl (vQ tab rfl (vQ tab rfl (vQ tab rfl (vQ tab rfl (vnl (qth (wsq (wrg (vQ tab rfl (vQ tab rfl (vQ tab rfl (vq_op tab rfl rfl rfl (cat_ev rfl rfl (by omega)) ?_))))))))))))))))))))))
  refine vQ tab rfl (vT rfl callable_97 (named_tri ⟨rfl, rfl, rfl, by decide, by decide, by decide⟩ (by decide) hl (macT key s) (okN key)) ?_)
  refine vQ tab rfl (vQ tab rfl (vQ tab rfl (vQ tab rfl (vnl (qth (vw_ret ?_))))))
  exact out_mk [3] (.inr rfl) ⟨rfl, rfl⟩ rfl (vrel_tuple (lrel_cons (.int _ _) (lrel_cons (.int _ _) lrel_nil))) (out_book0 (sigma_own (a := 0) (by simp [ownNames, *]) rfl) (sigma_at (i := 0) (by simp [ownNames, *]) rfl) (sigma_own (a := 2) (by simp [ownNames, *]) rfl) rfl rfl rfl) (told_of (by simp [ownNames, nameL]))
end Go.Proofs.Ytjkidjplbddmmaa
