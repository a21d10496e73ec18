/- Package book. -/
import Derived.Test.YtjkidjplbddmmaaVg1
import Derived.Test.YtjkidjplbddmmaaVmT
import Derived.Test.YtjkidjplbddmmaaVmC0
import Derived.IntWalk
namespace Go.Proofs.Ytjkidjplbddmmaa
open Go Vm IntWalk
set_option linter.unusedVariables false
set_option linter.unusedSimpArgs false
abbrev bookC (most : Int) (t len m : Nat) : VObj := .cells [.int .i64 most, .slice (some ⟨t, 0, none⟩) len 0, .map (some m)] 115 (0, 0)
/-- A book lies at p, its terms at t, their names at m. -/
structure BkAt (V : Heap) (p t m : Nat) (most : Int) (l : List ByteArray) : Prop where
  hp : V p = some (bookC most t l.length m)
  ht : V t = some (.opn (strR.cells l) 9 1)
  hm : V m = some (.map (ents 0 l) l.length)
  pt : p ≠ t
  pm : p ≠ m
  tm : t ≠ m
theorem ov_book {σ : Ren} {most : Int} {t m len : Nat} {v w : Value} (h1 : VRel σ (.slice (some ⟨t, 0, none⟩) len 0) v) (h2 : VRel σ (.map (some m)) w) : OV σ (bookC most t len m) (.cells [.int .i64 most, v, w] 115 (0, 0)) :=
  .cells _ _ (lrel_cons (.int _ _) (lrel_cons h1 (lrel_cons h2 lrel_nil)))
theorem rel_map {σ : Ren} {i j : Nat} (h : σ i = some ⟨j, none, 0⟩) : VRel σ (.map (some i)) (.map (some j)) := .map (s := ⟨j, none, 0⟩) h
theorem ents_rel {σ : Ren} : ∀ (l : List ByteArray) (k : Nat), LRel σ ((ents k l).map (·.1)) ((ents k l).map (·.1)) ∧ LRel σ ((ents k l).map (·.2.1)) ((ents k l).map (·.2.1))
  | [], _ => ⟨lrel_nil, lrel_nil⟩
  | s :: l, k => ⟨lrel_cons (.string _) (ents_rel l (k + 1)).1, lrel_cons (.int _ _) (ents_rel l (k + 1)).2⟩
theorem ov_ents {σ : Ren} {l l' : List ByteArray} {c c' : Nat} (h : l = l') (hc : c = c') : OV σ (.map (ents 0 l) c) (.map (ents 0 l') c') := by subst h; subst hc; exact .map (ents_rel l 0).1 (ents_rel l 0).2 rfl
def findN : Option Nat → Int
  | some j => (j : Int)
  | none => 0
def findV (o : Option Nat) : Value := .tuple #[.int .i64 (findN o), .bool o.isSome]
theorem findV_rel {σ : Ren} (o : Option Nat) : VRel σ (findV o) (findV o) := vrel_tuple (lrel_cons (.int _ _) (lrel_cons (.bool _) lrel_nil))
set_option maxHeartbeats 4000000
def termS (l : List ByteArray) (x : Int) : ByteArray := if x < 0 ∨ (l.length : Int) ≤ x then ⟨#[]⟩ else l.getD x.toNat ⟨#[]⟩
def termE (l : List ByteArray) (x : Int) : Int := if x < 0 ∨ (l.length : Int) ≤ x then 202 else 0
def termV (l : List ByteArray) (x : Int) : Value := .tuple #[.string (termS l x), .int .i64 (termE l x)]
theorem termV_rel {σ : Ren} (l : List ByteArray) (x : Int) : VRel σ (termV l x) (termV l x) := vrel_tuple (lrel_cons (.string _) (lrel_cons (.int _ _) lrel_nil))
theorem termV_no {l : List ByteArray} {x : Int} (h : x < 0 ∨ (l.length : Int) ≤ x) : termV l x = .tuple #[.string ⟨#[]⟩, .int .i64 202] := by unfold termV termS termE; rw [if_pos h, if_pos h]
theorem termS_is {l : List ByteArray} {x : Int} {a : ByteArray} (h0 : 0 ≤ x) (h : l[x.toNat]? = some a) : termS l x = a := by
  have := (List.getElem?_eq_some_iff.1 h).1
  unfold termS; rw [if_neg (by omega)]; simp [List.getD_eq_getElem?_getD, h]
theorem termE_is {l : List ByteArray} {x : Int} {a : ByteArray} (h0 : 0 ≤ x) (h : l[x.toNat]? = some a) : termE l x = 0 := by
  have := (List.getElem?_eq_some_iff.1 h).1
  unfold termE; rw [if_neg (by omega)]
theorem termV_is {l : List ByteArray} {x : Int} {a : ByteArray} (h0 : 0 ≤ x) (h : l[x.toNat]? = some a) : termV l x = .tuple #[.string a, .int .i64 0] := by unfold termV; rw [termS_is h0 h, termE_is h0 h]
theorem term_tri {V : Heap} {n p t m : Nat} {most : Int} {l : List ByteArray} (h : BkAt V p t m most l) (x : Int) :
    Tri Try.prog 55 [.pointer (some ⟨p, 0, none⟩), .int .i64 x] n 0 V (fun u L => u = termV l x ∧ L = []) := by
  obtain ⟨hp, ht, hm, d1, d2, d3⟩ := h
  refine reads_of_vw (K := 3) (argsI := [.pointer (some ⟨0, 0, none⟩), .int .i64 x]) tab Try.func55 rfl rfl (by simp [Try.f55]) [.own p, .own t, .own m] [bookC most 1 l.length 2, .opn (strR.cells l) 9 1, .map (ents 0 l) l.length] rfl (.own hp (ov_book (rel_slice rfl rfl) (rel_map rfl)) (.own ht (ov_opn strR rfl) (.own hm (ov_ents rfl rfl) .nil))) (by simp [ownNames, *]) (by simp [ownNames, lookNames, *]) (al_cons (.val (rel_ptr rfl)) (al_cons (.val (.int _ _)) al_nil)) (seen_of (sn_own (sn_own (sn_own sn_nil)))) (termV_rel _ _) ?_
  by_cases h0 : x < 0
  · rw [termV_no (.inl h0)]
    refine wsq (wrg (vQ tab rfl (vQ tab rfl (vnl (qth (wsq (wbk (wsq (wrg (vQ tab rfl (vQ tab rfl (vQ tab rfl (vnl (qth (vc_false rfl (wsq (wrg (vQ tab rfl (vQ tab rfl (vQ tab rfl (vgd_op true rfl rfl rfl (by simp only [decide_eq_true_eq, decide_eq_false_iff_not, Bool.not_eq_eq_eq_not, Bool.not_true, Bool.not_false, bne_iff_ne, bne_eq_false_iff_eq, beq_iff_eq, beq_eq_false_iff_ne, ne_eq, beq_self_eq_true, bne_self_eq_false, Bool.and_eq_true, Bool.and_eq_false_iff, Bool.or_eq_true, Bool.or_eq_false_iff, and_self, and_true, true_and, Bool.false_eq_true, Bool.true_eq_false, not_false_eq_true, not_true_eq_false]; first | done | omega) ?_)))))))))))))))))))))
    refine vK rfl (vK rfl (vK rfl (vK rfl (vK rfl (vK rfl (vK rfl (vQ tab rfl (vQ tab rfl (vnl (qth (vc_true rfl (wsq (wrg (vQ tab rfl (vQ tab rfl (vnl (qth (vw_ret (q_ret (q_thenr ?_))))))))))))))))))))
    exact ⟨⟨.inr rfl, rfl⟩, fun _ => rfl, fun _ => rfl, fun _ => rfl, trivial⟩
  by_cases h1 : (l.length : Int) ≤ x
  · rw [termV_no (.inr h1)]
    refine wsq (wrg (vQ tab rfl (vQ tab rfl (vnl (qth (wsq (wbk (wsq (wrg (vQ tab rfl (vQ tab rfl (vQ tab rfl (vnl (qth (vc_false rfl (wsq (wrg (vQ tab rfl (vQ tab rfl (vQ tab rfl (vgd_op false rfl rfl rfl (by simp only [decide_eq_true_eq, decide_eq_false_iff_not, Bool.not_eq_eq_eq_not, Bool.not_true, Bool.not_false, bne_iff_ne, bne_eq_false_iff_eq, beq_iff_eq, beq_eq_false_iff_ne, ne_eq, beq_self_eq_true, bne_self_eq_false, Bool.and_eq_true, Bool.and_eq_false_iff, Bool.or_eq_true, Bool.or_eq_false_iff, and_self, and_true, true_and, Bool.false_eq_true, Bool.true_eq_false, not_false_eq_true, not_true_eq_false]; first | done | omega) ?_)))))))))))))))))))))
    refine vQ tab rfl (vQ tab rfl (vQ tab rfl (vQ tab rfl (vQ tab rfl (vQ tab rfl (vQ tab rfl (vQ tab rfl (vQ tab rfl (vnl (qth (vcd_true rfl (by simp only [decide_eq_true_eq, decide_eq_false_iff_not, Bool.not_eq_eq_eq_not, Bool.not_true, Bool.not_false, bne_iff_ne, bne_eq_false_iff_eq, beq_iff_eq, beq_eq_false_iff_ne, ne_eq, beq_self_eq_true, bne_self_eq_false, Bool.and_eq_true, Bool.and_eq_false_iff, Bool.or_eq_true, Bool.or_eq_false_iff, and_self, and_true, true_and, Bool.false_eq_true, Bool.true_eq_false, not_false_eq_true, not_true_eq_false]; first | done | omega) ?_)))))))))))
    refine wsq (wrg (vQ tab rfl (vQ tab rfl (vnl (qth (vw_ret (q_ret (q_thenr ?_))))))))
    exact ⟨⟨.inr rfl, rfl⟩, fun _ => rfl, fun _ => rfl, fun _ => rfl, trivial⟩
  obtain ⟨a, ha⟩ := get_some (xs := l) (i := x) (by omega) (by omega)
  rw [termV_is (by omega) ha]
  refine wsq (wrg (vQ tab rfl (vQ tab rfl (vnl (qth (wsq (wbk (wsq (wrg (vQ tab rfl (vQ tab rfl (vQ tab rfl (vnl (qth (vc_false rfl (wsq (wrg (vQ tab rfl (vQ tab rfl (vQ tab rfl (vgd_op false rfl rfl rfl (by simp only [decide_eq_true_eq, decide_eq_false_iff_not, Bool.not_eq_eq_eq_not, Bool.not_true, Bool.not_false, bne_iff_ne, bne_eq_false_iff_eq, beq_iff_eq, beq_eq_false_iff_ne, ne_eq, beq_self_eq_true, bne_self_eq_false, Bool.and_eq_true, Bool.and_eq_false_iff, Bool.or_eq_true, Bool.or_eq_false_iff, and_self, and_true, true_and, Bool.false_eq_true, Bool.true_eq_false, not_false_eq_true, not_true_eq_false]; first | done | omega) ?_)))))))))))))))))))))
  refine vQ tab rfl (vQ tab rfl (vQ tab rfl (vQ tab rfl (vQ tab rfl (vQ tab rfl (vQ tab rfl (vQ tab rfl (vQ tab rfl (vnl (qth (vcd_false rfl (by simp only [decide_eq_true_eq, decide_eq_false_iff_not, Bool.not_eq_eq_eq_not, Bool.not_true, Bool.not_false, bne_iff_ne, bne_eq_false_iff_eq, beq_iff_eq, beq_eq_false_iff_ne, ne_eq, beq_self_eq_true, bne_self_eq_false, Bool.and_eq_true, Bool.and_eq_false_iff, Bool.or_eq_true, Bool.or_eq_false_iff, and_self, and_true, true_and, Bool.false_eq_true, Bool.true_eq_false, not_false_eq_true, not_true_eq_false]; first | done | omega) ?_)))))))))))
  refine vw_skip (q_norm (qth (wsq (wrg (vQ tab rfl (vQ tab rfl (vQ tab rfl (vQ tab rfl (vQ tab rfl (vq_op tab rfl rfl rfl (ev_index rfl rfl rfl rfl rfl (by omega) (by omega)) ?_))))))))))
  refine vq_op tab rfl rfl rfl (ev_val strR rfl rfl rfl rfl rfl ha rfl) (vQ tab rfl (vQ tab rfl (vnl (qth (vw_ret ?_)))))
  exact ⟨⟨.inr rfl, rfl⟩, fun _ => rfl, fun _ => rfl, fun _ => rfl, trivial⟩
theorem len_tri {V : Heap} {n p t m : Nat} {most : Int} {l : List ByteArray} (h : BkAt V p t m most l) :
    Tri Try.prog 54 [.pointer (some ⟨p, 0, none⟩)] n 0 V (fun u L => u = .int .i64 (l.length : Int) ∧ L = []) := by
  obtain ⟨hp, ht, hm, d1, d2, d3⟩ := h
  refine reads_of_vw (K := 3) (argsI := [.pointer (some ⟨0, 0, none⟩)]) tab Try.func54 rfl rfl (by simp [Try.f54]) [.own p, .own t, .own m] [bookC most 1 l.length 2, .opn (strR.cells l) 9 1, .map (ents 0 l) l.length] rfl (.own hp (ov_book (rel_slice rfl rfl) (rel_map rfl)) (.own ht (ov_opn strR rfl) (.own hm (ov_ents rfl rfl) .nil))) (by simp [ownNames, *]) (by simp [ownNames, lookNames, *]) (al_cons (.val (rel_ptr rfl)) al_nil) (seen_of (sn_own (sn_own (sn_own sn_nil)))) (.int _ _) ?_
  refine wsq (wrg (vQ tab rfl (vnl (qth (wsq (wsq (wrg (vQ tab rfl (vQ tab rfl (vnl (qth (vc_false rfl (vw_skip (qth (wsq (wrg (vQ tab rfl (vQ tab rfl (vQ tab rfl (vQ tab rfl (vQ tab rfl (vQ tab rfl (vnl ?_)))))))))))))))))))))))
  refine qth (vw_ret ?_)
  exact ⟨⟨.inr rfl, rfl⟩, fun _ => rfl, fun _ => rfl, fun _ => rfl, trivial⟩
def badNew (most : Int) : Prop := most < 1 ∨ 65536 < most
theorem new_bad {most : Int} (h : badNew most) : Fun Try.prog 20 [.int .i64 most] (.tuple #[.pointer none, .int .i64 200]) := by
  refine fun_of_vw tab Try.func20 rfl rfl (by simp [Try.f20]) (lrel_cons (.int _ _) lrel_nil) (vrel_tuple (lrel_cons .nilPtr (lrel_cons (.int _ _) lrel_nil))) ?_
  unfold badNew at h
  by_cases h0 : most < 1
  · refine wsq (wrg (vQ tab rfl (vQ tab rfl (vnl (qth (wsq (wsq (wrg (vQ tab rfl (vQ tab rfl (vQ tab rfl (vgd_op true rfl rfl rfl (by simp only [decide_eq_true_eq, decide_eq_false_iff_not, Bool.not_eq_eq_eq_not, Bool.not_true, Bool.not_false, bne_iff_ne, bne_eq_false_iff_eq, beq_iff_eq, beq_eq_false_iff_ne, ne_eq, beq_self_eq_true, bne_self_eq_false, Bool.and_eq_true, Bool.and_eq_false_iff, Bool.or_eq_true, Bool.or_eq_false_iff, and_self, and_true, true_and, Bool.false_eq_true, Bool.true_eq_false, not_false_eq_true, not_true_eq_false]; first | done | omega) ?_))))))))))))
    refine vK rfl (vK rfl (vQ tab rfl (vnl (qth (vc_true rfl (wsq (wrg (vQ tab rfl (vQ tab rfl (vnl (qth (vw_ret (q_thenr ?_)))))))))))))
    exact ⟨.inr rfl, rfl⟩
  refine wsq (wrg (vQ tab rfl (vQ tab rfl (vnl (qth (wsq (wsq (wrg (vQ tab rfl (vQ tab rfl (vQ tab rfl (vgd_op false rfl rfl rfl (by simp only [decide_eq_true_eq, decide_eq_false_iff_not, Bool.not_eq_eq_eq_not, Bool.not_true, Bool.not_false, bne_iff_ne, bne_eq_false_iff_eq, beq_iff_eq, beq_eq_false_iff_ne, ne_eq, beq_self_eq_true, bne_self_eq_false, Bool.and_eq_true, Bool.and_eq_false_iff, Bool.or_eq_true, Bool.or_eq_false_iff, and_self, and_true, true_and, Bool.false_eq_true, Bool.true_eq_false, not_false_eq_true, not_true_eq_false]; first | done | omega) ?_))))))))))))
  refine vQ tab rfl (vQ tab rfl (vQ tab rfl (vnl (qth (vcd_true rfl (by simp only [decide_eq_true_eq, decide_eq_false_iff_not, Bool.not_eq_eq_eq_not, Bool.not_true, Bool.not_false, bne_iff_ne, bne_eq_false_iff_eq, beq_iff_eq, beq_eq_false_iff_ne, ne_eq, beq_self_eq_true, bne_self_eq_false, Bool.and_eq_true, Bool.and_eq_false_iff, Bool.or_eq_true, Bool.or_eq_false_iff, and_self, and_true, true_and, Bool.false_eq_true, Bool.true_eq_false, not_false_eq_true, not_true_eq_false]; first | done | omega) ?_)))))
  refine wsq (wrg (vQ tab rfl (vQ tab rfl (vnl (qth (vw_ret (q_thenr ?_)))))))
  exact ⟨.inr rfl, rfl⟩
/-- A new book: its pointer, its terms (nothing), its map. -/
theorem bknew_tri {V : Heap} {n : Nat} {most : Int} (h : ¬ badNew most) : Tri Try.prog 20 [.int .i64 most] n 3 V (fun u L => u = .tuple #[.pointer (some ⟨n, 0, none⟩), .int .i64 0] ∧
    L = [(n, some (bookC most (n + 1) 0 (n + 2))), (n + 1, some (.opn (strR.cells []) 9 1)), (n + 2, some (.map (ents 0 []) 0))]) := by
  refine call_of_vw (K := 0) (argsI := [.int .i64 most]) tab Try.func20 rfl rfl (by simp [Try.f20]) [] [] rfl .nil (by simp [ownNames]) (by simp [ownNames, lookNames]) (by simp [ownNames, *]) (al_cons (.val (.int _ _)) al_nil) (seen_of sn_nil) ?_
  unfold badNew at h
  refine wsq (wrg (vQ tab rfl (vQ tab rfl (vnl (qth (wsq (wsq (wrg (vQ tab rfl (vQ tab rfl (vQ tab rfl (vgd_op false rfl rfl rfl (by simp only [decide_eq_true_eq, decide_eq_false_iff_not, Bool.not_eq_eq_eq_not, Bool.not_true, Bool.not_false, bne_iff_ne, bne_eq_false_iff_eq, beq_iff_eq, beq_eq_false_iff_ne, ne_eq, beq_self_eq_true, bne_self_eq_false, Bool.and_eq_true, Bool.and_eq_false_iff, Bool.or_eq_true, Bool.or_eq_false_iff, and_self, and_true, true_and, Bool.false_eq_true, Bool.true_eq_false, not_false_eq_true, not_true_eq_false]; first | done | omega) ?_))))))))))))
  refine vQ tab rfl (vQ tab rfl (vQ tab rfl (vnl (qth (vcd_false rfl (by simp only [decide_eq_true_eq, decide_eq_false_iff_not, Bool.not_eq_eq_eq_not, Bool.not_true, Bool.not_false, bne_iff_ne, bne_eq_false_iff_eq, beq_iff_eq, beq_eq_false_iff_ne, ne_eq, beq_self_eq_true, bne_self_eq_false, Bool.and_eq_true, Bool.and_eq_false_iff, Bool.or_eq_true, Bool.or_eq_false_iff, and_self, and_true, true_and, Bool.false_eq_true, Bool.true_eq_false, not_false_eq_true, not_true_eq_false]; first | done | omega) ?_)))))
  refine vw_skip (qth (wsq (wrg (vQ tab rfl (vN tab rfl (vQ tab rfl (vN tab rfl (vQ tab rfl (vQ tab rfl (vnl (qth (vw_ret ?_))))))))))))
  exact out_mk [1, NIL, 0] (.inr rfl) ⟨rfl, rfl⟩ rfl (vrel_tuple (lrel_cons (rel_ptr (sigma_look (i := 0) rfl)) (lrel_cons (.int _ _) lrel_nil))) (op_cons (sigma_look (i := 0) rfl) rfl rfl (ov_book (rel_nil (sigma_nil (i := 1) rfl) rfl) (rel_map (sigma_look (i := 2) rfl))) rfl (op_void (sigma_nil (i := 1) rfl) rfl rfl rfl (op_cons (sigma_look (i := 2) rfl) rfl rfl (ov_ents rfl rfl) rfl op_nil))) trivial
def badT (s : ByteArray) : Prop := s.size = 0 ∨ 512 < s.size
instance (s : ByteArray) : Decidable (badT s) := by unfold badT; infer_instance
/-- Name's answer, and the terms behind it. -/
def nameB (most : Int) (l : List ByteArray) (s : ByteArray) : Int × Int × List ByteArray :=
  if badT s then (0, 200, l) else match findB s l with
  | some j => ((j : Int), 0, l)
  | none => if most ≤ (l.length : Int) then (0, 201, l) else ((l.length : Int), 0, l ++ [s])
theorem name_bad {most : Int} {l : List ByteArray} {s : ByteArray} (h : badT s) : nameB most l s = (0, 200, l) := if_pos h
theorem name_old {most : Int} {l : List ByteArray} {s : ByteArray} {j : Nat} (h : ¬ badT s) (hf : findB s l = some j) : nameB most l s = ((j : Int), 0, l) := by unfold nameB; rw [if_neg h, hf]
theorem name_full {most : Int} {l : List ByteArray} {s : ByteArray} (h : ¬ badT s) (hf : findB s l = none) (hm : most ≤ (l.length : Int)) : nameB most l s = (0, 201, l) := by unfold nameB; rw [if_neg h, hf]; exact if_pos hm
theorem name_new {most : Int} {l : List ByteArray} {s : ByteArray} (h : ¬ badT s) (hf : findB s l = none) (hm : ¬ most ≤ (l.length : Int)) : nameB most l s = ((l.length : Int), 0, l ++ [s]) := by unfold nameB; rw [if_neg h, hf]; exact if_neg hm
def nameL (most : Int) (p t m n : Nat) (l : List ByteArray) : List (Nat × Option VObj) :=
  [(p, some (bookC most n l.length m)), (t, none), (n, some (.opn (strR.cells l) 9 1)), (m, some (.map (ents 0 l) l.length))]
theorem size0 {s : ByteArray} (h : s.size = 0) : s = ⟨#[]⟩ := by ext1; exact Array.eq_empty_of_size_eq_zero h
theorem sizeN {s : ByteArray} (h : s.size ≠ 0) : (s == (⟨#[]⟩ : ByteArray)) = false := by rw [ba_beq]; exact decide_eq_false (by rintro rfl; exact h rfl)
/-- Name: the terms move to a new name. -/
theorem name_tri {V : Heap} {n p t m : Nat} {most : Int} {l : List ByteArray} (h : BkAt V p t m most l) (hn : p < n ∧ t < n ∧ m < n) (hl : (l.length : Int) ≤ 65536) (s : ByteArray) :
    Tri Try.prog 37 [.pointer (some ⟨p, 0, none⟩), .string s] n 1 V (fun u L => u = .tuple #[.int .i64 (nameB most l s).1, .int .i64 (nameB most l s).2.1] ∧ L = nameL most p t m n (nameB most l s).2.2) := by
  obtain ⟨hp, ht, hm, d1, d2, d3⟩ := h
  obtain ⟨n1, n2, n3⟩ := hn
  refine call_of_vw (K := 3) (argsI := [.pointer (some ⟨0, 0, none⟩), .string s]) tab Try.func37 rfl rfl (by simp [Try.f37]) [.own p, .own t, .own m] [bookC most 1 l.length 2, .opn (strR.cells l) 9 1, .map (ents 0 l) l.length] rfl (.own hp (ov_book (rel_slice rfl rfl) (rel_map rfl)) (.own ht (ov_opn strR rfl) (.own hm (ov_ents rfl rfl) .nil))) (by simp [ownNames, *]) (by simp [ownNames, lookNames, *]) (by simp [ownNames, *]) (al_cons (.val (rel_ptr rfl)) (al_cons (.val (.string _)) al_nil)) (seen_of (sn_own (sn_own (sn_own sn_nil)))) ?_
  by_cases hb : badT s
  · rw [name_bad hb]
    by_cases h0 : s.size = 0
    · have hs := size0 h0
      subst hs
      refine wsq (wrg (vQ tab rfl (vQ tab rfl (vnl (qth (wsq (wbk (wsq (wrg (vQ tab rfl (vQ tab rfl (vQ tab rfl (vnl (qth (vc_false rfl (wsq (wrg (vQ tab rfl (vQ tab rfl (vQ tab rfl (vK rfl (vK rfl (vK rfl ?_)))))))))))))))))))))))
      refine vQ tab rfl (vQ tab rfl (vnl (qth (vc_true rfl (wsq (wrg (vQ tab rfl (vQ tab rfl (vnl (qth (vw_ret (q_ret (q_thenr ?_)))))))))))))
      exact out_mk [1] (.inr rfl) ⟨rfl, rfl⟩ rfl (vrel_tuple (lrel_cons (.int _ _) (lrel_cons (.int _ _) lrel_nil))) (op_cons (sigma_own (a := 0) (by simp [ownNames, *]) rfl) rfl rfl (ov_book (rel_slice (sigma_at (i := 0) (by simp [ownNames, *]) rfl) rfl) (rel_map (sigma_own (a := 2) (by simp [ownNames, *]) rfl))) rfl (op_drop (op_cons (sigma_at (i := 0) (by simp [ownNames, *]) rfl) rfl rfl (ov_opn strR rfl) rfl (op_cons (sigma_own (a := 2) (by simp [ownNames, *]) rfl) rfl rfl (ov_ents rfl rfl) rfl op_nil)))) (told_of (by simp [ownNames, nameL]))
    have h2 := sizeN h0
    have h5 : 512 < s.size := by unfold badT at hb; omega
    refine wsq (wrg (vQ tab rfl (vQ tab rfl (vnl (qth (wsq (wbk (wsq (wrg (vQ tab rfl (vQ tab rfl (vQ tab rfl (vnl (qth (vc_false rfl (wsq (wrg (vQ tab rfl (vQ tab rfl (vQ tab rfl (vgd_op false rfl rfl rfl (by simp only [h2, decide_eq_true_eq, decide_eq_false_iff_not, Bool.not_eq_eq_eq_not, Bool.not_true, Bool.not_false, bne_iff_ne, bne_eq_false_iff_eq, beq_iff_eq, beq_eq_false_iff_ne, ne_eq, beq_self_eq_true, bne_self_eq_false, Bool.and_eq_true, Bool.and_eq_false_iff, Bool.or_eq_true, Bool.or_eq_false_iff, and_self, and_true, true_and, Bool.false_eq_true, Bool.true_eq_false, not_false_eq_true, not_true_eq_false]; first | done | omega) ?_)))))))))))))))))))))
    refine vQ tab rfl (vQ tab rfl (vQ tab rfl (vQ tab rfl (vQ tab rfl (vnl (qth (vcd_true rfl (by simp only [h2, decide_eq_true_eq, decide_eq_false_iff_not, Bool.not_eq_eq_eq_not, Bool.not_true, Bool.not_false, bne_iff_ne, bne_eq_false_iff_eq, beq_iff_eq, beq_eq_false_iff_ne, ne_eq, beq_self_eq_true, bne_self_eq_false, Bool.and_eq_true, Bool.and_eq_false_iff, Bool.or_eq_true, Bool.or_eq_false_iff, and_self, and_true, true_and, Bool.false_eq_true, Bool.true_eq_false, not_false_eq_true, not_true_eq_false]; first | done | omega) ?_)))))))
    refine wsq (wrg (vQ tab rfl (vQ tab rfl (vnl (qth (vw_ret (q_ret (q_thenr ?_))))))))
    exact out_mk [1] (.inr rfl) ⟨rfl, rfl⟩ rfl (vrel_tuple (lrel_cons (.int _ _) (lrel_cons (.int _ _) lrel_nil))) (op_cons (sigma_own (a := 0) (by simp [ownNames, *]) rfl) rfl rfl (ov_book (rel_slice (sigma_at (i := 0) (by simp [ownNames, *]) rfl) rfl) (rel_map (sigma_own (a := 2) (by simp [ownNames, *]) rfl))) rfl (op_drop (op_cons (sigma_at (i := 0) (by simp [ownNames, *]) rfl) rfl rfl (ov_opn strR rfl) rfl (op_cons (sigma_own (a := 2) (by simp [ownNames, *]) rfl) rfl rfl (ov_ents rfl rfl) rfl op_nil)))) (told_of (by simp [ownNames, nameL]))
  have h2 := sizeN (s := s) (fun e => hb (.inl e))
  have h5 : ¬ 512 < s.size := fun e => hb (.inr e)
  cases hf : findB s l with
  | some j =>
    rw [name_old hb hf]
    refine wsq (wrg (vQ tab rfl (vQ tab rfl (vnl (qth (wsq (wbk (wsq (wrg (vQ tab rfl (vQ tab rfl (vQ tab rfl (vnl (qth (vc_false rfl (wsq (wrg (vQ tab rfl (vQ tab rfl (vQ tab rfl (vgd_op false rfl rfl rfl (by simp only [h2, decide_eq_true_eq, decide_eq_false_iff_not, Bool.not_eq_eq_eq_not, Bool.not_true, Bool.not_false, bne_iff_ne, bne_eq_false_iff_eq, beq_iff_eq, beq_eq_false_iff_ne, ne_eq, beq_self_eq_true, bne_self_eq_false, Bool.and_eq_true, Bool.and_eq_false_iff, Bool.or_eq_true, Bool.or_eq_false_iff, and_self, and_true, true_and, Bool.false_eq_true, Bool.true_eq_false, not_false_eq_true, not_true_eq_false]; first | done | omega) ?_)))))))))))))))))))))
    refine vQ tab rfl (vQ tab rfl (vQ tab rfl (vQ tab rfl (vQ tab rfl (vnl (qth (vcd_false rfl (by simp only [h2, decide_eq_true_eq, decide_eq_false_iff_not, Bool.not_eq_eq_eq_not, Bool.not_true, Bool.not_false, bne_iff_ne, bne_eq_false_iff_eq, beq_iff_eq, beq_eq_false_iff_ne, ne_eq, beq_self_eq_true, bne_self_eq_false, Bool.and_eq_true, Bool.and_eq_false_iff, Bool.or_eq_true, Bool.or_eq_false_iff, and_self, and_true, true_and, Bool.false_eq_true, Bool.true_eq_false, not_false_eq_true, not_true_eq_false]; first | done | omega) ?_)))))))
    refine vw_skip (q_norm (qth (wsq (wsq (wrg (vQ tab rfl (vQ tab rfl (vQ tab rfl (vQ tab rfl (vQ tab rfl (vq_op tab rfl rfl rfl (ev_found rfl rfl rfl rfl rfl rfl rfl rfl hf) (vQ tab rfl (vQ tab rfl (vQ tab rfl (vQ tab rfl (vQ tab rfl (vnl (qth (wsq (wrg (vQ tab rfl (vnl (qth ?_)))))))))))))))))))))))
    refine vc_true rfl (wsq (wrg (vQ tab rfl (vQ tab rfl (vQ tab rfl (vnl (qth (vw_ret (q_thenr ?_)))))))))
    exact out_mk [1] (.inr rfl) ⟨rfl, rfl⟩ rfl (vrel_tuple (lrel_cons (.int _ _) (lrel_cons (.int _ _) lrel_nil))) (op_cons (sigma_own (a := 0) (by simp [ownNames, *]) rfl) rfl rfl (ov_book (rel_slice (sigma_at (i := 0) (by simp [ownNames, *]) rfl) rfl) (rel_map (sigma_own (a := 2) (by simp [ownNames, *]) rfl))) rfl (op_drop (op_cons (sigma_at (i := 0) (by simp [ownNames, *]) rfl) rfl rfl (ov_opn strR rfl) rfl (op_cons (sigma_own (a := 2) (by simp [ownNames, *]) rfl) rfl rfl (ov_ents rfl rfl) rfl op_nil)))) (told_of (by simp [ownNames, nameL]))
  | none =>
    by_cases hfull : most ≤ (l.length : Int)
    · rw [name_full hb hf hfull]
      refine wsq (wrg (vQ tab rfl (vQ tab rfl (vnl (qth (wsq (wbk (wsq (wrg (vQ tab rfl (vQ tab rfl (vQ tab rfl (vnl (qth (vc_false rfl (wsq (wrg (vQ tab rfl (vQ tab rfl (vQ tab rfl (vgd_op false rfl rfl rfl (by simp only [h2, decide_eq_true_eq, decide_eq_false_iff_not, Bool.not_eq_eq_eq_not, Bool.not_true, Bool.not_false, bne_iff_ne, bne_eq_false_iff_eq, beq_iff_eq, beq_eq_false_iff_ne, ne_eq, beq_self_eq_true, bne_self_eq_false, Bool.and_eq_true, Bool.and_eq_false_iff, Bool.or_eq_true, Bool.or_eq_false_iff, and_self, and_true, true_and, Bool.false_eq_true, Bool.true_eq_false, not_false_eq_true, not_true_eq_false]; first | done | omega) ?_)))))))))))))))))))))
      refine vQ tab rfl (vQ tab rfl (vQ tab rfl (vQ tab rfl (vQ tab rfl (vnl (qth (vcd_false rfl (by simp only [h2, decide_eq_true_eq, decide_eq_false_iff_not, Bool.not_eq_eq_eq_not, Bool.not_true, Bool.not_false, bne_iff_ne, bne_eq_false_iff_eq, beq_iff_eq, beq_eq_false_iff_ne, ne_eq, beq_self_eq_true, bne_self_eq_false, Bool.and_eq_true, Bool.and_eq_false_iff, Bool.or_eq_true, Bool.or_eq_false_iff, and_self, and_true, true_and, Bool.false_eq_true, Bool.true_eq_false, not_false_eq_true, not_true_eq_false]; first | done | omega) ?_)))))))
      refine vw_skip (q_norm (qth (wsq (wsq (wrg (vQ tab rfl (vQ tab rfl (vQ tab rfl (vQ tab rfl (vQ tab rfl (vq_op tab rfl rfl rfl (ev_lost rfl rfl rfl rfl rfl rfl rfl rfl hf) (vQ tab rfl (vQ tab rfl (vQ tab rfl (vQ tab rfl (vQ tab rfl (vnl (qth (wsq (wrg (vQ tab rfl (vnl (qth ?_)))))))))))))))))))))))
      refine vc_false rfl (vw_skip (qth (wsq (wsq (vw_draw mixed (dq_op tab rfl rfl rfl rfl (dq_op tab rfl rfl rfl rfl (dq_op tab rfl rfl rfl rfl (dq_op tab rfl rfl rfl rfl (dq_op tab rfl rfl rfl rfl (dq_op tab rfl rfl rfl rfl (dq_op tab rfl rfl rfl rfl (dq_op tab rfl rfl rfl rfl (dq_op tab rfl rfl rfl rfl (dq_op tab rfl rfl rfl rfl (vd_nil (by kernel_rfl) ?_))))))))))))))))
      refine qth (vcd_true rfl (by simp only [h2, decide_eq_true_eq, decide_eq_false_iff_not, Bool.not_eq_eq_eq_not, Bool.not_true, Bool.not_false, bne_iff_ne, bne_eq_false_iff_eq, beq_iff_eq, beq_eq_false_iff_ne, ne_eq, beq_self_eq_true, bne_self_eq_false, Bool.and_eq_true, Bool.and_eq_false_iff, Bool.or_eq_true, Bool.or_eq_false_iff, and_self, and_true, true_and, Bool.false_eq_true, Bool.true_eq_false, not_false_eq_true, not_true_eq_false]; first | done | omega) ?_)
      refine wsq (wrg (vQ tab rfl (vQ tab rfl (vnl (qth (vw_ret (q_thenr ?_)))))))
      exact out_mk [1] (.inr rfl) ⟨rfl, rfl⟩ rfl (vrel_tuple (lrel_cons (.int _ _) (lrel_cons (.int _ _) lrel_nil))) (op_cons (sigma_own (a := 0) (by simp [ownNames, *]) rfl) rfl rfl (ov_book (rel_slice (sigma_at (i := 0) (by simp [ownNames, *]) rfl) rfl) (rel_map (sigma_own (a := 2) (by simp [ownNames, *]) rfl))) rfl (op_drop (op_cons (sigma_at (i := 0) (by simp [ownNames, *]) rfl) rfl rfl (ov_opn strR rfl) rfl (op_cons (sigma_own (a := 2) (by simp [ownNames, *]) rfl) rfl rfl (ov_ents rfl rfl) rfl op_nil)))) (told_of (by simp [ownNames, nameL]))
    rw [name_new hb hf hfull]
    refine wsq (wrg (vQ tab rfl (vQ tab rfl (vnl (qth (wsq (wbk (wsq (wrg (vQ tab rfl (vQ tab rfl (vQ tab rfl (vnl (qth (vc_false rfl (wsq (wrg (vQ tab rfl (vQ tab rfl (vQ tab rfl (vgd_op false rfl rfl rfl (by simp only [h2, decide_eq_true_eq, decide_eq_false_iff_not, Bool.not_eq_eq_eq_not, Bool.not_true, Bool.not_false, bne_iff_ne, bne_eq_false_iff_eq, beq_iff_eq, beq_eq_false_iff_ne, ne_eq, beq_self_eq_true, bne_self_eq_false, Bool.and_eq_true, Bool.and_eq_false_iff, Bool.or_eq_true, Bool.or_eq_false_iff, and_self, and_true, true_and, Bool.false_eq_true, Bool.true_eq_false, not_false_eq_true, not_true_eq_false]; first | done | omega) ?_)))))))))))))))))))))
    refine vQ tab rfl (vQ tab rfl (vQ tab rfl (vQ tab rfl (vQ tab rfl (vnl (qth (vcd_false rfl (by simp only [h2, decide_eq_true_eq, decide_eq_false_iff_not, Bool.not_eq_eq_eq_not, Bool.not_true, Bool.not_false, bne_iff_ne, bne_eq_false_iff_eq, beq_iff_eq, beq_eq_false_iff_ne, ne_eq, beq_self_eq_true, bne_self_eq_false, Bool.and_eq_true, Bool.and_eq_false_iff, Bool.or_eq_true, Bool.or_eq_false_iff, and_self, and_true, true_and, Bool.false_eq_true, Bool.true_eq_false, not_false_eq_true, not_true_eq_false]; first | done | omega) ?_)))))))
    refine vw_skip (q_norm (qth (wsq (wsq (wrg (vQ tab rfl (vQ tab rfl (vQ tab rfl (vQ tab rfl (vQ tab rfl (vq_op tab rfl rfl rfl (ev_lost rfl rfl rfl rfl rfl rfl rfl rfl hf) (vQ tab rfl (vQ tab rfl (vQ tab rfl (vQ tab rfl (vQ tab rfl (vnl (qth (wsq (wrg (vQ tab rfl (vnl (qth ?_)))))))))))))))))))))))
    refine vc_false rfl (vw_skip (qth (wsq (wsq (vw_draw mixed (dq_op tab rfl rfl rfl rfl (dq_op tab rfl rfl rfl rfl (dq_op tab rfl rfl rfl rfl (dq_op tab rfl rfl rfl rfl (dq_op tab rfl rfl rfl rfl (dq_op tab rfl rfl rfl rfl (dq_op tab rfl rfl rfl rfl (dq_op tab rfl rfl rfl rfl (dq_op tab rfl rfl rfl rfl (dq_op tab rfl rfl rfl rfl (vd_nil (by kernel_rfl) ?_))))))))))))))))
    refine qth (vcd_false rfl (by simp only [h2, decide_eq_true_eq, decide_eq_false_iff_not, Bool.not_eq_eq_eq_not, Bool.not_true, Bool.not_false, bne_iff_ne, bne_eq_false_iff_eq, beq_iff_eq, beq_eq_false_iff_ne, ne_eq, beq_self_eq_true, bne_self_eq_false, Bool.and_eq_true, Bool.and_eq_false_iff, Bool.or_eq_true, Bool.or_eq_false_iff, and_self, and_true, true_and, Bool.false_eq_true, Bool.true_eq_false, not_false_eq_true, not_true_eq_false]; first | done | omega) ?_)
    refine vw_skip (qth (wsq (wrg (vQ tab rfl (vQ tab rfl (vQ tab rfl (vQ tab rfl (vQ tab rfl (vQ tab rfl (vnl (qth (wsq (vw_draw mixed (dq_op tab rfl rfl rfl rfl (dq_op tab rfl rfl rfl rfl (dq_op tab rfl rfl rfl rfl (dq_op tab rfl rfl rfl rfl (dq_op tab rfl rfl rfl rfl (dq_op tab rfl rfl rfl rfl (dq_op tab rfl rfl rfl rfl (dq_op tab rfl rfl rfl rfl (dq_op tab rfl rfl rfl rfl (dq_op tab rfl rfl rfl rfl ?_)))))))))))))))))))))))
    refine dq_op tab rfl rfl rfl rfl (dn_op tab rfl rfl rfl rfl (do_op [1, 3] rfl rfl (opr_ev tab (ev_app strR (ys := [s]) (m := 1) rfl rfl rfl rfl rfl rfl rfl rfl rfl (by show (_ + 1) * 16 ≤ _; omega) (by omega))) ?_))
    refine dq_op tab rfl rfl rfl rfl (dq_op tab rfl rfl rfl rfl (dq_op tab rfl rfl rfl rfl (ds_op tab rfl rfl rfl rfl (do_op [2] rfl rfl (opr_ev tab (ev_mapnew rfl rfl rfl rfl rfl rfl rfl rfl hf)) (dq_op tab rfl rfl rfl rfl (ds_op tab rfl rfl (ev_mapset rfl rfl rfl rfl) (ev_mapset rfl rfl rfl rfl) (vd_nil (by kernel_rfl) ?_)))))))
    refine qth (wsq (wrg (vQ tab rfl (vQ tab rfl (vQ tab rfl (vnl (qth (vw_ret ?_))))))))
    exact out_mk [4] (.inr rfl) ⟨rfl, rfl⟩ rfl (vrel_tuple (lrel_cons (.int _ _) (lrel_cons (.int _ _) lrel_nil))) (op_cons (sigma_own (a := 0) (by simp [ownNames, *]) rfl) rfl rfl (ov_book (rel_slice (sigma_at (i := 0) (by simp [ownNames, *]) rfl) (by rw [List.length_append]; rfl)) (rel_map (sigma_own (a := 2) (by simp [ownNames, *]) rfl))) rfl (op_drop (op_cons (sigma_at (i := 0) (by simp [ownNames, *]) rfl) rfl rfl (ov_opn strR rfl) rfl (op_cons (sigma_own (a := 2) (by simp [ownNames, *]) rfl) rfl rfl (ov_ents rfl rfl) rfl op_nil)))) (told_of (by simp [ownNames, nameL]))
end Go.Proofs.Ytjkidjplbddmmaa
