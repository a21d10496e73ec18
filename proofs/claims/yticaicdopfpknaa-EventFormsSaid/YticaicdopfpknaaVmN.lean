/- The rules as a walk uses them. No program in it. -/
import Derived.Test.YticaicdopfpknaaVmM
import Derived.Test.YticaicdopfpknaaVmP
set_option linter.unusedVariables false
set_option linter.unusedSimpArgs false
namespace Go.Proofs.Yticaicdopfpknaa.Vm
open Go
section
variable {P : Program} {τ : Nat → Option TI} {m g : Nat} {Q : Exit → St → Prop} {ops : Array Oper} {l : List Oper} {o : Oper} {env : List (Nat × Value)} {V : Heap} {n : Nat}

/-- An operation that reads alone. -/
theorem vq_op (hτ : Tab P τ) {d : Nat} {v : Value} {rs : List Nat} (hw : Want ops env o true) (hd : o.dst = some d) (hm : fitsT m (some d) = true) (h : evOp τ env V n o.op = some ⟨v, [], 0, rs⟩)
    (K : VL P m g ops Q l ⟨(d, v) :: env, V, n⟩) : VL P m g ops Q (o :: l) ⟨env, V, n⟩ :=
  vl_op hτ (r := ⟨v, [], 0, rs⟩) hw (by rw [hd]; exact hm) h (by rw [hd]; exact K)

/-- One that makes a block. -/
theorem vn_op (hτ : Tab P τ) {d i : Nat} {v : Value} {ob : VObj} {rs : List Nat} (hw : Want ops env o true) (hd : o.dst = some d) (hm : fitsT m (some d) = true) (h : evOp τ env V n o.op = some ⟨v, [(i, some ob)], 1, rs⟩)
    (K : VL P m g ops Q l ⟨(d, v) :: env, upd V i (some ob), n + 1⟩) : VL P m g ops Q (o :: l) ⟨env, V, n⟩ :=
  vl_op hτ (r := ⟨v, [(i, some ob)], 1, rs⟩) hw (by rw [hd]; exact hm) h (by simp only [hd, bindT, over_cons, over_nil]; exact K)

/-- One that writes. -/
theorem vs_op (hτ : Tab P τ) {i : Nat} {v : Value} {ob : VObj} {rs : List Nat} (hw : Want ops env o true) (hd : o.dst = none) (h : evOp τ env V n o.op = some ⟨v, [(i, some ob)], 0, rs⟩)
    (K : VL P m g ops Q l ⟨env, upd V i (some ob), n⟩) : VL P m g ops Q (o :: l) ⟨env, V, n⟩ :=
  vl_op hτ (r := ⟨v, [(i, some ob)], 0, rs⟩) hw (by rw [hd]; rfl) h (by simp only [hd, bindT, over_cons, over_nil]; exact K)

theorem vk_op {d : Nat} (hw : Want ops env o false) (hd : o.dst = some d) (hm : fitsT m (some d) = true) (K : VL P m g ops Q l ⟨(d, undef) :: env, V, n⟩) : VL P m g ops Q (o :: l) ⟨env, V, n⟩ :=
  vl_skip hw (by rw [hd]; exact hm) (by rw [hd]; exact K)

theorem vk_op' (hw : Want ops env o false) (hd : o.dst = none) (K : VL P m g ops Q l ⟨env, V, n⟩) : VL P m g ops Q (o :: l) ⟨env, V, n⟩ := by
  refine vl_skip hw (by rw [hd]; rfl) ?_
  rw [hd]; exact K

theorem vku_op {j : Nat} {want : Bool} {d e : Nat} (hg : o.guard = some (j, want)) (h1 : (ops[j]?).bind (·.dst) = some e) (h2 : lkp env e = some undef) (hd : o.dst = some d) (hm : fitsT m (some d) = true) (K : VL P m g ops Q l ⟨(d, undef) :: env, V, n⟩) : VL P m g ops Q (o :: l) ⟨env, V, n⟩ :=
  vl_skip_undef (s := ⟨env, V, n⟩) hg h1 h2 (by rw [hd]; exact hm) (by rw [hd]; exact K)

/-- A call of a function of plain values. -/
theorem vf_op {F : FuncId} {f : Operand} {args : Array Operand} {ats : Array TypeId} {vb : List Value} {d : Nat} {v : Value} (hw : Want ops env o true) (hd : o.dst = some d) (hm : fitsT m (some d) = true)
    (ho : o.op = .call { callee := .value f, args, argTypes := ats }) (hf : rd env f = some (.func (.func F) #[] #[])) (ha : rds env args.toList = some vb) (hF : Callable P F)
    (T : Fun P F vb v) (K : VL P m g ops Q l ⟨(d, v) :: env, V, n⟩) : VL P m g ops Q (o :: l) ⟨env, V, n⟩ := by
  refine vl_call (s := ⟨env, V, n⟩) (va := []) (vc := []) (vb := vb) (k := 0) (R := fun u L => u = v ∧ L = []) hw (by rw [hd]; exact hm) ho hf ha hF (by simpa using T n V) ?_
  rintro u L ⟨rfl, rfl⟩
  rw [hd]; exact K

/-- A test that parts. -/
theorem vg_op {j : Nat} {want : Bool} {d : Nat} {c : Bool} (hg : o.guard = some (j, want)) (h1 : (ops[j]?).bind (·.dst) = some d) (h2 : lkp env d = some (.bool c))
    (ht : c = want → VL P m g ops Q (o :: l) ⟨(d, .bool want) :: env, V, n⟩) (hf : c = !want → VL P m g ops Q (o :: l) ⟨(d, .bool (!want)) :: env, V, n⟩) : VL P m g ops Q (o :: l) ⟨env, V, n⟩ :=
  vl_guard (s := ⟨env, V, n⟩) hg h1 h2 ht hf

/-- A test of numbers alone. -/
theorem vgd_op {j : Nat} {want : Bool} {d : Nat} {c : Bool} (b : Bool) (hg : o.guard = some (j, want)) (h1 : (ops[j]?).bind (·.dst) = some d) (h2 : lkp env d = some (.bool c)) (hc : c = b)
    (K : VL P m g ops Q (o :: l) ⟨(d, .bool b) :: env, V, n⟩) : VL P m g ops Q (o :: l) ⟨env, V, n⟩ := by
  refine vg_op hg h1 h2 (fun h => ?_) (fun h => ?_)
  · rw [← h, hc]; exact K
  · rw [← h, hc]; exact K

theorem vc_true {t : Nat} {x y : Code} (hc : lkp env t = some (.bool true)) (h : VW P m g x Q ⟨env, V, n⟩) : VW P m g (.cond (.tmp t) x y) Q ⟨env, V, n⟩ := vw_cond_true (s := ⟨env, V, n⟩) hc h
theorem vc_false {t : Nat} {x y : Code} (hc : lkp env t = some (.bool false)) (h : VW P m g y Q ⟨env, V, n⟩) : VW P m g (.cond (.tmp t) x y) Q ⟨env, V, n⟩ := vw_cond_false (s := ⟨env, V, n⟩) hc h
theorem vc_part {t : Nat} {b : Bool} {x y : Code} (hc : lkp env t = some (.bool b)) (ht : b = true → VW P m g x Q ⟨(t, .bool true) :: env, V, n⟩) (hf : b = false → VW P m g y Q ⟨(t, .bool false) :: env, V, n⟩) : VW P m g (.cond (.tmp t) x y) Q ⟨env, V, n⟩ := by
  refine vw_cond (s := ⟨env, V, n⟩) hc (fun h => ?_) (fun h => ?_)
  all_goals
    subst h
    refine vw_weaken (env' := _) (V' := V) (s := ⟨env, V, n⟩) ?_ (fun _ _ h => h) (by first | exact ht rfl | exact hf rfl)
    intro k v hk
    simp only [lkp] at hk
    split at hk
    · rename_i he; subst he; cases hk; exact hc
    · exact hk

theorem vcd_true {t : Nat} {b : Bool} {x y : Code} (hc : lkp env t = some (.bool b)) (hb : b = true) (h : VW P m g x Q ⟨env, V, n⟩) : VW P m g (.cond (.tmp t) x y) Q ⟨env, V, n⟩ := by
  subst hb; exact vc_true hc h
theorem vcd_false {t : Nat} {b : Bool} {x y : Code} (hc : lkp env t = some (.bool b)) (hb : b = false) (h : VW P m g y Q ⟨env, V, n⟩) : VW P m g (.cond (.tmp t) x y) Q ⟨env, V, n⟩ := by
  subst hb; exact vc_false hc h

theorem q_here {id : Nat} {s : St} (h : Q .normal s) : inBlock id Q (.exit id) s := by
  simp only [inBlock]; exact h
theorem q_out {id id' : Nat} {s : St} (hne : (id' == id) = false) (h : Q (.exit id') s) : inBlock id Q (.exit id') s := by
  simp only [inBlock]
  rw [if_neg (by simpa using hne)]
  exact h
theorem q_norm {id : Nat} {s : St} (h : Q .normal s) : inBlock id Q .normal s := h
theorem q_ret {id : Nat} {s : St} (h : Q .ret s) : inBlock id Q .ret s := h
theorem q_then {N : St → Prop} {s : St} (h : N s) : then_ N Q .normal s := h
theorem q_thenx {N : St → Prop} {id : Nat} {s : St} (h : Q (.exit id) s) : then_ N Q (.exit id) s := h
theorem q_thenr {N : St → Prop} {s : St} (h : Q .ret s) : then_ N Q .ret s := h

theorem vcc_true {x y : Code} {s : St} (h : VW P m g x Q s) : VW P m g (.cond (.const (.bool true)) x y) Q s := by
  intro ρ a w hr
  have h1 : a.eval (.const (.bool true)) = .bool true := rfl
  exact wp_cond_split h1 (fun _ => h ρ a w hr) (fun e => by cases e)
theorem vcc_false {x y : Code} {s : St} (h : VW P m g y Q s) : VW P m g (.cond (.const (.bool false)) x y) Q s := by
  intro ρ a w hr
  have h1 : a.eval (.const (.bool false)) = .bool false := rfl
  exact wp_cond_split h1 (fun e => by cases e) (fun _ => h ρ a w hr)

/-- One round more of a loop that is gone through. -/
theorem rd_step {c : Code} {k : Nat} {s : St} (h : VW P m g c (then_ (rounds P m g c Q k) Q) s) : rounds P m g c Q (k + 1) s := h

theorem v_nil (h : Q .normal ⟨env, V, n⟩) : VL P m g ops Q [] ⟨env, V, n⟩ := vl_nil h

end
end Go.Proofs.Yticaicdopfpknaa.Vm
