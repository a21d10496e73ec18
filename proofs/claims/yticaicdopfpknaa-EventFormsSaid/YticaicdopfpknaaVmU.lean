/- The rules of a row whose order is left open, as a walk uses them. No program in it. -/
import Derived.Test.YticaicdopfpknaaVmS
import Derived.Test.YticaicdopfpknaaVmN
set_option linter.unusedVariables false
set_option linter.unusedSimpArgs false
namespace Go.Proofs.Yticaicdopfpknaa.Vm
open Go

/-- What is known where it is looked. -/
def cut (l : List Nat) (env : List (Nat × Value)) : List (Nat × Value) := l.filterMap fun t => (lkp env t).map fun v => (t, v)

theorem lkp_cut {env : List (Nat × Value)} : ∀ {l : List Nat} {t : Nat} {v : Value}, lkp (cut l env) t = some v → only l (lkp env) t = some v
  | [], t, v, h => by cases h
  | u :: l, t, v, h => by
    unfold cut at h
    rw [List.filterMap_cons] at h
    have rest : lkp (cut l env) t = some v → only (u :: l) (lkp env) t = some v := by
      intro h
      have := lkp_cut h
      unfold only at this ⊢
      split at this
      · rename_i hc
        rw [if_pos (by simp only [List.contains_cons, hc, Bool.or_true])]
        exact this
      · cases this
    cases hx : lkp env u with
    | none =>
      rw [hx] at h
      exact rest h
    | some x =>
      rw [hx] at h
      simp only [Option.map_some, lkp] at h
      split at h
      · rename_i he; subst he; cases h
        unfold only
        rw [if_pos (by simp)]
        exact hx
      · exact rest h

section
variable {P : Program} {τ : Nat → Option TI} {m g : Nat} {Q : Exit → St → Prop} {ops : Array Oper} {l : List Oper} {o : Oper} {env : List (Nat × Value)} {V : Heap} {n : Nat} {s0 : St} {done : List Item}

theorem env_cut {ρ : Ren} {looks : List Nat} {tmps : Array Value} (h : EnvF ρ (only looks (lkp env)) tmps) : EnvRel ρ (cut looks env) tmps := fun t v ht => h t v (lkp_cut ht)

theorem rd_env {ρ : Ren} {a : Act} (hr : EnvRel ρ env a.tmps) : Rd ρ env a.eval := by
  intro x v h
  cases x with
  | tmp t =>
    obtain ⟨v', h1, h2⟩ := hr t v h
    simpa [Act.eval, h1] using h2
  | const c =>
    simp only [rd] at h
    split at h
    · cases h; exact vrel_const ‹_›
    · cases h
  | func f =>
    cases h
    exact .func rfl (fun i v v' h => by simp at h) rfl (fun i v v' h => by simp at h)
  | global g => cases h

theorem want_env {ρ : Ren} {a : Act} (hr : EnvRel ρ env a.tmps) {b : Bool} (h : Want ops env o b) : Region.wanted o (yielded ops a.tmps) = b := by
  unfold Want at h
  unfold Region.wanted
  split at h
  · rename_i hg; rw [hg]; exact h.symm
  · rename_i j want hg
    obtain ⟨d, c, h1, h2, rfl⟩ := h
    obtain ⟨v', h3, h4⟩ := hr d _ h2
    cases h4
    rw [hg]
    simp only [yielded, h1, Option.bind_some, h3]
    cases c <;> cases want <;> rfl

theorem does_op (hτ : Tab P τ) {i : Nat} (ho : ops[i]? = some o) {rs : List Nat} {r : Res} (hw : Want ops (cut (o.looksAt ops) env) o true) (h : evOp τ (cut (o.looksAt ops) env) (only rs V) n o.op = some r) :
    Does P m ops ⟨i, o.dst, o.looksAt ops, r.v, r.L, n, r.k, rs⟩ (lkp env) V := by
  intro ρ a w he hm hs hn K Q hK
  have he' := env_cut he
  unfold wpOp
  simp only [ho]
  rw [if_pos (want_env he' hw)]
  obtain ⟨v', w', ρ', h1, h2, h3, h4, h5⟩ := evOp_ok hτ.ok hτ.zs hs (rd_env he') hn h
  have hnext := hK v' ρ' w' h2 h3 h4 h5
  refine .inl ?_
  unfold Oper.wp
  rcases h1 with h1 | ⟨h1, rfl⟩
  · rw [h1]; exact hnext
  · rw [h1]; exact hnext

theorem does_skip {i : Nat} (ho : ops[i]? = some o) (hw : Want ops (cut (o.looksAt ops) env) o false) : Does P m ops ⟨i, o.dst, o.looksAt ops, undef, [], n, 0, []⟩ (lkp env) V := by
  intro ρ a w he hm hs hn K Q hK
  unfold wpOp
  simp only [ho]
  rw [if_neg (by rw [want_env (env_cut he) hw]; simp)]
  exact hK undef ρ w (vrel_tuple lrel_nil) hs (.refl _ _ _) (fun _ _ => rfl)

theorem does_skip_undef {i j : Nat} {want : Bool} {e : Nat} (ho : ops[i]? = some o) (hg : o.guard = some (j, want)) (h1 : (ops[j]?).bind (·.dst) = some e) (h2 : lkp (cut (o.looksAt ops) env) e = some undef) : Does P m ops ⟨i, o.dst, o.looksAt ops, undef, [], n, 0, []⟩ (lkp env) V := by
  intro ρ a w he hm hs hn K Q hK
  unfold wpOp
  simp only [ho]
  obtain ⟨v', h3, h4⟩ := env_cut he e _ h2
  rw [if_neg (by rw [wanted_undef hg h1 h3 h4]; simp)]
  exact hK undef ρ w (vrel_tuple lrel_nil) hs (.refl _ _ _) (fun _ _ => rfl)

theorem does_call {i : Nat} (hoi : ops[i]? = some o) {F : FuncId} {f : Operand} {args : Array Operand} {ats : Array TypeId} {va vb vc : List Value} {k : Nat} {rs : List Nat} {v : Value} {L : List (Nat × Option VObj)}
    (hw : Want ops (cut (o.looksAt ops) env) o true) (ho : o.op = .call { callee := .value f, args, argTypes := ats }) (hf : rd (cut (o.looksAt ops) env) f = some (.func (.func F) va.toArray vc.toArray))
    (ha : rds (cut (o.looksAt ops) env) args.toList = some vb) (hF : Callable P F) (T : Tri P F (va ++ vb ++ vc) n k (only rs V) (fun u L' => u = v ∧ L' = L)) :
    Does P m ops ⟨i, o.dst, o.looksAt ops, v, L, n, k, rs⟩ (lkp env) V := by
  intro ρ a w he hm hs hn K Q hK
  have he' := env_cut he
  unfold wpOp
  simp only [hoi]
  rw [if_pos (want_env he' hw)]
  refine .inl ?_
  have h1 := rd_env he' _ _ hf
  have h2 := rds_ok (rd_env he') ha
  generalize hx : a.eval f = x at h1
  cases h1 with
  | @func _ f1 f1' c1 c1' hs1 hv1 hs2 hv2 =>
  obtain ⟨fn, hfn, hn1, hn2⟩ := hF
  have hl1 : LRel ρ va f1'.toList := ⟨by simpa using hs1, fun i v v' p q => hv1 i v v' (by simpa using p) (by simpa using q)⟩
  have hl3 : LRel ρ vc c1'.toList := ⟨by simpa using hs2, fun i v v' p q => hv2 i v v' (by simpa using p) (by simpa using q)⟩
  have hall := lrel_append (lrel_append hl1 h2) hl3
  have hrun : (execOp a.eval o).run P w = .ok (.enter F (f1'.toList ++ args.toList.map a.eval ++ c1'.toList).toArray) w := by
    unfold execOp
    rw [ho]
    have hn1' : ¬ fn.name = "runtime.NumGoroutine" := by simpa using hn1
    have hb : ¬ fn.body = none := by intro e; rw [e] at hn2; cases hn2
    have he : (f1'.toList ++ args.toList.map a.eval ++ c1'.toList).toArray = f1' ++ args.map a.eval ++ c1' := by apply Array.ext'; simp
    simp [resolve, hx, Deferred.ofValue, invoke, callFunc, hfn, hn1', hb, he]
  unfold Oper.wp
  rw [hrun, Oper.upon_enter]
  refine (T ρ w _ hn hs hall).mono ?_
  rintro e w' ⟨u, L', v', ρ', ⟨rfl, rfl⟩, rfl, hv, hs', hk, hρ⟩
  exact hK v' ρ' w' hv hs' hk hρ

/-- On the way through the row: what was met, what is to come. -/
def VD (P : Program) (m g : Nat) (ops : Array Oper) (Q : Exit → St → Prop) (s0 : St) (done : List Item) (l : List Oper) (s : St) : Prop :=
  ops.toList.drop done.length = l → ∃ (more : List Item) (s1 : St), chk m ops s0.n s1.n (done.reverse ++ more) = true ∧ Row P m ops (fun E V => (∀ t, E t = lkp s1.env t) ∧ V = s1.heap) more (lkp s.env) s.heap ∧ Q .normal s1

theorem vw_draw (hmx : P.follows .mixedOrders = true) {id : Nat} {s : St} (h : VD P m g ops Q s [] ops.toList s) : VW P m g (.region id ops true) Q s := by
  obtain ⟨more, s1, hc, hrow, hQ⟩ := h rfl
  intro ρ a w hr
  simp only [List.reverse_nil, List.nil_append] at hc
  simp only [chk, Bool.and_eq_true, decide_eq_true_eq, beq_iff_eq] at hc
  obtain ⟨⟨⟨⟨hT, hall⟩, hp⟩, hidx⟩, hlo⟩ := hc
  have hlen : more.length = ops.size := by have := congrArg List.length hidx; simpa using this
  refine wp_region_any hmx (any_of_row hT hQ (Nat.le_trans hr.old hlo) ops.size more _ (lkp s.env) s.heap ρ a _ (by omega) (by simp) ?_ ?_ ?_ (pairsB_spec hp) ?_ hrow ?_ ?_ ?_ hr.env hr.size hr.defers ?_ (fun _ _ => rfl))
  · intro j hj
    constructor
    · intro _
      have : j ∈ more.map (·.i) := by rw [hidx]; exact List.mem_range.2 hj
      obtain ⟨x, hx, hxi⟩ := List.mem_map.1 this
      exact ⟨x, hx, hxi⟩
    · intro _; simp [hj]
  · intro x hx
    have : x.i ∈ List.range ops.size := by rw [← hidx]; exact List.mem_map.2 ⟨x, hx, rfl⟩
    exact List.mem_range.1 this
  · intro j o hj hl
    have := (Array.getElem?_eq_some_iff.1 hj).1
    simp [this] at hl
  · intro x hx
    have := List.all_eq_true.1 hall x hx
    simp only [oneB, Bool.and_eq_true, decide_eq_true_eq] at this ⊢
    exact ⟨⟨this.1.1, Nat.le_trans hr.old this.1.2⟩, this.2⟩
  · intro i hi
    exact hr.bd i (by omega)
  · intro x hx j h1 h2
    have := List.all_eq_true.1 hall x hx
    simp only [oneB, Bool.and_eq_true, decide_eq_true_eq] at this
    exact hr.bd j (by omega)
  · exact ⟨hr.sim.has, hr.sim.apart⟩
  · exact ⟨rfl, rfl, rfl, Nat.le_refl _, fun _ _ _ => rfl, fun _ h => .inl h⟩

theorem vd_nil (hc : chk m ops s0.n n done.reverse = true) (h : Q .normal ⟨env, V, n⟩) : VD P m g ops Q s0 done [] ⟨env, V, n⟩ :=
  fun _ => ⟨[], ⟨env, V, n⟩, by simpa using hc, ⟨fun _ => rfl, rfl⟩, h⟩

theorem vd_step {s s' : St} {x : Item} (hd : Does P m ops x (lkp s.env) s.heap) (he : putE x.d x.v (lkp s.env) = lkp s'.env) (hh : over s.heap x.L = s'.heap) (K : VD P m g ops Q s0 (x :: done) l s') : VD P m g ops Q s0 done (o :: l) s := by
  intro hdrop
  have h2 : ops.toList.drop (x :: done).length = l := by
    rw [List.length_cons, ← List.drop_drop, hdrop]; rfl
  obtain ⟨more, s1, hc, hrow, hQ⟩ := K h2
  refine ⟨x :: more, s1, by simpa using hc, ⟨hd, ?_⟩, hQ⟩
  rw [he, hh]; exact hrow

theorem drop_get {done : List Item} (h : ops.toList.drop done.length = o :: l) : ops[done.length]? = some o := by
  have := congrArg List.head? h
  simpa [List.head?_drop] using this

theorem vd_at {s : St} (h : ops[done.length]? = some o → VD P m g ops Q s0 done (o :: l) s) : VD P m g ops Q s0 done (o :: l) s := fun hd => h (drop_get hd) hd

theorem dq_op (hτ : Tab P τ) {d : Nat} {v : Value} {rs : List Nat} (hw : Want ops (cut (o.looksAt ops) env) o true) (hd : o.dst = some d) (h0 : evOp τ env V n o.op = some ⟨v, [], 0, rs⟩) (h : evOp τ (cut (o.looksAt ops) env) (only rs V) n o.op = some ⟨v, [], 0, rs⟩)
    (K : VD P m g ops Q s0 (⟨done.length, some d, o.looksAt ops, v, [], n, 0, rs⟩ :: done) l ⟨(d, v) :: env, V, n⟩) : VD P m g ops Q s0 done (o :: l) ⟨env, V, n⟩ := by
  refine vd_at fun ho => ?_
  have := does_op (m := m) hτ ho hw h
  rw [hd] at this
  refine vd_step ?_ ?_ ?_ K
  · exact this
  · funext t; rfl
  · rfl

theorem dn_op (hτ : Tab P τ) {d i : Nat} {v : Value} {ob : VObj} {rs : List Nat} (hw : Want ops (cut (o.looksAt ops) env) o true) (hd : o.dst = some d) (h0 : evOp τ env V n o.op = some ⟨v, [(i, some ob)], 1, rs⟩) (h : evOp τ (cut (o.looksAt ops) env) (only rs V) n o.op = some ⟨v, [(i, some ob)], 1, rs⟩)
    (K : VD P m g ops Q s0 (⟨done.length, some d, o.looksAt ops, v, [(i, some ob)], n, 1, rs⟩ :: done) l ⟨(d, v) :: env, upd V i (some ob), n + 1⟩) : VD P m g ops Q s0 done (o :: l) ⟨env, V, n⟩ := by
  refine vd_at fun ho => ?_
  have := does_op (m := m) hτ ho hw h
  rw [hd] at this
  refine vd_step ?_ ?_ ?_ K
  · exact this
  · funext t; rfl
  · show over V _ = _; rw [over_cons, over_nil]

theorem ds_op (hτ : Tab P τ) {i : Nat} {v : Value} {ob : VObj} {rs : List Nat} (hw : Want ops (cut (o.looksAt ops) env) o true) (hd : o.dst = none) (h0 : evOp τ env V n o.op = some ⟨v, [(i, some ob)], 0, rs⟩) (h : evOp τ (cut (o.looksAt ops) env) (only rs V) n o.op = some ⟨v, [(i, some ob)], 0, rs⟩)
    (K : VD P m g ops Q s0 (⟨done.length, none, o.looksAt ops, v, [(i, some ob)], n, 0, rs⟩ :: done) l ⟨env, upd V i (some ob), n⟩) : VD P m g ops Q s0 done (o :: l) ⟨env, V, n⟩ := by
  refine vd_at fun ho => ?_
  have := does_op (m := m) hτ ho hw h
  rw [hd] at this
  refine vd_step ?_ ?_ ?_ K
  · exact this
  · rfl
  · show over V _ = _; rw [over_cons, over_nil]

theorem dk_op {d : Nat} (hw : Want ops (cut (o.looksAt ops) env) o false) (hd : o.dst = some d)
    (K : VD P m g ops Q s0 (⟨done.length, some d, o.looksAt ops, undef, [], n, 0, []⟩ :: done) l ⟨(d, undef) :: env, V, n⟩) : VD P m g ops Q s0 done (o :: l) ⟨env, V, n⟩ := by
  refine vd_at fun ho => ?_
  have := does_skip (P := P) (m := m) (V := V) (n := n) ho hw
  rw [hd] at this
  refine vd_step ?_ ?_ ?_ K
  · exact this
  · funext t; rfl
  · rfl

theorem dk_op' (hw : Want ops (cut (o.looksAt ops) env) o false) (hd : o.dst = none)
    (K : VD P m g ops Q s0 (⟨done.length, none, o.looksAt ops, undef, [], n, 0, []⟩ :: done) l ⟨env, V, n⟩) : VD P m g ops Q s0 done (o :: l) ⟨env, V, n⟩ := by
  refine vd_at fun ho => ?_
  have := does_skip (P := P) (m := m) (V := V) (n := n) ho hw
  rw [hd] at this
  refine vd_step ?_ ?_ ?_ K
  · exact this
  · rfl
  · rfl

theorem dku_op {j : Nat} {want : Bool} {d e : Nat} (hg : o.guard = some (j, want)) (h1 : (ops[j]?).bind (·.dst) = some e) (h2 : lkp (cut (o.looksAt ops) env) e = some undef) (hd : o.dst = some d)
    (K : VD P m g ops Q s0 (⟨done.length, some d, o.looksAt ops, undef, [], n, 0, []⟩ :: done) l ⟨(d, undef) :: env, V, n⟩) : VD P m g ops Q s0 done (o :: l) ⟨env, V, n⟩ := by
  refine vd_at fun ho => ?_
  have := does_skip_undef (P := P) (m := m) (V := V) (n := n) ho hg h1 h2
  rw [hd] at this
  refine vd_step ?_ ?_ ?_ K
  · exact this
  · funext t; rfl
  · rfl

theorem df_op {F : FuncId} {f : Operand} {args : Array Operand} {ats : Array TypeId} {vb : List Value} {d : Nat} {v : Value} (hw : Want ops (cut (o.looksAt ops) env) o true) (hd : o.dst = some d)
    (ho : o.op = .call { callee := .value f, args, argTypes := ats }) (hf : rd (cut (o.looksAt ops) env) f = some (.func (.func F) #[] #[])) (ha : rds (cut (o.looksAt ops) env) args.toList = some vb) (hF : Callable P F)
    (T : Fun P F vb v) (K : VD P m g ops Q s0 (⟨done.length, some d, o.looksAt ops, v, [], n, 0, []⟩ :: done) l ⟨(d, v) :: env, V, n⟩) : VD P m g ops Q s0 done (o :: l) ⟨env, V, n⟩ := by
  refine vd_at fun hoi => ?_
  have := does_call (P := P) (m := m) (V := V) (n := n) (k := 0) (rs := []) (v := v) (L := []) (va := []) (vc := []) (vb := vb) hoi hw ho hf ha hF (by simpa using T n _)
  rw [hd] at this
  refine vd_step ?_ ?_ ?_ K
  · exact this
  · funext t; rfl
  · rfl

/-- A test that parts. -/
theorem dg_op {j : Nat} {want : Bool} {d : Nat} {c : Bool} (hg : o.guard = some (j, want)) (h1 : (ops[j]?).bind (·.dst) = some d) (h2 : lkp env d = some (.bool c))
    (ht : c = want → VD P m g ops Q s0 done (o :: l) ⟨(d, .bool want) :: env, V, n⟩) (hf : c = !want → VD P m g ops Q s0 done (o :: l) ⟨(d, .bool (!want)) :: env, V, n⟩) : VD P m g ops Q s0 done (o :: l) ⟨env, V, n⟩ := by
  have key : ∀ b, c = b → VD P m g ops Q s0 done (o :: l) ⟨(d, .bool b) :: env, V, n⟩ → VD P m g ops Q s0 done (o :: l) ⟨env, V, n⟩ := by
    rintro b rfl h
    have e : lkp ((d, .bool c) :: env) = lkp env := by
      funext t
      simp only [lkp]
      split
      · rename_i he; subst he; exact h2.symm
      · rfl
    intro hd
    obtain ⟨more, s1, hc, hrow, hQ⟩ := h hd
    exact ⟨more, s1, hc, by simpa only [e] using hrow, hQ⟩
  by_cases hc : c = want
  · exact key _ hc (ht hc)
  · have hc' : c = !want := by cases c <;> cases want <;> first | rfl | exact (hc rfl).elim
    exact key _ hc' (hf hc')

theorem dgd_op {j : Nat} {want : Bool} {d : Nat} {c : Bool} (b : Bool) (hg : o.guard = some (j, want)) (h1 : (ops[j]?).bind (·.dst) = some d) (h2 : lkp env d = some (.bool c)) (hc : c = b)
    (K : VD P m g ops Q s0 done (o :: l) ⟨(d, .bool b) :: env, V, n⟩) : VD P m g ops Q s0 done (o :: l) ⟨env, V, n⟩ := by
  refine dg_op hg h1 h2 (fun h => ?_) (fun h => ?_)
  · rw [← h, hc]; exact K
  · rw [← h, hc]; exact K

end
end Go.Proofs.Yticaicdopfpknaa.Vm
