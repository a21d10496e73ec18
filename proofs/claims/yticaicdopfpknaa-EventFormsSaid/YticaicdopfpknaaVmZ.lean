/- Further rules: operations told by a fact; append in its place; is a slice nil; a slice whose room is cut, unused. No program in it. -/
import Derived.Test.YticaicdopfpknaaVmX
import Derived.Test.YticaicdopfpknaaVmW
set_option linter.unusedVariables false
set_option linter.unusedSimpArgs false
namespace Go.Proofs.Yticaicdopfpknaa.Vm
open Go

/-- An operation does so. -/
def Opr (P : Program) (env : List (Nat × Value)) (V : Heap) (n : Nat) (o : Oper) (r : Res) : Prop :=
  ∀ ρ w e, Sim ρ V w → Rd ρ env e → (∀ i, n ≤ i → i < n + r.k → ρ i = none) → OpOk P (execOp e o) ρ V w n r

section
variable {P : Program} {τ : Nat → Option TI} {m g : Nat} {Q : Exit → St → Prop} {ops : Array Oper} {l : List Oper} {o : Oper} {env : List (Nat × Value)} {V : Heap} {n : Nat}

theorem opr_ev (hτ : Tab P τ) {r : Res} (h : evOp τ env V n o.op = some r) : Opr P env V n o r :=
  fun ρ w e hs hr hn => evOp_ok hτ.ok hτ.zs hs hr hn h

/-- append where there is room. -/
theorem opr_in (hτ : Tab P τ) {x y : Operand} {t : TypeId} {a b : Value} {r : Res} (ho : o.op = .call { callee := .builtin .append, args := #[x, y], argTypes := #[t, t] }) (ha : rd env x = some a) (hb : rd env y = some b) (h : evAppendIn τ V t a b = some r) : Opr P env V n o r := by
  intro ρ w e hs hr hn
  obtain ⟨dst, op, type, pos, after, guard⟩ := o
  simp only at ho; subst ho
  have := (evAppendIn_ok (P := P) (n := n) (ty := type) hτ.ok hs (hr _ _ ha) (hr _ _ hb) h).op
  obtain ⟨v', w', ρ', h3, h4⟩ := this
  exact ⟨v', w', ρ', by simpa [execOp, resolve, invoke, builtin] using h3, h4⟩

theorem vo_op {d : Nat} {v : Value} {L : List (Nat × Option VObj)} {k : Nat} {rs : List Nat} (hw : Want ops env o true) (hd : o.dst = some d) (hm : fitsT m (some d) = true) (H : Opr P env V n o ⟨v, L, k, rs⟩)
    (K : VL P m g ops Q l ⟨(d, v) :: env, over V L, n + k⟩) : VL P m g ops Q (o :: l) ⟨env, V, n⟩ := by
  intro ρ a w hr
  simp only [wpList]
  rw [if_pos (want_ok hr hw)]
  obtain ⟨v', w', ρ', h1, h2, h3, h4, h5⟩ := H ρ w _ hr.sim (rel_rd hr) (fun i h1 _ => hr.bd i h1)
  have hnext := rel_next (s := ⟨env, V, n⟩) (v := v) (L := L) (k := k) hr (d := o.dst) (by rw [hd]; exact hm) h2 h3 h5
  rw [hd] at hnext
  have hK := post_list (s := ⟨env, V, n⟩) (s1 := ⟨(d, v) :: env, over V L, n + k⟩) h4 (old_same hr h5) (K ρ' _ w' hnext)
  refine .inl ?_
  unfold Oper.wp
  rcases h1 with h1 | ⟨h1, rfl⟩
  · rw [h1]; simp only [Oper.upon, hd]; exact hK
  · rw [h1]; simp only [Oper.upon, hd]; exact hK

/-- Is a slice nil? If it is, it is empty. -/
theorem vnil_op {t : TypeId} {e : TypeId} {x : Operand} {d i off len cap : Nat} {ti : TI} (hτ : Tab P τ) (hw : Want ops env o true) (hd : o.dst = some d) (hm : fitsT m (some d) = true) {u : TypeId} (ho : o.op = .binOp .eql t x (.const (.slice none 0 0)) u)
    (ht : τ t = some ti) (hde : ti.desc = .slice e) (hx : rd env x = some (.slice (some ⟨i, off, none⟩) len cap))
    (h1 : len = 0 → VL P m g ops Q l ⟨(d, .bool true) :: env, V, n⟩) (h2 : VL P m g ops Q l ⟨(d, .bool false) :: env, V, n⟩) : VL P m g ops Q (o :: l) ⟨env, V, n⟩ := by
  intro ρ a w hr
  simp only [wpList]
  rw [if_pos (want_ok hr hw)]
  have hv := rel_rd hr _ _ hx
  have hu := hτ.ok.under t ti ht
  rw [hde] at hu
  have hrun : ∀ (y : Value) (c : Bool), a.eval x = y → (∃ aa ll cc, y = .slice aa ll cc ∧ aa.isNone = c) → (execOp a.eval o).run P w = .ok (.value (.bool c)) w := by
    rintro y c hy ⟨aa, ll, cc, rfl, hc⟩
    have he : a.eval (.const (.slice none 0 0)) = .slice none 0 0 := rfl
    have e2 : ∀ dd, (Op.equalIn (dd + 1) t (.slice aa ll cc) (.slice none 0 0)).run P w = .ok c w := by
      intro dd
      cases aa with
      | none => subst hc; simp [Op.equalIn, run_underlying hu]
      | some aa => subst hc; simp [Op.equalIn, run_underlying hu]
    have e3 : (Op.equal t (.slice aa ll cc) (.slice none 0 0)).run P w = .ok c w := e2 9999
    have hg : (eqGuard .eql t x (.const (.slice none 0 0)) (.slice aa ll cc) (.slice none 0 0)).run P w = .ok () w := rfl
    have hb : (binOp .eql t (.slice aa ll cc) (.slice none 0 0)).run P w = .ok (.bool c) w := by
      have : binOp .eql t (.slice aa ll cc) (.slice none 0 0) = (do pure (.bool (← Op.equal t (.slice aa ll cc) (.slice none 0 0)))) := rfl
      rw [this]; simp [e3]
    simp only [execOp, ho, hy, he, Sem.run_bind, hg, hb, Result.andThen_ok, Sem.run_pure]
  have fin : ∀ c : Bool, (execOp a.eval o).run P w = .ok (.value (.bool c)) w → VL P m g ops Q l ⟨(d, .bool c) :: env, V, n⟩ → (wpList P ops (Post m g Q ρ ⟨env, V, n⟩ w) (o :: l) a w) := by
    intro c hc hK
    simp only [wpList]
    rw [if_pos (want_ok hr hw)]
    refine .inl ?_
    unfold Oper.wp
    rw [hc]
    simp only [Oper.upon, hd]
    have hnext := rel_next (s := ⟨env, V, n⟩) (v := .bool c) (v' := .bool c) (L := []) (k := 0) hr (d := some d) hm (.bool c) (by rw [over_nil]; exact hr.sim) (fun _ _ => rfl)
    exact hK ρ _ w hnext
  have fin' : ∀ c : Bool, (execOp a.eval o).run P w = .ok (.value (.bool c)) w → VL P m g ops Q l ⟨(d, .bool c) :: env, V, n⟩ → _ := fun c hc hK => by
    have := fin c hc hK
    simp only [wpList] at this
    rw [if_pos (want_ok hr hw)] at this
    exact this
  generalize hy : a.eval x = y at hv
  cases hv with
  | slice _ _ => exact fin' false (hrun _ false hy ⟨_, _, _, rfl, rfl⟩) h2
  | oslice _ _ _ _ _ => exact fin' false (hrun _ false hy ⟨_, _, _, rfl, rfl⟩) h2
  | hollow _ _ => exact fin' false (hrun _ false hy ⟨_, _, _, rfl, rfl⟩) h2
  | ghost _ _ => exact fin' true (hrun _ true hy ⟨_, _, _, rfl, rfl⟩) (h1 rfl)

/-- A slice with its room cut: it is within its length; nobody uses it. -/
theorem vx_op {t e : TypeId} {x lo hi mx : Operand} {d i off len cap : Nat} {a b c : Int} {k1 k2 k3 : IntKind} {ti te : TI} (hτ : Tab P τ) (hw : Want ops env o true) (hd : o.dst = some d) (hfresh : lkp env d = none) (ho : o.op = .slice t x (some lo) (some hi) (some mx))
    (ht : τ t = some ti) (hde : ti.desc = .slice e) (hte : τ e = some te) (hx : rd env x = some (.slice (some ⟨i, off, none⟩) len cap)) (ha : rd env lo = some (.int k1 a)) (hb : rd env hi = some (.int k2 b)) (hc : rd env mx = some (.int k3 c))
    (h0 : 0 ≤ a) (h1 : a ≤ b) (h2 : b ≤ c) (h3 : c ≤ (len : Int)) (hcap : ∀ ρ x', (∃ w, Sim ρ V w) → VRel ρ (.slice (some ⟨i, off, none⟩) len cap) x' → ∃ aa cc, x' = .slice aa len cc ∧ len ≤ cc)
    (K : VL P m g ops Q l ⟨env, V, n⟩) : VL P m g ops Q (o :: l) ⟨env, V, n⟩ := by
  intro ρ ac w hr
  simp only [wpList]
  rw [if_pos (want_ok hr hw)]
  have hv := rel_rd hr _ _ hx
  have hva := rel_rd hr _ _ ha
  have hvb := rel_rd hr _ _ hb
  have hvc := rel_rd hr _ _ hc
  have hu := hτ.ok.under t ti ht
  rw [hde] at hu
  obtain ⟨aa, cc, hy, hcc⟩ := hcap ρ _ ⟨w, hr.sim⟩ hv
  generalize hya : ac.eval lo = ya at hva
  generalize hyb : ac.eval hi = yb at hvb
  generalize hyc : ac.eval mx = yc at hvc
  cases hva; cases hvb; cases hvc
  have e1 : (Instr.sliceBound (.int k3 c) cc .slice3Acap).run P w = .ok c.toNat w := by
    simp only [Instr.sliceBound, asIntOf, Sem.run_bind, Sem.run_pure, Result.andThen_ok]
    rw [if_pos ⟨by omega, by omega⟩]; rfl
  have e2 : (Instr.sliceBound (.int k2 b) c.toNat .slice3B).run P w = .ok b.toNat w := by
    simp only [Instr.sliceBound, asIntOf, Sem.run_bind, Sem.run_pure, Result.andThen_ok]
    rw [if_pos ⟨by omega, by omega⟩]; rfl
  have e3 : (Instr.sliceBound (.int k1 a) b.toNat .slice3C).run P w = .ok a.toNat w := by
    simp only [Instr.sliceBound, asIntOf, Sem.run_bind, Sem.run_pure, Result.andThen_ok]
    rw [if_pos ⟨by omega, by omega⟩]; rfl
  have hbs : (Instr.sliceBounds true len cc (some (.int k1 a)) (some (.int k2 b)) (some (.int k3 c))).run P w = .ok (a.toNat, b.toNat, c.toNat) w := by
    simp [Instr.sliceBounds, e1, e2, e3]
  have hrun : ∃ y, (execOp ac.eval o).run P w = .ok (.value y) w := by
    refine ⟨.slice (if c.toNat = a.toNat then aa else aa.map (·.add (a.toNat * te.size))) (b.toNat - a.toNat) (c.toNat - a.toNat), ?_⟩
    simp only [execOp, ho, Option.map_some, hy, hya, hyb, hyc, Instr.sliceAt, Instr.slice, Sem.run_bind, run_underlying hu, Result.andThen_ok, hbs, run_sizeOf' hτ.ok hte, Sem.run_pure]
  obtain ⟨y, hrun⟩ := hrun
  refine .inl ?_
  unfold Oper.wp
  rw [hrun]
  simp only [Oper.upon, hd]
  refine K ρ _ w ⟨hr.bd, hr.old, hr.sim, ?_, ?_, ?_⟩
  · intro t' u ht'
    obtain ⟨u', g1, g2⟩ := hr.env t' u ht'
    refine ⟨u', ?_, g2⟩
    have hne : d ≠ t' := fun e => by subst e; rw [hfresh] at ht'; cases ht'
    simp only [Act.put]
    rw [Array.getElem?_setIfInBounds_ne hne]; exact g1
  · simp [Act.put, hr.size]
  · simp [Act.put, hr.defers]

theorem open_cap {i off len : Nat} {c : List Value} {e : TypeId} {sz : Nat} (hV : V i = some (.opn c e sz)) : ∀ ρ x', (∃ w, Sim ρ V w) → VRel ρ (.slice (some ⟨i, off, none⟩) len 0) x' → ∃ aa cc, x' = .slice aa len cc ∧ len ≤ cc := by
  rintro ρ x' ⟨w, hs⟩ hx
  obtain ⟨s, h1, hat⟩ := hs.has i _ hV
  cases hx with
  | slice hi hc =>
    rw [h1] at hi; cases hi
    rcases hat with ⟨hg, _, _⟩ | ⟨_, o', _, hor⟩
    · rw [gone_none hc] at hg; cases hg
    · cases hor with | opn _ hcap => rw [hc] at hcap; cases hcap
  | oslice hi hc hz he hn => exact ⟨_, _, rfl, by omega⟩
  | ghost => exact ⟨_, _, rfl, Nat.le_refl _⟩
  | hollow => exact ⟨_, _, rfl, Nat.zero_le _⟩

section
variable {s0 : St} {done : List Item}

theorem does_opr {i : Nat} (ho : ops[i]? = some o) {rs : List Nat} {r : Res} (hw : Want ops (cut (o.looksAt ops) env) o true) (h : Opr P (cut (o.looksAt ops) env) (only rs V) n o r) :
    Does P m ops ⟨i, o.dst, o.looksAt ops, r.v, r.L, n, r.k, rs⟩ (lkp env) V := by
  intro ρ a w he hm hs hn K Q hK
  have he' := env_cut he
  unfold wpOp
  simp only [ho]
  rw [if_pos (want_env he' hw)]
  obtain ⟨v', w', ρ', h1, h2, h3, h4, h5⟩ := h ρ w _ hs (rd_env he') hn
  have hnext := hK v' ρ' w' h2 h3 h4 h5
  refine .inl ?_
  unfold Oper.wp
  rcases h1 with h1 | ⟨h1, rfl⟩
  · rw [h1]; exact hnext
  · rw [h1]; exact hnext

theorem do_op {d : Nat} {v : Value} {L : List (Nat × Option VObj)} {k : Nat} {rs' : List Nat} (rs : List Nat) (hw : Want ops (cut (o.looksAt ops) env) o true) (hd : o.dst = some d) (H : Opr P (cut (o.looksAt ops) env) (only rs V) n o ⟨v, L, k, rs'⟩)
    (K : VD P m g ops Q s0 (⟨done.length, some d, o.looksAt ops, v, L, n, k, rs⟩ :: done) l ⟨(d, v) :: env, over V L, n + k⟩) : VD P m g ops Q s0 done (o :: l) ⟨env, V, n⟩ := by
  refine vd_at fun ho => ?_
  have := does_opr (m := m) (rs := rs) ho hw H
  rw [hd] at this
  refine vd_step ?_ ?_ ?_ K
  · exact this
  · funext t; rfl
  · rfl
end
end
end Go.Proofs.Yticaicdopfpknaa.Vm
