/- That each operation does as its function tells. No program in it. -/
import Derived.Test.YticaicdopfpknaaVmJ
set_option linter.unusedVariables false
set_option linter.unusedSimpArgs false
namespace Go.Proofs.Yticaicdopfpknaa.Vm
open Go
section
variable {P : Program} {τ : Nat → Option TI} {ρ : Ren} {V : Heap} {w : World} {n : Nat}

theorem evNil_ok {e : Operand → Value} {o : Oper} {x : Operand} {u v : Value} (ho : o.op = .nilCheck x) (hx : VRel ρ u (e x)) (h : evNil u = some v) :
    (execOp e o).run P w = .ok (.value (e x)) w ∧ VRel ρ v (e x) := by
  generalize hx' : e x = x' at hx
  unfold evNil at h
  split at h
  · cases h; cases hx with | ptr h1 h2 => exact ⟨by simp [execOp, ho, hx'], .ptr h1 h2⟩
  · cases h; cases hx with | func a b c d => exact ⟨by simp [execOp, ho, hx'], .func a b c d⟩
  · cases h
    cases hx with
    | nilSlice => exact ⟨by simp [execOp, ho, hx'], .nilSlice⟩
    | slice a b => exact ⟨by simp [execOp, ho, hx'], .slice a b⟩
    | oslice a b c d e => exact ⟨by simp [execOp, ho, hx'], .oslice a b c d e⟩
    | ghost a b => exact ⟨by simp [execOp, ho, hx'], .ghost a b⟩
    | hollow a b => exact ⟨by simp [execOp, ho, hx'], .hollow a b⟩
  · cases h

theorem evLen_ok (hτ : TyOk P τ) (hs : Sim ρ V w) {t : Nat} {x x' : Value} {r : Res} {u : Nat} (hx : VRel ρ x x') (h : evLen τ V t x = some r) : ValOk P (Builtin.len_ #[t] u #[x']) ρ V w n r := by
  unfold evLen at h
  split at h
  case h_1 => cases h
  rename_i ti ht
  split at h
  · rename_i hd; cases h; cases hx; exact .quiet hs (by simp [Builtin.len_, run_underlying' hτ ht, hd, goInt]) (.int _ _)
  · rename_i hd; cases h
    refine .quiet hs (v' := .int .i64 _) ?_ (.int _ _)
    cases hx <;> simp [Builtin.len_, run_underlying' hτ ht, hd, goInt]
  · rename_i hd; cases h; cases hx; exact .quiet hs (by simp [Builtin.len_, run_underlying' hτ ht, hd, goInt]) (.int _ _)
  · rename_i i hd
    split at h
    case h_2 => cases h
    rename_i es _ hV
    cases h
    cases hx with
    | map hi hgo =>
    obtain ⟨o', h2, h3⟩ := hs.at_ hV hi hgo
    cases h3 with
    | map _ hk hv _ =>
    have hlen := hk.1
    simp only [List.length_map, Array.length_toList] at hlen
    refine .quiet hs (v' := .int .i64 es.length) ?_ (.int _ _)
    simp [Builtin.len_, run_underlying' hτ ht, hd, goInt, getObj, Sem.run, h2, ← hlen]
  · rename_i m _ hd; cases h
    refine .quiet hs (v' := .int .i64 m) ?_ (.int _ _)
    simp [Builtin.len_, run_underlying' hτ ht, hd, goInt]
  · cases h

theorem lrel_three {a b c : Value} {l : List Value} (h : LRel ρ [a, b, c] l) : ∃ a' b' c', l = [a', b', c'] ∧ VRel ρ a a' ∧ VRel ρ b b' ∧ VRel ρ c c' := by
  have hl := h.1
  match l, hl with
  | [a', b', c'], _ => exact ⟨a', b', c', rfl, h.2 0 _ _ rfl rfl, h.2 1 _ _ rfl rfl, h.2 2 _ _ rfl rfl⟩
theorem lrel_two {a b : Value} {l : List Value} (h : LRel ρ [a, b] l) : ∃ a' b', l = [a', b'] ∧ VRel ρ a a' ∧ VRel ρ b b' := by
  have hl := h.1
  match l, hl with
  | [a', b'], _ => exact ⟨a', b', rfl, h.2 0 _ _ rfl rfl, h.2 1 _ _ rfl rfl⟩

theorem evMin_ok {xs : List Value} {xs' : List Value} {v : Value} {t : Array TypeId} {u : Nat} (hx : LRel ρ xs xs') (h : evMin xs = some v) : (Builtin.min_ t u xs'.toArray).run P w = .ok v w ∧ VRel ρ v v := by
  unfold evMin at h
  split at h
  · split at h
    · rename_i hk; subst hk; cases h
      obtain ⟨a', b', rfl, ha, hb⟩ := lrel_two hx
      cases ha; cases hb
      exact ⟨by simp [Builtin.min_, Builtin.min2], .int _ _⟩
    · cases h
  · split at h
    · rename_i hk; obtain ⟨rfl, rfl⟩ := hk; cases h
      obtain ⟨a', b', c', rfl, ha, hb, hc⟩ := lrel_three hx
      cases ha; cases hb; cases hc
      exact ⟨by simp [Builtin.min_, Builtin.min2], .int _ _⟩
    · cases h
  · cases h

theorem evMax_ok {xs : List Value} {xs' : List Value} {v : Value} {t : Array TypeId} {u : Nat} (hx : LRel ρ xs xs') (h : evMax xs = some v) : (Builtin.max_ t u xs'.toArray).run P w = .ok v w ∧ VRel ρ v v := by
  unfold evMax at h
  split at h
  · split at h
    · rename_i hk; subst hk; cases h
      obtain ⟨a', b', rfl, ha, hb⟩ := lrel_two hx
      cases ha; cases hb
      exact ⟨by simp [Builtin.max_, Builtin.max2], .int _ _⟩
    · cases h
  · cases h

theorem evUn_ok {op : UnOp} {x x' v : Value} (hx : VRel ρ x x') (h : evUn op x = some v) : (Op.unary op x').run P w = .ok v w ∧ VRel ρ v v := by
  unfold evUn at h
  split at h
  · cases h; cases hx; exact ⟨by simp [Op.unary, Op.intArith], .int _ _⟩
  · cases h; cases hx; exact ⟨by simp [Op.unary], .bool _⟩
  · cases h; cases hx; exact ⟨by simp [Op.unary, intBits_xor], .int _ _⟩
  · cases h

/-- A value's operation, done. -/
theorem vq {x : Sem Value} {v v' : Value} {reads : List Nat} (hs : Sim ρ V w) (h : x.run P w = .ok v' w ∧ VRel ρ v v') : OpOk P (do pure (.value (← x))) ρ V w n ⟨v, [], 0, reads⟩ :=
  (ValOk.quiet hs h.1 h.2).op

theorem evOp_ok (hτ : TyOk P τ) (hzs : ∀ t ti, τ t = some ti → ti.zero.cells.size = ti.size) (hs : Sim ρ V w) {env : List (Nat × Value)} {e : Operand → Value} (hr : Rd ρ env e) {o : Oper} {r : Res}
    (hn : ∀ i, n ≤ i → i < n + r.k → ρ i = none) (h : evOp τ env V n o.op = some r) : OpOk P (execOp e o) ρ V w n r := by
  obtain ⟨dst, op, type, pos, after, guard⟩ := o
  simp only at h
  unfold evOp at h
  split at h
  · -- move
    simp only [Option.map_eq_some_iff] at h
    obtain ⟨v, hv, rfl⟩ := h
    exact .quiet hs rfl (hr _ _ hv)
  · simp only [Option.map_eq_some_iff] at h
    obtain ⟨v, hv, rfl⟩ := h
    exact .quiet hs rfl (hr _ _ hv)
  · -- pick
    rename_i c a b
    split at h
    · rename_i hc
      simp only [Option.map_eq_some_iff] at h
      obtain ⟨v, hv, rfl⟩ := h
      have hc' := hr _ _ hc
      refine .quiet hs (v' := e a) ?_ (hr _ _ hv)
      generalize hx : e c = x at hc'
      cases hc'
      simp [execOp, hx, asBool]
    · rename_i hc
      simp only [Option.map_eq_some_iff] at h
      obtain ⟨v, hv, rfl⟩ := h
      have hc' := hr _ _ hc
      refine .quiet hs (v' := e b) ?_ (hr _ _ hv)
      generalize hx : e c = x at hc'
      cases hc'
      simp [execOp, hx, asBool]
    · cases h
  · -- alloc
    rename_i t
    simp only [Option.map_eq_some_iff] at h
    obtain ⟨ti, ht, rfl⟩ := h
    have := newVar_ok (P := P) hs (hn n (Nat.le_refl _) (by simp)) t (hτ.zero t ti ht ρ)
    have h2 := ValOk.op this
    obtain ⟨v', w', ρ', h3, h4⟩ := h2
    refine ⟨v', w', ρ', ?_, h4⟩
    rcases h3 with h3 | h3
    · refine .inl ?_
      rw [← h3]
      simp [execOp, Instr.alloc, run_zeroValue' hτ ht]
    · exact absurd h3.1 (by simp [newVar, newRow])
  · -- box
    rename_i t x
    simp only [Option.map_eq_some_iff] at h
    obtain ⟨v, hv, rfl⟩ := h
    exact ValOk.op (newVar_ok (P := P) hs (hn n (Nat.le_refl _) (by simp)) t (hr _ _ hv))
  · -- build
    rename_i t ps
    simp only [Option.map_eq_some_iff] at h
    obtain ⟨v, hv, rfl⟩ := h
    obtain ⟨h1, h2⟩ := parts_ok hr ps
    obtain ⟨v', h3, h4⟩ := evBuild_ok (w := w) hτ h1 h2 hv
    have he : (ps.map fun (i, x) => (i, e x)) = (ps.toList.map fun p => (p.1, e p.2)).toArray := by apply Array.ext'; simp
    refine vq hs (v' := v') ⟨?_, h4⟩
    rw [he]; exact h3
  · rename_i t len ps
    obtain ⟨h1, h2⟩ := parts_ok hr ps
    have hk : ρ n = none := hn n (Nat.le_refl _) (by
      unfold evBuildSlice at h
      split at h; · cases h
      split at h
      · split at h
        · split at h
          · simp only [Option.map_eq_some_iff] at h; obtain ⟨c, _, rfl⟩ := h; simp
          · cases h
        · cases h
      · cases h)
    have := evBuildSlice_ok (P := P) hτ hzs hs hk h1 h2 h
    have he : (ps.map fun (i, x) => (i, e x)) = (ps.toList.map fun p => (p.1, e p.2)).toArray := by apply Array.ext'; simp
    have h5 := ValOk.op this
    rw [← he] at h5
    exact h5
  · -- load
    rename_i t a
    simp only [Option.bind_eq_some_iff, Option.map_eq_some_iff] at h
    obtain ⟨x, hx, v, hv, rfl⟩ := h
    obtain ⟨v', h1, h2⟩ := evLoad_ok hτ hs (hr _ _ hx) hv
    exact vq hs ⟨h1, h2⟩
  · -- store
    rename_i t a x
    split at h
    case h_2 => cases h
    rename_i p v hp hv
    exact evStore_ok hτ hs (hr _ _ hp) (hr _ _ hv) h
  · -- nilCheck
    rename_i x
    simp only [Option.bind_eq_some_iff, Option.map_eq_some_iff] at h
    obtain ⟨v, ⟨u, hu, hv⟩, rfl⟩ := h
    obtain ⟨h1, h2⟩ := evNil_ok (P := P) (w := w) (e := e) (o := { dst, op := .nilCheck x, type, pos, after, guard }) rfl (hr _ _ hu) hv
    exact .quiet hs h1 h2
  · -- binOp
    rename_i op t x y _
    split at h
    case h_2 => cases h
    rename_i a b ha hb
    simp only [Option.map_eq_some_iff] at h
    obtain ⟨v, hv, rfl⟩ := h
    exact vq hs (evBin_ok hτ (hr _ _ ha) (hr _ _ hb) hv)
  · -- unOp
    simp only [Option.bind_eq_some_iff, Option.map_eq_some_iff] at h
    obtain ⟨v, ⟨u, hu, hv⟩, rfl⟩ := h
    exact vq hs (evUn_ok (hr _ _ hu) hv)
  · -- convert
    simp only [Option.bind_eq_some_iff] at h
    obtain ⟨u, hu, hv⟩ := h
    split at hv
    · rename_i r' hr'
      cases hv
      exact (evConvert_ok hτ hs (hr _ _ hu) hr').op
    · exact (evBytes_ok hτ hs (hr _ _ hu) hn hv).op
  · -- makeInterface
    rename_i t x
    split at h
    case h_2 => cases h
    rename_i ti ht
    split at h
    · cases h
    · rename_i hni
      simp only [Option.map_eq_some_iff] at h
      obtain ⟨v, hv, rfl⟩ := h
      refine vq hs (v' := .iface t (e x)) ⟨?_, .iface t (hr _ _ hv)⟩
      cases hd : ti.desc <;> first | (exact (hni _ hd).elim) | simp [Instr.makeInterface, run_underlying' hτ ht, hd]
  · -- makeFunc
    rename_i f a b
    split at h
    case h_2 => cases h
    rename_i va vb ha hb
    cases h
    have h1 := rds_ok hr ha
    have h2 := rds_ok hr hb
    refine vq hs (v' := .func (.func f) (a.map e) (b.map e)) ⟨by simp [Instr.makeFunc], ?_⟩
    exact .func (by have := h1.1; simpa using this) (fun i v v' p q => h1.2 i v v' (by simpa using p) (by simpa using q)) (by have := h2.1; simpa using this)
      (fun i v v' p q => h2.2 i v v' (by simpa using p) (by simpa using q))
  · -- makeMap
    rename_i t
    cases h
    have : ValOk P (Instr.makeMap t none) ρ V w n ⟨.map (some n), [(n, some (.map [] 0))], 1, []⟩ :=
      ValOk.new (o' := .map #[] 0) (cap := none) (w' := { w with heap := w.heap.push (.map #[] 0) }) (v' := .map (some w.heap.size)) hs (hn n (Nat.le_refl _) (by simp)) rfl ⟨rfl, rfl, rfl, rfl⟩
        (by simp [Instr.makeMap]) (.map rfl lrel_nil lrel_nil rfl) (.map (extR_self _ _ _))
    exact this.op
  · -- slice
    rename_i t x lo hi
    simp only [Option.bind_eq_some_iff] at h
    obtain ⟨u, hu, hv⟩ := h
    obtain ⟨h1, h2⟩ := sub_ok hr lo
    obtain ⟨h3, h4⟩ := sub_ok hr hi
    exact (evSlice_ok hτ hs (hr _ _ hu) h1 h2 h3 h4 hv).op
  · simp only [Option.bind_eq_some_iff, Option.map_eq_some_iff] at h
    obtain ⟨v, ⟨u, hu, hv⟩, rfl⟩ := h
    obtain ⟨v', h1, h2⟩ := evFieldAddr_ok (w := w) hτ (hr _ _ hu) hv
    exact vq hs ⟨h1, h2⟩
  · simp only [Option.bind_eq_some_iff, Option.map_eq_some_iff] at h
    obtain ⟨v, ⟨u, hu, hv⟩, rfl⟩ := h
    obtain ⟨v', h1, h2⟩ := evField_ok (w := w) hτ (hr _ _ hu) hv
    exact vq hs ⟨h1, h2⟩
  · split at h
    case h_2 => cases h
    rename_i a b ha hb
    simp only [Option.map_eq_some_iff] at h
    obtain ⟨v, hv, rfl⟩ := h
    obtain ⟨v', h1, h2⟩ := evIndexAddr_ok (w := w) hτ (hr _ _ ha) (hr _ _ hb) hv
    exact vq hs ⟨h1, h2⟩
  · split at h
    case h_2 => cases h
    rename_i a b ha hb
    simp only [Option.map_eq_some_iff] at h
    obtain ⟨v, hv, rfl⟩ := h
    obtain ⟨v', h1, h2⟩ := evIndex_ok (w := w) hτ (hr _ _ ha) (hr _ _ hb) hv
    exact vq hs ⟨h1, h2⟩
  · simp only [Option.bind_eq_some_iff, Option.map_eq_some_iff] at h
    obtain ⟨v, ⟨u, hu, hv⟩, rfl⟩ := h
    obtain ⟨v', h1, h2⟩ := evAssert_ok (w := w) hτ (hr _ _ hu) hv
    exact vq hs ⟨h1, h2⟩
  · simp only [Option.bind_eq_some_iff, Option.map_eq_some_iff] at h
    obtain ⟨v, ⟨u, hu, hv⟩, rfl⟩ := h
    obtain ⟨v', h1, h2⟩ := evExtract_ok (w := w) (hr _ _ hu) hv
    exact vq hs ⟨h1, h2⟩
  · -- call
    rename_i c
    obtain ⟨callee, args, argTypes⟩ := c
    simp only at h
    split at h
    · -- len
      rename_i hc
      split at h
      case h_2 => cases h
      rename_i x t hx ht
      obtain ⟨args⟩ := args
      obtain ⟨argTypes⟩ := argTypes
      simp only at hx ht
      subst ht
      obtain ⟨a, rfl⟩ : ∃ a, args = [a] := by
        cases args with
        | nil => simp at hx
        | cons a r => cases r with
          | nil => exact ⟨a, rfl⟩
          | cons b r => simp at hx
      simp only [List.map_cons, List.map_nil, List.cons.injEq, and_true] at hx
      have := (evLen_ok (P := P) (n := n) (u := type) hτ hs (hr _ _ hx) h).op
      obtain ⟨v', w', ρ', h3, h4⟩ := this
      refine ⟨v', w', ρ', ?_, h4⟩
      simpa [execOp, resolve, invoke, builtin] using h3
    · rename_i hc
      simp only [Option.bind_eq_some_iff, Option.map_eq_some_iff] at h
      obtain ⟨v, ⟨u, hu, hv⟩, rfl⟩ := h
      have h1 := rds_ok hr hu
      have h2 := evMin_ok (P := P) (w := w) (t := argTypes) (u := type) h1 hv
      have := vq (n := n) (reads := []) hs h2
      obtain ⟨v', w', ρ', h3, h4⟩ := this
      refine ⟨v', w', ρ', ?_, h4⟩
      have he : args.map e = (args.toList.map e).toArray := by apply Array.ext'; simp
      simpa [execOp, resolve, invoke, builtin, he] using h3
    · rename_i hc
      simp only [Option.bind_eq_some_iff, Option.map_eq_some_iff] at h
      obtain ⟨v, ⟨u, hu, hv⟩, rfl⟩ := h
      have h1 := rds_ok hr hu
      have h2 := evMax_ok (P := P) (w := w) (t := argTypes) (u := type) h1 hv
      have := vq (n := n) (reads := []) hs h2
      obtain ⟨v', w', ρ', h3, h4⟩ := this
      refine ⟨v', w', ρ', ?_, h4⟩
      have he : args.map e = (args.toList.map e).toArray := by apply Array.ext'; simp
      simpa [execOp, resolve, invoke, builtin, he] using h3
    · -- append
      rename_i hc
      split at h
      case h_2 => cases h
      rename_i x y t u hx ht
      split at h
      case isFalse => cases h
      rename_i hut; subst hut
      obtain ⟨args⟩ := args
      obtain ⟨argTypes⟩ := argTypes
      simp only at hx ht
      subst ht
      obtain ⟨a, b, rfl⟩ : ∃ a b, args = [a, b] := by
        have hl := congrArg List.length hx
        simp only [List.length_map, List.length_cons, List.length_nil] at hl
        match args, hl with
        | [a, b], _ => exact ⟨a, b, rfl⟩
      simp only [List.map_cons, List.map_nil, List.cons.injEq, and_true] at hx
      have := (evAppend_ok (P := P) (ty := type) hτ hzs hs (hr _ _ hx.1) (hr _ _ hx.2) hn h).op
      obtain ⟨v', w', ρ', h3, h4⟩ := this
      refine ⟨v', w', ρ', ?_, h4⟩
      simpa [execOp, resolve, invoke, builtin] using h3
    · -- copy
      rename_i hc
      split at h
      case h_2 => cases h
      rename_i x y t u hx ht
      obtain ⟨args⟩ := args
      obtain ⟨argTypes⟩ := argTypes
      simp only at hx ht
      subst ht
      obtain ⟨a, b, rfl⟩ : ∃ a b, args = [a, b] := by
        have hl := congrArg List.length hx
        simp only [List.length_map, List.length_cons, List.length_nil] at hl
        match args, hl with
        | [a, b], _ => exact ⟨a, b, rfl⟩
      simp only [List.map_cons, List.map_nil, List.cons.injEq, and_true] at hx
      have := (evCopy_ok (P := P) (ty := type) (n := n) (u := u) hτ hs (hr _ _ hx.1) (hr _ _ hx.2) h).op
      obtain ⟨v', w', ρ', h3, h4⟩ := this
      refine ⟨v', w', ρ', ?_, h4⟩
      simpa [execOp, resolve, invoke, builtin] using h3
    · -- clear
      rename_i hc
      split at h
      case h_2 => cases h
      rename_i x t hx ht
      obtain ⟨args⟩ := args
      obtain ⟨argTypes⟩ := argTypes
      simp only at hx ht
      subst ht
      obtain ⟨a, rfl⟩ : ∃ a, args = [a] := by
        have hl := congrArg List.length hx
        simp only [List.length_map, List.length_cons, List.length_nil] at hl
        match args, hl with
        | [a], _ => exact ⟨a, rfl⟩
      simp only [List.map_cons, List.map_nil, List.cons.injEq, and_true] at hx
      have := (evClear_ok (P := P) (ty := type) (n := n) hτ hzs hs (hr _ _ hx) h).op
      obtain ⟨v', w', ρ', h3, h4⟩ := this
      refine ⟨v', w', ρ', ?_, h4⟩
      simpa [execOp, resolve, invoke, builtin] using h3
    · cases h
  · split at h
    case h_2 => cases h
    rename_i a b ha hb
    exact (evLookup_ok hτ hs (hr _ _ ha) (hr _ _ hb) h).op
  · split at h
    case h_2 => cases h
    rename_i a b ha hb
    exact (evMapEntry_ok hτ hs (hr _ _ ha) (hr _ _ hb) h).op
  · split at h
    case h_2 => cases h
    rename_i a b ha hb
    exact (evMakeSlice_ok hτ hzs hs (hr _ _ ha) (hr _ _ hb) hn h).op
  · split at h
    case h_2 => cases h
    rename_i a b c ha hb hc
    exact evEntryStore_ok hs (hr _ _ ha) (hr _ _ hb) (hr _ _ hc) h
  · cases h

end
end Go.Proofs.Yticaicdopfpknaa.Vm
