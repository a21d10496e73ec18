/- Function values; loops that make no block. No program in it. -/
import Derived.Test.YticaicdopfpknaaVmRow
set_option linter.unusedVariables false
set_option linter.unusedSimpArgs false
namespace Go.Proofs.Yticaicdopfpknaa.Vm
open Go

def SubEnv (env0 env : List (Nat × Value)) : Prop := ∀ t v, lkp env0 t = some v → lkp env t = some v
theorem se_nil {env : List (Nat × Value)} : SubEnv [] env := fun t v h => by cases h
theorem se_cons {env0 env : List (Nat × Value)} {t : Nat} {v : Value} (h : lkp env t = some v) (k : SubEnv env0 env) : SubEnv ((t, v) :: env0) env := by
  intro x y hx
  simp only [lkp] at hx
  split at hx
  · rename_i he; subst he; cases hx; exact h
  · exact k x y hx
theorem se_int {env : List (Nat × Value)} {t : Nat} {k : IntKind} {a b : Int} (h : lkp env t = some (.int k a)) (e : a = b) : lkp env t = some (.int k b) := by rw [h, e]

section
variable {P : Program} {τ : Nat → Option TI} {m g : Nat} {Q : Exit → St → Prop} {ops : Array Oper} {l : List Oper} {o : Oper} {env : List (Nat × Value)} {V : Heap} {n : Nat}

/-- A loop that makes no block and turns none. -/
theorem vw_loop_env {c : Code} (I : Nat → List (Nat × Value) → Prop) (k0 : Nat) (h0 : ∃ env0, SubEnv env0 env ∧ I k0 env0)
    (round : ∀ k env0, I k env0 → VW P m g c (then_ (fun s' => s'.heap = V ∧ s'.n = n ∧ ∃ k' env1, k' < k ∧ SubEnv env1 s'.env ∧ I k' env1) Q) ⟨env0, V, n⟩) : VW P m g (.loop c) Q ⟨env, V, n⟩ := by
  obtain ⟨env0, h1, h2⟩ := h0
  refine vw_weaken (env' := env0) (V' := V) h1 (fun _ _ h => h) ?_
  refine vw_loop (fun k s => s.heap = V ∧ s.n = n ∧ ∃ env1, SubEnv env1 s.env ∧ I k env1) k0 ⟨rfl, rfl, env0, fun _ _ h => h, h2⟩ ?_
  rintro k ⟨e, W, n'⟩ ⟨rfl, rfl, env1, h3, h4⟩
  refine vw_weaken (env' := env1) (V' := W) h3 (fun _ _ h => h) ?_
  refine (round k env1 h4).mono ?_
  rintro e2 s2 h5
  cases e2 with
  | normal =>
    obtain ⟨h6, h7, k', env2, h8, h9, h10⟩ := h5
    exact ⟨k', h8, h6, h7, env2, h9, h10⟩
  | _ => exact h5

/-- A call of a function value. -/
theorem vcl_op {F : FuncId} {f : Operand} {args : Array Operand} {ats : Array TypeId} {A C : Array Value} {vb : List Value} {d k : Nat} {v : Value} {L : List (Nat × Option VObj)} (hw : Want ops env o true) (hd : o.dst = some d) (hm : fitsT m (some d) = true)
    (ho : o.op = .call { callee := .value f, args, argTypes := ats }) (hf : rd env f = some (.func (.func F) A C)) (ha : rds env args.toList = some vb) (hF : Callable P F)
    (T : Tri P F (A.toList ++ vb ++ C.toList) n k V (fun u L' => u = v ∧ L' = L)) (K : VL P m g ops Q l ⟨(d, v) :: env, over V L, n + k⟩) : VL P m g ops Q (o :: l) ⟨env, V, n⟩ := by
  refine vl_call (s := ⟨env, V, n⟩) (va := A.toList) (vc := C.toList) (vb := vb) (k := k) (R := fun u L' => u = v ∧ L' = L) hw (by rw [hd]; exact hm) ho (by simpa using hf) ha hF T ?_
  rintro u L' ⟨rfl, rfl⟩
  rw [hd]; exact K

theorem vclr_op {F : FuncId} {f : Operand} {args : Array Operand} {ats : Array TypeId} {A C : Array Value} {vb : List Value} {d : Nat} {v : Value} (hw : Want ops env o true) (hd : o.dst = some d) (hm : fitsT m (some d) = true)
    (ho : o.op = .call { callee := .value f, args, argTypes := ats }) (hf : rd env f = some (.func (.func F) A C)) (ha : rds env args.toList = some vb) (hF : Callable P F)
    (T : Tri P F (A.toList ++ vb ++ C.toList) n 0 V (fun u L' => u = v ∧ L' = [])) (K : VL P m g ops Q l ⟨(d, v) :: env, V, n⟩) : VL P m g ops Q (o :: l) ⟨env, V, n⟩ :=
  vcl_op hw hd hm ho hf ha hF T K

theorem stays_self : ∀ {src : List Src} {os : List VObj} {k : Nat} {W : Heap}, (∀ (a : Nat) (o : VObj), os[a]? = some o → W (k + a) = some o) → Stays W k src os
  | [], _, _, _, _ => trivial
  | .own _ :: r, [], _, _, _ => trivial
  | .look _ _ _ :: r, [], _, _, _ => trivial
  | .own _ :: r, o :: os, k, W, h => ⟨fun _ => by simpa using h 0 o rfl, stays_self (src := r) (os := os) (k := k + 1) fun a p hp => by rw [show k + 1 + a = k + (a + 1) by omega]; exact h (a + 1) p (by simpa using hp)⟩
  | .look _ _ _ :: r, o :: os, k, W, h => stays_self (src := r) (os := os) (k := k + 1) fun a p hp => by rw [show k + 1 + a = k + (a + 1) by omega]; exact h (a + 1) p (by simpa using hp)

theorem oHeap_get : ∀ {os : List VObj} {k a : Nat} {o : VObj}, os[a]? = some o → lkp (oHeap k os) (k + a) = some o
  | [], _, _, _, h => by simp at h
  | p :: os, k, 0, o, h => by
    simp only [List.getElem?_cons_zero, Option.some.injEq] at h; subst h
    simp [oHeap, lkp]
  | p :: os, k, a + 1, o, h => by
    simp only [oHeap, lkp]
    rw [if_neg (by omega), show k + (a + 1) = (k + 1) + a by omega]
    exact oHeap_get (by simpa using h)

theorem ownNames_map (is : List Nat) : ownNames (is.map Src.own) = is := by induction is with
  | nil => rfl
  | cons i r ih => simp [ownNames, ih]
theorem lookNames_owns (is : List Nat) : lookNames (is.map Src.own) = [] := by induction is with
  | nil => rfl
  | cons i r ih => exact ih
theorem lookNames_one {v : Value} {m sz : Nat} {is : List Nat} : lookNames (.look v m sz :: is.map Src.own) = lookNames [.look v m sz] := by
  have h := lookNames_owns is
  cases v with
  | slice a l c => cases a <;> simp [lookNames, h]
  | _ => simp [lookNames, h]
theorem seen_owns {args : List Value} (is : List Nat) : SeenAll V args (is.map Src.own) := fun a v m sz h => by
  rw [List.getElem?_map] at h
  obtain ⟨x, _, hx⟩ := Option.map_eq_some_iff.1 h
  cases hx
theorem rel_func {σ : Ren} {F : FuncId} {c c' : List Value} (h : LRel σ c c') : VRel σ (.func (.func F) #[] c.toArray) (.func (.func F) #[] c'.toArray) :=
  .func rfl (fun i v v' h => by simp at h) (by simpa using h.1) (fun i v v' h1 h2 => h.2 i v v' (by simpa using h1) (by simpa using h2))

/-- The place of the first that is so; -1: there is none. -/
def findI {α : Type} (p : α → Bool) (xs : List α) : Int := match xs.findIdx? p with
  | some j => j
  | none => -1
theorem findI_some {α : Type} {p : α → Bool} {xs : List α} {j : Nat} {a : α} (h : xs[j]? = some a) (ha : p a = true) (hn : (xs.take j).any p = false) : findI p xs = j := by
  have : xs.findIdx? p = some j := by
    rw [List.findIdx?_eq_some_iff_getElem]
    obtain ⟨hj1, hj2⟩ := (List.getElem?_eq_some_iff.1 h)
    refine ⟨hj1, by rw [hj2]; exact ha, fun i hi => ?_⟩
    have hm : xs[i]'(by omega) ∈ xs.take j := by
      rw [List.mem_take_iff_getElem]
      exact ⟨i, by omega, rfl⟩
    have := List.any_eq_false.1 hn _ hm
    simpa using this
  unfold findI; rw [this]
theorem findI_none {α : Type} {p : α → Bool} {xs : List α} (hn : xs.any p = false) : findI p xs = -1 := by
  have : xs.findIdx? p = none := by
    rw [List.findIdx?_eq_none_iff]
    intro x hx
    have := List.any_eq_false.1 hn x hx
    simpa using this
  unfold findI; rw [this]
theorem any_take {α : Type} {p : α → Bool} {xs : List α} {j : Nat} {a : α} (h : xs[j]? = some a) (ha : p a = false) (hn : (xs.take j).any p = false) : (xs.take (j + 1)).any p = false := by
  rw [List.take_add_one, h, List.any_append, hn]; simp [ha]
end
end Go.Proofs.Yticaicdopfpknaa.Vm
namespace Go.Proofs.Yticaicdopfpknaa.Vm
open Go
section
variable {P : Program} {τ : Nat → Option TI} {env : List (Nat × Value)} {V : Heap} {n : Nat}

/-- The empty part of an open slice: a look at nothing. -/
theorem opr_tail {α : Type} (R : Rw α) (hτ : Tab P τ) {o : Oper} {t e i p len : Nat} {x : Operand} {lo hi : Option Operand} {ti te : TI} {xs : List α} {l : Nat} (ho : o.op = .slice t x lo hi none) (hx : rd env x = some (.slice (some ⟨i, 0 + p * R.sz, none⟩) len 0)) (ht : τ t = some ti) (hd : ti.desc = .slice e) (he : τ e = some te) (hs : te.size = R.sz)
    (hV : V i = some (.opn (R.cells xs) e R.sz)) (hlo : bnd 0 (lo.map (rd env)) = some l) (hhi : bnd len (hi.map (rd env)) = some l) (hh : p + l ≤ xs.length) :
    Opr P env V n o ⟨.slice (some ⟨n, 0, none⟩) 0 0, [(n, some .emp)], 1, [i]⟩ := by
  intro ρ w ev hs' hr hn
  obtain ⟨dst, op, type, pos, after, guard⟩ := o
  simp only at ho; subst ho
  have hn0 := hn n (Nat.le_refl _) (by simp)
  have hv := hr _ _ hx
  obtain ⟨h1, h2⟩ := sub_ok hr lo
  obtain ⟨h3, h4⟩ := sub_ok hr hi
  have key : ∀ (s : Slot) (v' : Value), (Instr.sliceAt t (ev x) (lo.map ev) (hi.map ev) none).run P w = .ok v' w → s.gone = true → VRel (extR ρ n s) (.slice (some ⟨n, 0, none⟩) 0 0) v' →
      OpOk P (execOp ev ⟨dst, .slice t x lo hi none, type, pos, after, guard⟩) ρ V w n ⟨.slice (some ⟨n, 0, none⟩) 0 0, [(n, some .emp)], 1, [i]⟩ := by
    intro s v' hrun hg hvr
    obtain ⟨k1, k2⟩ := sim_add (w' := w) (s := s) (o := .emp) hs' hn0 (fun h => by rw [hg] at h; cases h) ⟨rfl, rfl, rfl, Nat.le_refl _⟩ (fun _ _ => rfl) (.inl ⟨hg, rfl, .inl rfl⟩)
    refine ValOk.op (x := Instr.sliceAt t (ev x) (lo.map ev) (hi.map ev) none) ⟨_, w, _, hrun, hvr, ?_, ?_, ?_⟩
    · rw [over_cons, over_nil]; exact k1
    · rw [over_cons, over_nil]; exact k2
    · intro j hj
      simp only [extR]
      rw [if_neg (by simp only at hj; omega)]
  have run : ∀ (aa : Option Addr) (cc : Nat), ev x = .slice aa len cc → l ≤ cc → (Instr.sliceAt t (ev x) (lo.map ev) (hi.map ev) none).run P w = .ok (.slice (if cc = l then aa else aa.map (·.add (l * te.size))) 0 (cc - l)) w := by
    intro aa cc hx' hc
    have hb := bounds_ok (P := P) (w := w) (isS := true) (cap := cc) h1 h2 h3 h4 hlo hhi (Nat.le_refl _) hc
    rw [hx']
    simp only [Instr.sliceAt, Instr.slice, Sem.run_bind, run_underlying' hτ.ok ht, Result.andThen_ok, hd, hb, run_sizeOf' hτ.ok he, Sem.run_pure, Nat.sub_self]
  have hollow : ∀ (b : Addr) (c : Nat), b.spot = none → VRel (extR ρ n ⟨b.block, some (c + 1, 0), b.off⟩) (.slice (some ⟨n, 0, none⟩) 0 0) (.slice (some b) 0 c) := by
    rintro ⟨bb, bo, bs⟩ c hb
    simp only at hb; subst hb
    exact .hollow (extR_self _ _ _) rfl
  obtain ⟨s1, hi1, hat⟩ := hs'.has i _ hV
  generalize hy : ev x = y at hv
  generalize hoff : 0 + p * R.sz = off at hv
  cases hv with
  | slice hi' hc' =>
    exfalso
    rw [hi1] at hi'; cases hi'
    rcases hat with ⟨hg, _, _⟩ | ⟨_, o', _, hor⟩
    · rw [gone_none hc'] at hg; cases hg
    · cases hor with | opn _ hcap => rw [hcap] at hc'; cases hc'
  | oslice hi' hc' hz he' hn' =>
    rename_i e1 k sz s
    rw [hi1] at hi'; cases hi'
    have hle : l ≤ k - e1 := by
      rcases hat with ⟨hg, _, _⟩ | ⟨_, o', hwh, hor⟩
      · rw [gone_pos hc' hz] at hg; cases hg
      · cases hor with
        | opn _ hcap hb0 hl2 hcc hk hz' fr hfr =>
          rw [hc'] at hcap; cases hcap
          rename_i c1 c2 c'
          have h5 : c'.size = c1.length + c2.length := by have := congrArg List.length hcc; simpa using this
          have h6 := hl2.1
          rw [R.length] at h6
          have hep : e1 = p := by
            rw [Nat.zero_add] at hoff
            rw [← hoff] at he'
            exact Nat.eq_of_mul_eq_mul_right R.pos he'
          subst hep
          have h7 : (e1 + l) * R.sz ≤ k * R.sz := by
            have := Nat.mul_le_mul_right R.sz hh
            omega
          have := Nat.le_of_mul_le_mul_right h7 R.pos
          omega
    have hrun := run _ _ hy hle
    split at hrun
    · exact key _ _ hrun (by rfl) (hollow _ _ rfl)
    · exact key _ _ hrun (by rfl) (hollow _ _ (by simp only [add_none]))
  | ghost hi' hc' =>
    have hl0 : l = 0 := by
      rcases bound_ok (P := P) (w := w) (code := BoundsCode.sliceAcap) h3 h4 hhi with ⟨_, h⟩ | _
      · exact h
      · rcases hat with ⟨_, hvd, _⟩ | ⟨hg, _⟩
        · have := void_opn hvd
          have hxl : xs = [] := by
            have := congrArg List.length this
            rw [R.length] at this
            rcases Nat.mul_eq_zero.1 this with h | h
            · exact List.length_eq_zero_iff.1 h
            · have := R.pos; omega
          subst hxl
          simp only [List.length_nil] at hh; omega
        · rw [hi1] at hi'; cases hi'; rw [gone_zero hc'] at hg; cases hg
    subst hl0
    have hrun := run _ _ hy (Nat.le_refl _)
    rw [if_pos rfl] at hrun
    exact key nowhere _ hrun rfl (.ghost (extR_self _ _ _) rfl)
  | hollow hi' hc' =>
    have hl0 : l = 0 := by
      rcases hat with ⟨_, hvd, _⟩ | ⟨hg, _⟩
      · have := void_opn hvd
        have hxl : xs = [] := by
          have := congrArg List.length this
          rw [R.length] at this
          rcases Nat.mul_eq_zero.1 this with h | h
          · exact List.length_eq_zero_iff.1 h
          · have := R.pos; omega
        subst hxl
        simp only [List.length_nil] at hh; omega
      · rw [hi1] at hi'; cases hi'; rw [gone_zero hc'] at hg; cases hg
    subst hl0
    have hrun := run _ _ hy (Nat.zero_le _)
    split at hrun
    · exact key _ _ hrun (by rfl) (hollow _ _ rfl)
    · exact key _ _ hrun (by rfl) (hollow _ _ (by simp only [add_none]))

theorem news_emp {j m sz : Nat} {c : Nat} (hV : V j = some .emp) (hm : m = 0) : evNews V sz (.slice (some ⟨j, 0, none⟩) m c) = some ([], 0, [j]) := by
  subst hm
  simp only [evNews, hV, Option.bind_some, cellsOf]
  rw [if_pos (by simp)]
  simp

/-- append where there is room. -/
theorem appIn_rows {α : Type} (R : Rw α) {t e i l cap m : Nat} {ti te : TI} {b : Value} {xs ys : List α} {rs : List Nat} (ht : τ t = some ti) (hd : ti.desc = .slice e) (he : τ e = some te) (hs : te.size = R.sz) (hnews : evNews V R.sz b = some (R.cells ys, m, rs)) (hm : m = ys.length)
    (hV : V i = some (.opn (R.cells xs) e R.sz)) (hl : l + m ≤ xs.length) :
    evAppendIn τ V t (.slice (some ⟨i, 0, none⟩) l cap) b = some ⟨.slice (some ⟨i, 0, none⟩) (l + m) 0, [(i, some (.opn (R.cells (xs.take l ++ ys ++ xs.drop (l + m))) e R.sz))], 0, i :: rs⟩ := by
  have h1 : 0 < R.sz ∧ (R.cells ys).all Value.oneCell' = true := ⟨R.pos, R.one ys⟩
  have h2 : (l + m) * R.sz ≤ (R.cells xs).length := by rw [R.length]; exact Nat.mul_le_mul_right _ hl
  simp only [evAppendIn, ht, hd, he, hs, hnews]
  rw [if_pos h1]
  simp only [hV]
  rw [if_pos ⟨trivial, trivial, h2⟩, R.splice, hm]

theorem zeros_rows {α : Type} (R : Rw α) (z : α) : ∀ m, zeros (R.f z) m = R.cells (List.replicate m z)
  | 0 => rfl
  | m + 1 => by
    simp only [zeros, zeros_rows R z m, List.replicate_succ]; rfl

theorem ev_clear {α : Type} (R : Rw α) (z : α) {t e i p m c : Nat} {x : Operand} {ti te : TI} {xs : List α} (hx : rd env x = some (.slice (some ⟨i, 0 + p * R.sz, none⟩) m c)) (ht : τ t = some ti) (hd : ti.desc = .slice e) (he : τ e = some te) (hs : te.size = R.sz) (hz : te.zero.cells.toList = R.f z)
    (hV : V i = some (.opn (R.cells xs) e R.sz)) (hh : p + m ≤ xs.length) :
    evOp τ env V n (.call { callee := .builtin .clear, args := #[x], argTypes := #[t] }) = some ⟨undef, [(i, some (.opn (R.cells (xs.take p ++ List.replicate m z ++ xs.drop (p + m))) e R.sz))], 0, [i]⟩ := by
  have h1 : 0 + p * R.sz + m * R.sz ≤ (R.cells xs).length ∧ (R.f z).all Value.oneCell' = true :=
    ⟨by rw [R.length, Nat.zero_add, ← Nat.add_mul]; exact Nat.mul_le_mul_right _ hh, by have := R.one [z]; simpa [Rw.cells] using this⟩
  simp only [evOp, List.map_cons, List.map_nil, hx, evClear, ht, hd, he, hV, hs, hz]
  rw [if_pos h1, zeros_rows, Nat.zero_add, R.splice, List.length_replicate]
end
end Go.Proofs.Yticaicdopfpknaa.Vm
