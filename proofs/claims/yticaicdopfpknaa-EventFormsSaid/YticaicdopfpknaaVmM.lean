/- From a function's body to what a call asks and gives. No program in it. -/
import Derived.Test.YticaicdopfpknaaVmL
set_option linter.unusedVariables false
set_option linter.unusedSimpArgs false
namespace Go.Proofs.Yticaicdopfpknaa.Vm
open Go

/-- Objects of names, and of names of names. -/
inductive OV (σ : Ren) : VObj → VObj → Prop
  | cells {c c' : List Value} (e : TypeId) (fr : Nat × Nat) (h : LRel σ c c') : OV σ (.cells c e fr) (.cells c' e fr)
  | opn {c c' : List Value} (e : TypeId) (sz : Nat) (h : LRel σ c c') : OV σ (.opn c e sz) (.opn c' e sz)
  | ro {c c' : List Value} (h : LRel σ c c') : OV σ (.ro c) (.ro c')
  | win {c c' : List Value} (sz : Nat) (h : LRel σ c c') : OV σ (.win c sz) (.win c' sz)
  | emp : OV σ .emp .emp
  | map {es es' : List (Value × Value × Nat)} {clock : Nat} (hk : LRel σ (es.map (·.1)) (es'.map (·.1))) (hv : LRel σ (es.map (·.2.1)) (es'.map (·.2.1))) (hb : es.map (·.2.2) = es'.map (·.2.2)) : OV σ (.map es clock) (.map es' clock)

theorem OV.comp {σ ρ : Ren} (hσ : Plain σ) {o o1 : VObj} (h : OV σ o o1) {s : Slot} {o' : Obj} (k : ORel ρ s o1 o') : ORel (compR σ ρ) s o o' := by
  cases h with
  | cells e fr h => cases k with | cells _ _ hs hb hl => exact .cells e fr hs hb (h.comp hσ hl)
  | opn e sz h => cases k with | opn _ hs hb hl hc hk hz fr hf => exact .opn e hs hb (h.comp hσ hl) hc hk hz fr hf
  | ro h => cases k with | ro e fr hs hl => exact .ro e fr hs (by rw [h.1]; exact h.comp hσ hl)
  | win sz h => cases k with | win e fr hs hz hl => exact .win e fr hs hz (by rw [h.1]; exact h.comp hσ hl)
  | emp => cases k
  | map hk hv hb => cases k with | map hs hk' hv' hb' => exact .map hs (hk.comp hσ hk') (hv.comp hσ hv') (hb.trans hb')

/-- The names below n, as they are. -/
def idn (n : Nat) : Ren := fun i => if i < n then some ⟨i, none, 0⟩ else none

theorem OV.fixed {σ : Ren} {o o1 : VObj} (h : OV σ o o1) : o1.fixed = o.fixed := by cases h <;> rfl
theorem OV.void {σ : Ren} {o o1 : VObj} (h : OV σ o o1) : o1.void = o.void := by
  cases h with
  | opn e sz h => have := h.1; rename_i c c'; cases c <;> cases c' <;> first | rfl | simp at this
  | win sz h => have := h.1; rename_i c c'; cases c <;> cases c' <;> first | rfl | simp at this
  | _ => rfl

theorem idn_cap (n : Nat) : Plain (idn n) := by
  intro j s h
  unfold idn at h
  split at h
  · cases h; exact .inr ⟨rfl, rfl⟩
  · cases h

def argEnv : Nat → List Value → List (Nat × Value)
  | _, [] => []
  | k, v :: r => (k, v) :: argEnv (k + 1) r

theorem lkp_argEnv : ∀ (l : List Value) (k t : Nat) (v : Value), lkp (argEnv k l) t = some v → k ≤ t ∧ l[t - k]? = some v
  | [], k, t, v, h => by cases h
  | x :: r, k, t, v, h => by
    simp only [argEnv, lkp] at h
    split at h
    · rename_i he; subst he; cases h; exact ⟨Nat.le_refl _, by simp⟩
    · obtain ⟨h1, h2⟩ := lkp_argEnv r (k + 1) t v h
      refine ⟨by omega, ?_⟩
      have : t - k = (t - (k + 1)) + 1 := by omega
      rw [this, List.getElem?_cons_succ]; exact h2

/-- The same; or the beginning of an open one. -/
inductive OW (σ : Ren) : VObj → VObj → Prop
  | same {o o1 : VObj} (h : OV σ o o1) : OW σ o o1
  | cut {c c' d : List Value} (e : TypeId) (sz : Nat) (h : LRel σ c c') : OW σ (.opn c e sz) (.opn (c' ++ d) e sz)

theorem OW.fixed {σ : Ren} {o o1 : VObj} (h : OW σ o o1) : o1.fixed = o.fixed := by
  cases h with
  | same h => exact h.fixed
  | cut => rfl
theorem OW.void {σ : Ren} {o o1 : VObj} (h : OW σ o o1) (hv : o1.void = true) : o.void = true := by
  cases h with
  | same h => exact h.void ▸ hv
  | cut e sz h =>
    rename_i c c' d
    have hl := h.1
    cases c with
    | nil => rfl
    | cons a c =>
      cases c' with
      | nil => simp at hl
      | cons b c' => cases hv
theorem OW.comp {σ ρ : Ren} (hσ : Plain σ) {o o1 : VObj} (h : OW σ o o1) {s : Slot} {o' : Obj} (k : ORel ρ s o1 o') : ORel (compR σ ρ) s o o' := by
  cases h with
  | same h => exact h.comp hσ k
  | cut e sz h =>
    rename_i c c' d
    cases k with
    | opn _ hs hb hl hc hk hz fr hf =>
      rename_i c1 c2 cc kk
      have hlen := hl.1
      rw [List.length_append] at hlen
      have h1 : LRel ρ c' (c1.take c'.length) := by
        have := lrel_take hl c'.length
        rwa [List.take_left'] at this
        rfl
      exact .opn (c1 := c1.take c'.length) (c2 := c1.drop c'.length ++ c2) (k := kk) e hs hb (h.comp hσ h1) (by rw [hc, ← List.append_assoc, List.take_append_drop]) hk hz fr hf

/-- Values that bear no name. -/
def flatB : Value → Bool
  | .int _ _ => true
  | .bool _ => true
  | .string _ => true
  | _ => false

def Flat (c : List Value) : Prop := ∀ v ∈ c, flatB v = true

theorem flat_same {ρ : Ren} {v v' : Value} (h : flatB v = true) (hv : VRel ρ v v') : v' = v := by
  cases v <;> first | (cases h; done) | (cases hv; rfl)
theorem flat_rel {ρ : Ren} {v : Value} (h : flatB v = true) : VRel ρ v v := by
  cases v <;> first | (cases h; done) | constructor
theorem Flat.same {ρ : Ren} {c c' : List Value} (h : Flat c) (hv : LRel ρ c c') : c' = c := by
  refine List.ext_getElem hv.1.symm fun i h1 h2 => ?_
  exact flat_same (h _ (List.getElem_mem h2)) (hv.2 i _ _ (by simp [h2]) (by simp [h1]))
theorem Flat.rel {ρ : Ren} {c : List Value} (h : Flat c) : LRel ρ c c :=
  ⟨rfl, fun i v v' h1 h2 => by rw [h1] at h2; cases h2; exact flat_rel (h v (List.mem_of_getElem? h1))⟩

/-- What a name of a function's body is at its begin: an object of the caller's, or a look at a slice of its. -/
inductive Src where
  | own (i : Nat)
  | look (v : Value) (m sz : Nat)

/-- A slice, as the caller has it: m elements of sz cells. -/
inductive Looks (V : Heap) (sz : Nat) : Value → List Value → Nat → Prop
  | nil : Looks V sz (.slice none 0 0) [] 0
  | opn {i off m : Nat} {c0 : List Value} {e : TypeId} (hV : V i = some (.opn c0 e sz)) (hz : 0 < sz) (hl : off + m * sz ≤ c0.length) : Looks V sz (.slice (some ⟨i, off, none⟩) m 0) ((c0.drop off).take (m * sz)) m
  | win {i off m : Nat} {c0 : List Value} (hV : V i = some (.win c0 sz)) (hz : 0 < sz) (hl : off + m * sz ≤ c0.length) : Looks V sz (.slice (some ⟨i, off, none⟩) m 0) ((c0.drop off).take (m * sz)) m
  | cells {i off m cap : Nat} {c0 : List Value} {e : TypeId} {fr : Nat × Nat} (hV : V i = some (.cells c0 e fr)) (hz : 0 < sz) (hl : off + m * sz ≤ c0.length) (hc : m ≤ cap) : Looks V sz (.slice (some ⟨i, off, none⟩) m cap) ((c0.drop off).take (m * sz)) m
  | emp {i : Nat} (hV : V i = some .emp) : Looks V sz (.slice (some ⟨i, 0, none⟩) 0 0) [] 0
  | ro {i off m cap : Nat} {c0 : List Value} (hV : V i = some (.ro c0)) (hz : 0 < sz) (hl : off + m * sz ≤ c0.length) (hc : m ≤ cap) : Looks V sz (.slice (some ⟨i, off, none⟩) m cap) ((c0.drop off).take (m * sz)) m

def lookSlot (ρ : Ren) (sz : Nat) : Value → Option Slot
  | .slice none _ _ => some nowhere
  | .slice (some ⟨i, off, none⟩) _ cap => (ρ i).bind fun s => match s.cap with
    | none => some ⟨s.blk, some (cap, sz), s.base + off⟩
    | some (k, z) => if z = 0 then some s else some ⟨s.blk, some (k - off / z, z), s.base + off⟩
  | _ => none

def inR (src : List Src) (ρ : Ren) : Ren := fun a => match src[a]? with
  | some (.own i) => ρ i
  | some (.look v _ sz) => lookSlot ρ sz v
  | none => none

def ownR (src : List Src) : Ren := fun a => match src[a]? with
  | some (.own i) => some ⟨i, none, 0⟩
  | _ => none

def oHeap : Nat → List VObj → List (Nat × VObj)
  | _, [] => []
  | k, o :: r => (k, o) :: oHeap (k + 1) r

theorem lkp_oHeap : ∀ {l : List VObj} {k i : Nat} {o : VObj}, lkp (oHeap k l) i = some o → k ≤ i ∧ l[i - k]? = some o
  | [], k, i, o, h => by cases h
  | c :: r, k, i, o, h => by
    simp only [oHeap, lkp] at h
    split at h
    · rename_i he; subst he; cases h; exact ⟨Nat.le_refl _, by simp⟩
    · obtain ⟨h1, h2⟩ := lkp_oHeap h
      exact ⟨by omega, by rw [show i - k = (i - (k + 1)) + 1 by omega, List.getElem?_cons_succ]; exact h2⟩

theorem ownR_some {src : List Src} {a : Nat} {s : Slot} (h : ownR src a = some s) : src[a]? = some (.own s.blk) ∧ s = ⟨s.blk, none, 0⟩ := by
  unfold ownR at h
  split at h
  · rename_i i hi; cases h; exact ⟨hi, rfl⟩
  · cases h
theorem ownR_of {src : List Src} {a i : Nat} (h : src[a]? = some (.own i)) : ownR src a = some ⟨i, none, 0⟩ := by unfold ownR; rw [h]
theorem ownR_plain (src : List Src) : Plain (ownR src) := fun j s h => by
  obtain ⟨_, h2⟩ := ownR_some h
  rw [h2]; exact .inr ⟨rfl, rfl⟩
theorem own_ext (src : List Src) (ρ : Ren) : Ext (compR (ownR src) ρ) (inR src ρ) := by
  intro a s h
  obtain ⟨u, hu, h2⟩ := Option.bind_eq_some_iff.1 h
  obtain ⟨h3, h4⟩ := ownR_some hu
  rw [h4] at h2
  unfold inR; rw [h3]; exact h2

/-- How an argument of the body's is the caller's. -/
inductive ARel (src : List Src) : Value → Value → Prop
  | val {x y : Value} (h : VRel (ownR src) x y) : ARel src x y
  | look {a m sz : Nat} {y : Value} (h : src[a]? = some (.look y m sz)) : ARel src (.slice (some ⟨a, 0, none⟩) m 0) y
  | agg {xs ys : Array Value} (h : xs.size = ys.size) (hh : ∀ (i : Nat) x y, xs[i]? = some x → ys[i]? = some y → ARel src x y) : ARel src (.agg xs) (.agg ys)

def AList (src : List Src) (xs ys : List Value) : Prop := xs.length = ys.length ∧ ∀ (i : Nat) x y, xs[i]? = some x → ys[i]? = some y → ARel src x y
theorem al_nil {src : List Src} : AList src [] [] := ⟨rfl, fun i x y h => by simp at h⟩
theorem al_cons {src : List Src} {x y : Value} {xs ys : List Value} (h : ARel src x y) (t : AList src xs ys) : AList src (x :: xs) (y :: ys) := by
  refine ⟨by simp [t.1], fun i a b h1 h2 => ?_⟩
  cases i with
  | zero => simp only [List.getElem?_cons_zero, Option.some.injEq] at h1 h2; subst h1; subst h2; exact h
  | succ i => exact t.2 i a b (by simpa using h1) (by simpa using h2)
theorem ar_agg {src : List Src} {xs ys : List Value} (h : AList src xs ys) : ARel src (.agg xs.toArray) (.agg ys.toArray) :=
  .agg (by simpa using h.1) fun i x y h1 h2 => h.2 i x y (by simpa using h1) (by simpa using h2)

/-- What is asked at a function's begin. -/
structure Enter (V : Heap) (src : List Src) (os : List VObj) : Prop where
  obj : ∀ (a : Nat) (o : VObj), os[a]? = some o → ∃ s, src[a]? = some s ∧ match s with
    | .own i => ∃ o1, V i = some o1 ∧ OV (ownR src) o o1
    | .look v m sz => ∃ c, o = .win c sz ∧ Looks V sz v c m ∧ Flat c
  len : src.length = os.length
  inj : ∀ (a b i : Nat), src[a]? = some (.own i) → src[b]? = some (.own i) → a = b
  apart : ∀ (a b i j m sz off n c : Nat) (o : VObj), src[a]? = some (.look (.slice (some ⟨i, off, none⟩) n c) m sz) → src[b]? = some (.own j) → V j = some o → o.fixed = false → i ≠ j

/-- How the names of a function's body are those of its contract at its end (σ, of the contract's names). -/
structure Fit (n k : Nat) (src : List Src) (os : List VObj) (σ : Ren) (L : List (Nat × Option VObj)) (s : St) : Prop where
  cap : Plain σ
  dom : ∀ j t, σ j = some t → (n ≤ j ∧ j < n + k) ∨ (t.gone = false ∧ src[t.blk]? = some (.own j))
  inj : ∀ i j t u, σ i = some t → σ j = some u → t.gone = false → u.gone = false → t.blk = u.blk → i = j
  obj : ∀ i o, lkp L i = some (some o) → o.fixed = false ∧ ∃ t, σ i = some t ∧ ((t.gone = true ∧ o.void = true) ∨ (t.gone = false ∧ ∃ o', s.heap t.blk = some o' ∧ OW σ o o'))
  all : ∀ (a : Nat) (o : VObj) (i : Nat), os[a]? = some o → o.fixed = false → src[a]? = some (.own i) → lkp L i ≠ none

/-- What is to be shown at a function's end. -/
def Ends (τ : Nat → Option TI) (fn : Func) (n k : Nat) (src : List Src) (os : List VObj) (R : Value → List (Nat × Option VObj) → Prop) (e : Exit) (s : St) : Prop :=
  (e = .normal ∨ e = .ret) ∧ ∃ v L σ vr, R v L ∧ evResults τ s fn.results.toList = some vr ∧ VRel σ v vr ∧ Fit n k src os σ L s

section
variable {P : Program} {τ : Nat → Option TI} {m g : Nat}

theorem evResults_ok (hτ : Tab P τ) {ρ : Ren} {s : St} {a : Act} {w : World} (hr : Rel m g ρ s a w) {fn : Func} {v : Value} (h : evResults τ s fn.results.toList = some v) :
    ∃ v', (results fn a.tmps).run P w = .ok v' w ∧ VRel ρ v v' := by
  let one : ResultVar → Option Value := fun
    | .tmp t => lkp s.env t
    | .cell a t => (lkp s.env a).bind (evLoad τ s.heap t)
  let run1 : ResultVar → Sem Value := fun
    | .tmp t => pure (a.tmps.getD t undef)
    | .cell p t => do loadVar t (← asAddr (a.tmps.getD p undef))
  have h1 : ∀ r u, one r = some u → ∃ v', (run1 r).run P w = .ok v' w ∧ VRel ρ u v' := by
    intro r u hu
    cases r with
    | tmp t =>
      obtain ⟨v', h1, h2⟩ := hr.env t u hu
      exact ⟨v', by simp [run1, h1], h2⟩
    | cell p t =>
      simp only [one, Option.bind_eq_some_iff] at hu
      obtain ⟨x, hx, hl⟩ := hu
      obtain ⟨x', h1, h2⟩ := hr.env p x hx
      obtain ⟨v', h3, h4⟩ := evLoad_ok hτ.ok hr.sim h2 hl
      refine ⟨v', ?_, h4⟩
      have : ∃ ad, x' = .pointer (some ad) := by
        unfold evLoad at hl
        split at hl
        · cases h2 with | ptr => exact ⟨_, rfl⟩
        · cases hl
      obtain ⟨ad, rfl⟩ := this
      simp only [Instr.loadAt, Instr.sureAddr, Sem.run_bind, Sem.run_pure, Result.andThen_ok] at h3
      simp only [run1, Array.getD_eq_getD_getElem?, h1, Option.getD_some, asAddr, Sem.run_bind, Sem.run_pure, Result.andThen_ok]
      exact h3
  have hmap : ∀ (rs : List ResultVar) vs, rs.foldr (fun r acc => match one r, acc with | some v, some vs => some (v :: vs) | _, _ => none) (some []) = some vs →
      ∃ vs', (rs.mapM run1).run P w = .ok vs' w ∧ LRel ρ vs vs' := by
    intro rs
    induction rs with
    | nil => intro vs h; cases h; exact ⟨[], rfl, lrel_nil⟩
    | cons r rs ih =>
      intro vs h
      simp only [List.foldr_cons] at h
      split at h
      case h_2 => cases h
      rename_i v vs' hv hvs
      cases h
      obtain ⟨v', hv1, hv2⟩ := h1 r v hv
      obtain ⟨w', hw1, hw2⟩ := ih vs' hvs
      exact ⟨v' :: w', by simp only [List.mapM_cons, Sem.run_bind, hv1, Result.andThen_ok, hw1, Sem.run_pure], lrel_cons hv2 hw2⟩
  have hres : results fn a.tmps = (do
      let vs ← fn.results.mapM run1
      pure (if h : vs.size = 1 then vs[0] else .tuple vs)) := rfl
  have hrun : ∀ l, (fn.results.toList.mapM run1).run P w = .ok l w → (fn.results.mapM run1).run P w = .ok l.toArray w := by
    intro l hl
    rw [Array.mapM_eq_mapM_toList, Sem.run_map, hl]; rfl
  rw [hres, Sem.run_bind]
  have hone : ∀ r, fn.results.toList = [r] → one r = some v → ∃ v', ((fn.results.mapM run1).run P w).andThen (fun vs w' => (pure (if h : vs.size = 1 then vs[0] else .tuple vs) : Sem Value).run P w') = .ok v' w ∧ VRel ρ v v' := by
    intro r hrs hv
    obtain ⟨v', hv1, hv2⟩ := h1 r v hv
    rw [hrun [v'] (by rw [hrs]; simp only [List.mapM_cons, List.mapM_nil, Sem.run_bind, hv1, Result.andThen_ok, Sem.run_pure])]
    exact ⟨v', by simp, hv2⟩
  unfold evResults at h
  split at h
  · rename_i r hrs
    exact hone r hrs h
  · rename_i hne
    simp only [Option.map_eq_some_iff] at h
    obtain ⟨vs, hvs, rfl⟩ := h
    obtain ⟨vs', hv1, hv2⟩ := hmap _ vs hvs
    rw [hrun vs' hv1]
    refine ⟨.tuple vs'.toArray, ?_, vrel_tuple hv2⟩
    have hlen : vs'.length ≠ 1 := by
      intro hl
      have h2 : vs.length = 1 := hv2.1.trans hl
      have h3 : ∀ (rs : List ResultVar) us, rs.foldr (fun r acc => match one r, acc with | some v, some vs => some (v :: vs) | _, _ => none) (some []) = some us → us.length = rs.length := by
        intro rs
        induction rs with
        | nil => intro us h; cases h; rfl
        | cons r rs ih =>
          intro us h
          simp only [List.foldr_cons] at h
          split at h
          · cases h; simp [ih _ ‹_›]
          · cases h
      have h4 := h3 _ _ hvs
      rw [h2] at h4
      obtain ⟨r, hr1⟩ := List.length_eq_one_iff.1 h4.symm
      exact hne r hr1
    simp [hlen]

theorem void_opn {c : List Value} {e : TypeId} {sz : Nat} (h : (VObj.opn c e sz).void = true) : c = [] := by cases c with
  | nil => rfl
  | cons => cases h
theorem void_win {c : List Value} {sz : Nat} (h : (VObj.win c sz).void = true) : c = [] := by cases c with
  | nil => rfl
  | cons => cases h

/-- A look, in the world. -/
theorem look_in {V : Heap} {ρ : Ren} {w : World} {src : List Src} {a m sz : Nat} {v v' : Value} {c : List Value} (hs : Sim ρ V w) (ha : src[a]? = some (.look v m sz)) (hl : Looks V sz v c m) (hf : Flat c) (hv : VRel ρ v v') :
    VRel (inR src ρ) (.slice (some ⟨a, 0, none⟩) m 0) v' ∧ ∃ s, inR src ρ a = some s ∧ At (inR src ρ) w s (.win c sz) ∧ (s.gone = false → ∃ i off n cc t, v = .slice (some ⟨i, off, none⟩) n cc ∧ ρ i = some t ∧ t.gone = false ∧ s.blk = t.blk ∧ ∃ o, V i = some o) := by
  have hin : inR src ρ a = lookSlot ρ sz v := by unfold inR; rw [ha]
  -- an open one's window
  have open_ : ∀ {i off : Nat} {c0 : List Value} {o : VObj}, v = .slice (some ⟨i, off, none⟩) m 0 → c = (c0.drop off).take (m * sz) → V i = some o → 0 < sz → off + m * sz ≤ c0.length →
      (∀ s, s.gone = false → ∀ o', ORel ρ s o o' → ∃ k, s.cap = some (k, sz) ∧ ∃ c' e fr, o' = .cells c' e fr ∧ LRel ρ c0 ((c'.toList.drop s.base).take c0.length)) → (o.void = true → c0 = []) → _ := fun {i off c0 o} hve hce hV hz hlen horel hvoid =>
    (show VRel (inR src ρ) (.slice (some ⟨a, 0, none⟩) m 0) v' ∧ ∃ s, inR src ρ a = some s ∧ At (inR src ρ) w s (.win c sz) ∧ (s.gone = false → ∃ i off n cc t, v = .slice (some ⟨i, off, none⟩) n cc ∧ ρ i = some t ∧ t.gone = false ∧ s.blk = t.blk ∧ ∃ o, V i = some o) by
      subst hve
      obtain ⟨s, hi, hat⟩ := hs.has i o hV
      rcases hat with ⟨hg, hvd, _⟩ | ⟨hg, o', hw, hor⟩
      · have hc0 := hvoid hvd
        subst hc0
        simp only [List.length_nil, Nat.le_zero_eq, Nat.add_eq_zero_iff, Nat.mul_eq_zero] at hlen
        have hm : m = 0 := by omega
        obtain rfl : off = 0 := hlen.1
        subst hm
        have hc' : c = [] := by rw [hce]; simp
        have hslot : lookSlot ρ sz (.slice (some ⟨i, 0, none⟩) 0 0) = some s := by
          simp only [lookSlot, hi, Option.bind_some]
          unfold Slot.gone at hg
          split at hg
          · rename_i he; rw [he]; simp
          · cases hg
        rw [hslot] at hin
        refine ⟨?_, s, hin, .inl ⟨hg, by rw [hc']; rfl, .inl rfl⟩, fun h => by rw [hg] at h; cases h⟩
        cases hv with
        | slice h1 h2 => rw [hi] at h1; cases h1; rw [gone_none h2] at hg; cases hg
        | oslice h1 h2 h3 => rw [hi] at h1; cases h1; rw [gone_pos h2 h3] at hg; cases hg
        | ghost h1 h2 => rw [hi] at h1; cases h1; exact .ghost hin h2
        | hollow h1 h2 => rw [hi] at h1; cases h1; exact .hollow hin h2
      · obtain ⟨k, hcap, c', e, fr, rfl, hwin⟩ := horel s hg o' hor
        cases hv with
        | slice h1 h2 => rw [hi] at h1; cases h1; rw [hcap] at h2; cases h2
        | ghost h1 h2 => rw [hi] at h1; cases h1; rw [gone_zero h2] at hg; cases hg
        | hollow h1 h2 => rw [hi] at h1; cases h1; rw [gone_zero h2] at hg; cases hg
        | oslice h1 h2 h3 h4 h5 =>
          rename_i e1 k1 z1 s1
          rw [hi] at h1; cases h1
          rw [hcap] at h2; cases h2
          have hdiv : off / sz = e1 := by rw [← h4]; exact Nat.mul_div_cancel _ h3
          have hslot : lookSlot ρ sz (.slice (some ⟨i, off, none⟩) m 0) = some ⟨s.blk, some (k - e1, sz), s.base + off⟩ := by
            simp only [lookSlot, hi, Option.bind_some, hcap]
            rw [if_neg (by omega), hdiv]
          rw [hslot] at hin
          have hgo : (⟨s.blk, some (k - e1, sz), s.base + off⟩ : Slot).gone = false := gone_pos rfl hz
          refine ⟨?_, _, hin, .inr ⟨hgo, _, hw, ?_⟩, fun _ => ⟨i, off, m, 0, s, rfl, hi, hg, rfl, o, hV⟩⟩
          · have := VRel.oslice (i := a) (off := 0) (n := m) (e := 0) hin rfl hz (by simp) (by omega)
            simpa using this
          · refine .win e fr rfl hz ?_
            have hl2 := lrel_take (lrel_drop hwin off) (m * sz)
            rw [← hce] at hl2
            have hsame := hf.same hl2
            have hcl : c.length = m * sz := by rw [hce]; simp only [List.length_take, List.length_drop]; omega
            have : (c'.toList.drop (s.base + off)).take c.length = c := by
              rw [hcl]
              refine Eq.trans ?_ hsame
              rw [List.drop_take, List.drop_drop, List.take_take]
              congr 1; omega
            rw [this]; exact hf.rel)
  -- one whose capacity is told
  have plain_ : ∀ {i off cap : Nat} {c0 : List Value} {o : VObj}, v = .slice (some ⟨i, off, none⟩) m cap → c = (c0.drop off).take (m * sz) → V i = some o → 0 < sz → off + m * sz ≤ c0.length → m ≤ cap → o.void = false →
      (∀ s, ∀ o', ORel ρ s o o' → s.cap = none ∧ ∃ c' e fr, o' = .cells c' e fr ∧ LRel ρ c0 ((c'.toList.drop s.base).take c0.length)) → _ := fun {i off cap c0 o} hve hce hV hz hlen hmc hvd horel =>
    (show VRel (inR src ρ) (.slice (some ⟨a, 0, none⟩) m 0) v' ∧ ∃ s, inR src ρ a = some s ∧ At (inR src ρ) w s (.win c sz) ∧ (s.gone = false → ∃ i off n cc t, v = .slice (some ⟨i, off, none⟩) n cc ∧ ρ i = some t ∧ t.gone = false ∧ s.blk = t.blk ∧ ∃ o, V i = some o) by
      subst hve
      obtain ⟨s, o', hi, hg, hw, hor⟩ := hs.real hV hvd
      obtain ⟨hcap, c', e, fr, rfl, hwin⟩ := horel s o' hor
      cases hv with
      | oslice h1 h2 h3 => rw [hi] at h1; cases h1; rw [hcap] at h2; cases h2
      | ghost h1 h2 => rw [hi] at h1; cases h1; rw [hcap] at h2; cases h2
      | hollow h1 h2 => rw [hi] at h1; cases h1; rw [hcap] at h2; cases h2
      | slice h1 h2 =>
        rw [hi] at h1; cases h1
        have hslot : lookSlot ρ sz (.slice (some ⟨i, off, none⟩) m cap) = some ⟨s.blk, some (cap, sz), s.base + off⟩ := by
          simp only [lookSlot, hi, Option.bind_some, hcap]
        rw [hslot] at hin
        have hgo : (⟨s.blk, some (cap, sz), s.base + off⟩ : Slot).gone = false := gone_pos rfl hz
        refine ⟨?_, _, hin, .inr ⟨hgo, _, hw, ?_⟩, fun _ => ⟨i, off, m, cap, s, rfl, hi, hg, rfl, o, hV⟩⟩
        · have := VRel.oslice (i := a) (off := 0) (n := m) (e := 0) hin rfl hz (by simp) (by omega)
          simpa using this
        · refine .win e fr rfl hz ?_
          have hl2 := lrel_take (lrel_drop hwin off) (m * sz)
          rw [← hce] at hl2
          have hsame := hf.same hl2
          have hcl : c.length = m * sz := by rw [hce]; simp only [List.length_take, List.length_drop]; omega
          have : (c'.toList.drop (s.base + off)).take c.length = c := by
            rw [hcl]
            refine Eq.trans ?_ hsame
            rw [List.drop_take, List.drop_drop, List.take_take]
            congr 1; omega
          rw [this]; exact hf.rel)
  cases hl with
  | nil =>
    cases hv
    have hslot : lookSlot ρ sz (.slice none 0 0) = some nowhere := rfl
    rw [hslot] at hin
    exact ⟨.ghost hin rfl, nowhere, hin, .inl ⟨rfl, rfl, .inl rfl⟩, fun h => by cases h⟩
  | opn hV hz hlen =>
    refine open_ rfl rfl hV hz hlen (fun s hg o' hor => ?_) (fun h => ?_)
    · cases hor with
      | opn _ hcap hb hl hcc hk hz' fr hfr =>
        rename_i c1 c2 c' k
        refine ⟨k, hcap, c', _, fr, rfl, ?_⟩
        rw [hb, List.drop_zero, hcc, hl.1, List.take_left']
        · exact hl
        · rfl
    · exact void_opn h
  | win hV hz hlen =>
    refine open_ rfl rfl hV hz hlen (fun s hg o' hor => ?_) (fun h => ?_)
    · cases hor with
      | win e fr hcap hz' hl => exact ⟨_, hcap, _, e, fr, rfl, hl⟩
    · exact void_win h
  | cells hV hz hlen hc =>
    refine plain_ rfl rfl hV hz hlen hc rfl fun s o' hor => ?_
    cases hor with
    | cells e fr hcap hb hl =>
      refine ⟨hcap, _, _, _, rfl, ?_⟩
      rw [hb, List.drop_zero, hl.1, List.take_length]
      exact hl
  | emp hV =>
    rename_i i
    obtain ⟨s, hi, hat⟩ := hs.has i _ hV
    have hg := hat.emp rfl
    have hslot : lookSlot ρ sz (.slice (some ⟨i, 0, none⟩) 0 0) = some s := by
      simp only [lookSlot, hi, Option.bind_some]
      have hg' := hg
      unfold Slot.gone at hg'
      split at hg'
      · rename_i he; rw [he]; simp
      · cases hg'
    rw [hslot] at hin
    refine ⟨?_, s, hin, .inl ⟨hg, rfl, .inl rfl⟩, fun h => by rw [hg] at h; cases h⟩
    cases hv with
    | slice h1 h2 => rw [hi] at h1; cases h1; rw [gone_none h2] at hg; cases hg
    | oslice h1 h2 h3 => rw [hi] at h1; cases h1; rw [gone_pos h2 h3] at hg; cases hg
    | ghost h1 h2 => rw [hi] at h1; cases h1; exact .ghost hin h2
    | hollow h1 h2 => rw [hi] at h1; cases h1; exact .hollow hin h2
  | ro hV hz hlen hc =>
    refine plain_ rfl rfl hV hz hlen hc rfl fun s o' hor => ?_
    cases hor with
    | ro e fr hcap hl => exact ⟨hcap, _, e, fr, rfl, hl⟩

theorem arg_in {V : Heap} {ρ : Ren} {w : World} {src : List Src} {os : List VObj} (he : Enter V src os) (hs : Sim ρ V w) {x y : Value} (h : ARel src x y) : ∀ {y' : Value}, VRel ρ y y' → VRel (inR src ρ) x y' := by
  induction h with
  | val h => exact fun hy => (h.comp (ownR_plain src) hy).mono (own_ext src ρ)
  | look h =>
    intro y' hy
    rename_i a m sz y
    have hlt : a < os.length := he.len ▸ (List.getElem?_eq_some_iff.1 h).1
    obtain ⟨s, h1, h2⟩ := he.obj a os[a] (by simp [hlt])
    rw [h] at h1; cases h1
    obtain ⟨c, _, h3, h4⟩ := h2
    exact (look_in hs h h3 h4 hy).1
  | agg h1 hh ih =>
    intro y' hy
    cases hy with
    | agg h3 h4 =>
      refine .agg (h1.trans h3) fun i v v' hv hv' => ?_
      rename_i xs ys c'
      have hi : i < ys.size := by have := (Array.getElem?_eq_some_iff.1 hv).1; omega
      exact ih i v ys[i] hv (by simp [hi]) (h4 i ys[i] v' (by simp [hi]) hv')

theorem sim_in {V : Heap} {ρ : Ren} {w : World} {src : List Src} {os : List VObj} (he : Enter V src os) (hs : Sim ρ V w) (hv : ∀ (a : Nat) (v : Value) (m sz : Nat), src[a]? = some (Src.look v m sz) → ∃ v', VRel ρ v v') : Sim (inR src ρ) (lkp (oHeap 0 os)) w := by
  have hobj : ∀ a o, lkp (oHeap 0 os) a = some o → ∃ s, inR src ρ a = some s ∧ At (inR src ρ) w s o ∧
      ((∃ (i : Nat) (o1 : VObj), src[a]? = some (Src.own i) ∧ V i = some o1 ∧ o1.fixed = o.fixed ∧ ρ i = some s) ∨ (o.fixed = true ∧ (s.gone = false → ∃ (i off n cc : Nat) (t : Slot) (m sz : Nat) (o1 : VObj), src[a]? = some (Src.look (.slice (some ⟨i, off, none⟩) n cc) m sz) ∧ V i = some o1 ∧ ρ i = some t ∧ t.gone = false ∧ s.blk = t.blk))) := by
    intro a o h
    obtain ⟨_, h2⟩ := lkp_oHeap h
    rw [Nat.sub_zero] at h2
    obtain ⟨sr, h3, h4⟩ := he.obj a o h2
    cases sr with
    | own i =>
      obtain ⟨o1, h5, h6⟩ := h4
      obtain ⟨s, h7, h8⟩ := hs.has i o1 h5
      have hin : inR src ρ a = some s := by unfold inR; rw [h3]; exact h7
      refine ⟨s, hin, ?_, .inl ⟨i, o1, h3, h5, h6.fixed, h7⟩⟩
      rcases h8 with ⟨h8, h9, h11⟩ | ⟨h8, o', h9, h10⟩
      · exact .inl ⟨h8, h6.void ▸ h9, h6.fixed ▸ h11⟩
      · exact .inr ⟨h8, o', h9, (h6.comp (ownR_plain src) h10).mono (own_ext src ρ)⟩
    | look v m sz =>
      obtain ⟨c, rfl, h5, h6⟩ := h4
      obtain ⟨v', hv'⟩ := hv a v m sz h3
      obtain ⟨_, s, h7, h8, h9⟩ := look_in hs h3 h5 h6 hv'
      refine ⟨s, h7, h8, .inr ⟨rfl, fun hg => ?_⟩⟩
      obtain ⟨i, off, n, cc, t, g1, g2, g3, g4, o1, g5⟩ := h9 hg
      exact ⟨i, off, n, cc, t, m, sz, o1, by rw [h3, g1], g5, g2, g3, g4⟩
  constructor
  · intro a o h
    obtain ⟨s, h1, h2, _⟩ := hobj a o h
    exact ⟨s, h1, h2⟩
  · intro a b o p s t hab ha hb hs1 ht1 hsg htg hfx
    obtain ⟨s', h1, _, h2⟩ := hobj a o ha
    rw [hs1] at h1; cases h1
    obtain ⟨t', k1, _, k2⟩ := hobj b p hb
    rw [ht1] at k1; cases k1
    rcases h2 with ⟨i, o1, p1, p2, p3, p4⟩ | ⟨p1, p2⟩ <;> rcases k2 with ⟨j, o2, q1, q2, q3, q4⟩ | ⟨q1, q2⟩
    · exact hs.apart i j o1 o2 s t (fun e => hab (he.inj a b j (e ▸ p1) q1)) p2 q2 p4 q4 hsg htg (by rw [p3, q3]; exact hfx)
    · obtain ⟨j, off, n, cc, u, m, sz, o2, g1, g2, g3, g4, g5⟩ := q2 htg
      rw [q1, Bool.and_true] at hfx
      have hne := he.apart b a j i m sz off n cc o1 g1 p1 p2 (p3.trans hfx)
      rw [g5]
      exact hs.apart i j o1 o2 s u (Ne.symm hne) p2 g2 p4 g3 hsg g4 (by rw [p3, hfx]; rfl)
    · obtain ⟨i, off, n, cc, u, m, sz, o1, g1, g2, g3, g4, g5⟩ := p2 hsg
      rw [p1, Bool.true_and] at hfx
      have hne := he.apart a b i j m sz off n cc o2 g1 q1 q2 (q3.trans hfx)
      rw [g5]
      exact hs.apart i j o1 o2 u t hne g2 q2 g3 q4 g4 htg (by rw [q3, hfx, Bool.and_false])
    · rw [p1, q1] at hfx; cases hfx

/-- Slices that are looked at lie among the arguments. -/
def Seen (V : Heap) (args : List Value) (v : Value) : Prop := ∀ ρ w args', Sim ρ V w → LRel ρ args args' → ∃ v', VRel ρ v v'
theorem seen_top {V : Heap} {args : List Value} {v : Value} {j : Nat} (h : args[j]? = some v) : Seen V args v := fun ρ w args' _ ha => let ⟨v', _, h2⟩ := lrel_get ha h; ⟨v', h2⟩
theorem seen_agg {V : Heap} {args : List Value} {v : Value} {xs : Array Value} {j i : Nat} (h : args[j]? = some (.agg xs)) (hi : xs.toList[i]? = some v) : Seen V args v := fun ρ w args' _ ha => by
  obtain ⟨v', _, h2⟩ := lrel_get ha h
  obtain ⟨c', _, h3⟩ := vrel_agg_inv h2
  obtain ⟨u, _, h4⟩ := lrel_get h3 hi
  exact ⟨u, h4⟩

theorem tri_of_vw (hτ : Tab P τ) {F : FuncId} {fn : Func} {c : Code} {args argsI : List Value} {n k : Nat} {V : Heap} {R : Value → List (Nat × Option VObj) → Prop} (hf : P.funcs[F]? = some fn) (hb : fn.body = some c) (hm : fn.ntmps = m)
    (hlen : argsI.length ≤ m) (p : Nat) (src : List Src) (os : List VObj) (hp : os.length = p) (he : Enter V src os) (ha : AList src argsI args) (hlook : ∀ (a : Nat) (v : Value) (m sz : Nat), src[a]? = some (Src.look v m sz) → Seen V args v)
    (h : VW P m p c (Ends τ fn n k src os R) ⟨argEnv 0 argsI, lkp (oHeap 0 os), p⟩) : Tri P F args n k V R := by
  intro ρ w args' hfree hs hargs
  have hla := hargs.1
  have hla2 := ha.1
  let ρ0 := inR src ρ
  have hsim0 : Sim ρ0 (lkp (oHeap 0 os)) w := sim_in he hs fun a v m sz h => hlook a v m sz h ρ w args' hs hargs
  have hblk : ∀ b, Blks ρ0 (lkp (oHeap 0 os)) b → ∃ (a : Nat) (o : VObj) (i : Nat) (o1 : VObj) (s : Slot), os[a]? = some o ∧ o.fixed = false ∧ src[a]? = some (Src.own i) ∧ V i = some o1 ∧ o1.fixed = false ∧ ρ i = some s ∧ s.gone = false ∧ s.blk = b := by
    rintro b ⟨a, o, s, h1, hfx, h2, hg, h3⟩
    obtain ⟨_, h4⟩ := lkp_oHeap h1
    rw [Nat.sub_zero] at h4
    obtain ⟨sr, h5, h6⟩ := he.obj a o h4
    cases sr with
    | own i =>
      obtain ⟨o1, h7, h8⟩ := h6
      have h2' : ρ i = some s := by simpa [ρ0, inR, h5] using h2
      exact ⟨a, o, i, o1, s, h4, hfx, h5, h7, h8.fixed.trans hfx, h2', hg, h3⟩
    | look v m sz => obtain ⟨c, rfl, _⟩ := h6; cases hfx
  have hrel : Rel m p ρ0 ⟨argEnv 0 argsI, lkp (oHeap 0 os), p⟩ { tmps := args'.toArray ++ Array.replicate (fn.ntmps - args'.toArray.size) undef, defers := [] } w := by
    refine ⟨?_, Nat.le_refl _, hsim0, ?_, ?_, rfl⟩
    · intro i hi
      simp only at hi
      have : src[i]? = none := List.getElem?_eq_none (by rw [he.len]; omega)
      simp [ρ0, inR, this]
    · intro t v ht
      obtain ⟨_, h2⟩ := lkp_argEnv argsI 0 t v ht
      simp only [Nat.sub_zero] at h2
      have ht1 : t < args.length := by have := (List.getElem?_eq_some_iff.1 h2).1; omega
      have hA := ha.2 t v args[t] h2 (by simp [ht1])
      have ht2 : t < args'.length := by omega
      have h3 := arg_in he hs hA (hargs.2 t args[t] args'[t] (by simp [ht1]) (by simp [ht2]))
      refine ⟨args'[t], ?_, h3⟩
      rw [Array.getElem?_append_left (by simpa using ht2)]
      simp [ht2]
    · simp only [Array.size_append, List.size_toArray, Array.size_replicate]; omega
  refine calls_of_wp hf hb (wp_mono (h ρ0 _ w hrel) ?_)
  rintro e a1 w1 ⟨s1, ρ1, ⟨hex, v, L, σ, vr, hR, hres, hvr, hfit⟩, hr1, hk, hg⟩
  obtain ⟨v', hrun, hv'⟩ := evResults_ok hτ hr1 hres
  have hend : a1.defers = [] ∧ ∃ v, (results fn a1.tmps).run P w1 = .ok v w1 ∧ (fun (e : Ending) w' => ∃ v L v' ρ', R v L ∧ e = .returned v' ∧ VRel ρ' v v' ∧ Sim ρ' (over V L) w' ∧ Keep ρ V w ρ' (over V L) w' ∧ ∀ i, ¬ (n ≤ i ∧ i < n + k) → ρ' i = ρ i) (.returned v) w1 := by
    refine ⟨hr1.defers, v', hrun, ?_⟩
    let ρ' : Ren := fun i => if n ≤ i ∧ i < n + k then compR σ ρ1 i else ρ i
    have hext : Ext (compR σ ρ1) ρ' := by
      intro i t ht
      simp only [ρ']
      split
      · exact ht
      · rename_i hno
        obtain ⟨u, hu, ht'⟩ := Option.bind_eq_some_iff.1 ht
        rcases hfit.dom i u hu with hd | ⟨hug, hsrc⟩
        · exact (hno hd).elim
        · rw [hug] at ht'
          simp only [Bool.false_eq_true, if_false] at ht'
          have hlt : u.blk < p := by rw [← hp, ← he.len]; exact (List.getElem?_eq_some_iff.1 hsrc).1
          rw [hg _ hlt] at ht'
          simpa [ρ0, inR, hsrc] using ht'
    have hext2 : Ext ρ ρ' := by
      intro i t ht
      simp only [ρ']
      split
      · rename_i hin; rw [hfree i hin.1 hin.2] at ht; cases ht
      · exact ht
    -- of a name that was turned
    have hL : ∀ i o, lkp L i = some (some o) → o.fixed = false ∧ ∃ s, ρ' i = some s ∧ At ρ' w1 s o ∧ (s.gone = false → ∃ u o1, u.gone = false ∧ σ i = some u ∧ s1.heap u.blk = some o1 ∧ o1.fixed = false ∧ ρ1 u.blk = some s) := by
      intro i o hi
      obtain ⟨hof, u, h1, h2⟩ := hfit.obj i o hi
      refine ⟨hof, ?_⟩
      rcases h2 with ⟨hug, hvd⟩ | ⟨hug, o1, h3, h4⟩
      · exact ⟨u, hext _ _ (comp_gone h1 hug), .inl ⟨hug, hvd, .inr (hfit.cap.thin h1 hug)⟩, fun h => by rw [hug] at h; cases h⟩
      · obtain ⟨s, h5, h6⟩ := hr1.sim.has _ _ h3
        refine ⟨s, hext _ _ (by rw [comp_real h1 hug]; exact h5), ?_, fun _ => ⟨u, o1, hug, h1, h3, h4.fixed.trans hof, h5⟩⟩
        rcases h6 with ⟨h6, h7, h9⟩ | ⟨h6, o', h7, h8⟩
        · exact .inl ⟨h6, h4.void h7, h4.fixed ▸ h9⟩
        · exact .inr ⟨h6, o', h7, (h4.comp hfit.cap h8).mono hext⟩
    -- of one that was not
    have hN : ∀ i o, lkp L i = none → V i = some o → ∃ s, ρ i = some s ∧ ρ' i = some s ∧ At ρ' w1 s o ∧ (s.gone = false → s.blk < w.heap.size ∧ ¬ Blks ρ0 (lkp (oHeap 0 os)) s.blk) := by
      intro i o hi hV
      obtain ⟨s, h1, h2⟩ := hs.has i o hV
      have hlt : s.gone = false → s.blk < w.heap.size ∧ ¬ Blks ρ0 (lkp (oHeap 0 os)) s.blk := by
        intro hsg
        obtain ⟨_, h3, _⟩ := hs.at_ hV h1 hsg
        refine ⟨(Array.getElem?_eq_some_iff.1 h3).1, fun hb => ?_⟩
        obtain ⟨a, q, j, o1, t, g1, gf, g2, g3, gf1, g4, g5, g6⟩ := hblk _ hb
        have hij : i ≠ j := by rintro rfl; exact hfit.all a q i g1 gf g2 hi
        exact hs.apart i j _ _ _ _ hij hV g3 h1 g4 hsg g5 (by simp [gf1]) g6.symm
      exact ⟨s, h1, hext2 _ _ h1, h2.mono hext2 fun hsg => hk.block _ (hlt hsg).1 (hlt hsg).2, hlt⟩
    have hcase : ∀ i o, over V L i = some o → lkp L i = some (some o) ∨ (lkp L i = none ∧ V i = some o) := by
      intro i o hi
      unfold over at hi
      cases hx : lkp L i with
      | none => rw [hx] at hi; exact .inr ⟨rfl, hi⟩
      | some y => rw [hx] at hi; exact .inl (by rw [← hi]; rfl)
    have hnew : ∀ i o s, lkp L i = some (some o) → ρ' i = some s → s.gone = false → Blks ρ1 s1.heap s.blk := by
      intro i o s hi hs' hsg
      obtain ⟨_, t, h1, _, h2⟩ := hL i o hi
      rw [h1] at hs'; cases hs'
      obtain ⟨u, o1, g1, g2, g3, g4, g5⟩ := h2 hsg
      exact ⟨u.blk, o1, _, g3, g4, g5, hsg, rfl⟩
    refine ⟨v, L, v', ρ', hR, rfl, (hvr.comp hfit.cap hv').mono hext, ⟨?_, ?_⟩, ⟨hk.os, hk.tape, hk.output, hk.size, ?_, ?_⟩, ?_⟩
    · intro i o hi
      rcases hcase i o hi with h1 | ⟨h1, h2⟩
      · obtain ⟨_, s, h5, h6, _⟩ := hL i o h1
        exact ⟨s, h5, h6⟩
      · obtain ⟨s, _, h4, h5, _⟩ := hN i o h1 h2
        exact ⟨s, h4, h5⟩
    · have mixed : ∀ i j o p s t, lkp L i = some (some o) → lkp L j = none → V j = some p → ρ' i = some s → ρ' j = some t → s.gone = false → t.gone = false → s.blk ≠ t.blk := by
        intro i j o p s t hi hj hj' hs' ht' hsg htg heq
        obtain ⟨t2, g1, g2, _, g3⟩ := hN j p hj hj'
        rw [g2] at ht'; cases ht'
        obtain ⟨g4, g5⟩ := g3 htg
        rcases hk.new _ (hnew i o s hi hs' hsg) with hb | hb
        · rw [heq] at hb; exact g5 hb
        · omega
      intro i j o q s t hij hi hj hs' ht' hsg htg hfx
      rcases hcase i o hi with h1 | ⟨h1, h2⟩ <;> rcases hcase j q hj with k1 | ⟨k1, k2⟩
      · obtain ⟨_, s2, a1, _, a2⟩ := hL i o h1
        rw [a1] at hs'; cases hs'
        obtain ⟨u, o1, a3, a4, a5, a6, a7⟩ := a2 hsg
        obtain ⟨_, t2, b1, _, b2⟩ := hL j q k1
        rw [b1] at ht'; cases ht'
        obtain ⟨u', p1, b3, b4, b5, b6, b7⟩ := b2 htg
        exact hr1.sim.apart u.blk u'.blk _ _ _ _ (fun e => hij (hfit.inj i j u u' a4 b4 a3 b3 e)) a5 b5 a7 b7 hsg htg (by simp [a6])
      · exact mixed i j o q s t h1 k1 k2 hs' ht' hsg htg
      · exact (mixed j i q o t s k1 h1 h2 ht' hs' htg hsg).symm
      · obtain ⟨s2, a1, a2, _⟩ := hN i o h1 h2
        obtain ⟨t2, b1, b2, _⟩ := hN j q k1 k2
        rw [a2] at hs'; cases hs'
        rw [b2] at ht'; cases ht'
        exact hs.apart i j _ _ _ _ hij h2 k2 a1 b1 hsg htg hfx
    · intro b hb hn
      refine hk.block b hb fun hx => ?_
      obtain ⟨a, o, i, o1, s, _, _, _, g2, gf, g3, gg, g4⟩ := hblk b hx
      exact hn ⟨i, o1, s, g2, gf, g3, gg, g4⟩
    · rintro b ⟨i, o, s, hi, hof, hs', hsg, rfl⟩
      rcases hcase i o hi with h1 | ⟨h1, h2⟩
      · rcases hk.new _ (hnew i o s h1 hs' hsg) with hb | hb
        · obtain ⟨a, o, j, o1, t, _, _, _, g2, gf, g3, gg, g4⟩ := hblk _ hb
          exact .inl ⟨j, o1, t, g2, gf, g3, gg, g4⟩
        · exact .inr hb
      · obtain ⟨s2, a1, a2, _⟩ := hN i o h1 h2
        rw [a2] at hs'; cases hs'
        exact .inl ⟨i, o, _, h2, hof, a1, hsg, rfl⟩
    · intro i hi
      simp only [ρ']
      rw [if_neg hi]
  rcases hex with rfl | rfl
  · exact hend
  · exact hend

/-- A function of plain values: no name goes in or comes out. -/
def Fun (P : Program) (F : FuncId) (args : List Value) (v : Value) : Prop := ∀ n V, Tri P F args n 0 V (fun u L => u = v ∧ L = [])

/-- The names of none. -/
def no : Ren := fun _ => none

theorem fun_of_vw (hτ : Tab P τ) {F : FuncId} {fn : Func} {c : Code} {args : List Value} {v : Value} (hf : P.funcs[F]? = some fn) (hb : fn.body = some c) (hm : fn.ntmps = m) (hlen : args.length ≤ m)
    (ha : LRel no args args) (hv : VRel no v v) (h : VW P m 0 c (fun e s => (e = .normal ∨ e = .ret) ∧ evResults τ s fn.results.toList = some v) ⟨argEnv 0 args, fun _ => none, 0⟩) : Fun P F args v := by
  intro n V
  refine tri_of_vw hτ hf hb hm hlen 0 [] [] rfl ⟨fun a o h => by simp at h, rfl, fun a b i h => by simp at h, fun a b i j m sz off n c o h => by simp at h⟩ ⟨rfl, fun i x y h1 h2 => .val ?_⟩ (fun a v m sz h => by simp at h) ?_
  · exact (ha.2 i x y h1 h2).mono (fun _ _ h => by cases h)
  refine h.mono ?_
  rintro e s ⟨h1, h2⟩
  exact ⟨h1, v, [], no, v, ⟨rfl, rfl⟩, h2, hv, ⟨fun j t h => (by cases h), fun j t h => (by cases h), fun i j t u h => (by cases h), fun i o h => (by cases h), fun a o i h => by simp at h⟩⟩

end
end Go.Proofs.Yticaicdopfpknaa.Vm
