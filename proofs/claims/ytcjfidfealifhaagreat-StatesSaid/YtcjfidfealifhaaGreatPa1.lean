/- Texts of this claim, one behind the other (2 of 7). -/
import Derived.Test.YtcjfidfealifhaaGreatPa0
/- The framework, part 2. No program in it. -/
/- From a function's body to what a call asks and gives. No program in it. -/
set_option linter.unusedVariables false
set_option linter.unusedSimpArgs false
namespace Go.Proofs.YtcjfidfealifhaaGreat.Vm
open Go

/-- Objects of names, and of names of names. -/
inductive OV (σ : Ren) : VObj → VObj → Prop
  | cells {c c' : List Value} (e : TypeId) (fr : Nat × Nat) (h : LRel σ c c') : OV σ (.cells c e fr) (.cells c' e fr)
  | opn {c c' : List Value} (e : TypeId) (sz : Nat) (h : LRel σ c c') : OV σ (.opn c e sz) (.opn c' e sz)
  | ro {c c' : List Value} (h : LRel σ c c') : OV σ (.ro c) (.ro c')
  | win {c c' : List Value} (sz : Nat) (h : LRel σ c c') : OV σ (.win c sz) (.win c' sz)
  | emp : OV σ .emp .emp
  | map {es es' : List (Value × Value × Nat)} {clock : Nat} (hk : LRel σ (es.map (·.1)) (es'.map (·.1))) (hv : LRel σ (es.map (·.2.1)) (es'.map (·.2.1))) (hb : es.map (·.2.2) = es'.map (·.2.2)) : OV σ (.map es clock) (.map es' clock)

theorem OV.comp {σ ρ : Ren} (hσ : Plain σ) {o o1 : VObj} (h : OV σ o o1) {s : Slot} {o' : Obj} (k : ORel ρ s o1 o') : ORel (compR σ ρ) s o o' := by
  cases h with
  | cells e fr h => cases k with | cells _ _ hs hb hl => exact .cells e fr hs hb (h.comp hσ hl)
  | opn e sz h => cases k with | opn _ hs hb hl hc hk hz fr hf => exact .opn e hs hb (h.comp hσ hl) hc hk hz fr hf
  | ro h => cases k with | ro e fr hs hl => exact .ro e fr hs (by rw [h.1]; exact h.comp hσ hl)
  | win sz h => cases k with | win e fr hs hz hl => exact .win e fr hs hz (by rw [h.1]; exact h.comp hσ hl)
  | emp => cases k
  | map hk hv hb => cases k with | map hs hk' hv' hb' => exact .map hs (hk.comp hσ hk') (hv.comp hσ hv') (hb.trans hb')

/-- The names below n, as they are. -/
def idn (n : Nat) : Ren := fun i => if i < n then some ⟨i, none, 0⟩ else none

theorem OV.fixed {σ : Ren} {o o1 : VObj} (h : OV σ o o1) : o1.fixed = o.fixed := by cases h <;> rfl
theorem OV.void {σ : Ren} {o o1 : VObj} (h : OV σ o o1) : o1.void = o.void := by
  cases h with
  | opn e sz h => have := h.1; rename_i c c'; cases c <;> cases c' <;> first | rfl | simp at this
  | win sz h => have := h.1; rename_i c c'; cases c <;> cases c' <;> first | rfl | simp at this
  | _ => rfl

def argEnv : Nat → List Value → List (Nat × Value)
  | _, [] => []
  | k, v :: r => (k, v) :: argEnv (k + 1) r

theorem lkp_argEnv : ∀ (l : List Value) (k t : Nat) (v : Value), lkp (argEnv k l) t = some v → k ≤ t ∧ l[t - k]? = some v
  | [], k, t, v, h => by cases h
  | x :: r, k, t, v, h => by
    simp only [argEnv, lkp] at h
    split at h
    · rename_i he; subst he; cases h; exact ⟨Nat.le_refl _, by simp⟩
    · obtain ⟨h1, h2⟩ := lkp_argEnv r (k + 1) t v h
      refine ⟨by omega, ?_⟩
      have : t - k = (t - (k + 1)) + 1 := by omega
      rw [this, List.getElem?_cons_succ]; exact h2

/-- The same; or the beginning of an open one. -/
inductive OW (σ : Ren) : VObj → VObj → Prop
  | same {o o1 : VObj} (h : OV σ o o1) : OW σ o o1
  | cut {c c' d : List Value} (e : TypeId) (sz : Nat) (h : LRel σ c c') : OW σ (.opn c e sz) (.opn (c' ++ d) e sz)

theorem OW.fixed {σ : Ren} {o o1 : VObj} (h : OW σ o o1) : o1.fixed = o.fixed := by
  cases h with
  | same h => exact h.fixed
  | cut => rfl
theorem OW.void {σ : Ren} {o o1 : VObj} (h : OW σ o o1) (hv : o1.void = true) : o.void = true := by
  cases h with
  | same h => exact h.void ▸ hv
  | cut e sz h =>
    rename_i c c' d
    have hl := h.1
    cases c with
    | nil => rfl
    | cons a c =>
      cases c' with
      | nil => simp at hl
      | cons b c' => cases hv
theorem OW.comp {σ ρ : Ren} (hσ : Plain σ) {o o1 : VObj} (h : OW σ o o1) {s : Slot} {o' : Obj} (k : ORel ρ s o1 o') : ORel (compR σ ρ) s o o' := by
  cases h with
  | same h => exact h.comp hσ k
  | cut e sz h =>
    rename_i c c' d
    cases k with
    | opn _ hs hb hl hc hk hz fr hf =>
      rename_i c1 c2 cc kk
      have hlen := hl.1
      rw [List.length_append] at hlen
      have h1 : LRel ρ c' (c1.take c'.length) := by
        have := lrel_take hl c'.length
        rwa [List.take_left'] at this
        rfl
      exact .opn (c1 := c1.take c'.length) (c2 := c1.drop c'.length ++ c2) (k := kk) e hs hb (h.comp hσ h1) (by rw [hc, ← List.append_assoc, List.take_append_drop]) hk hz fr hf

/-- Values that bear no name. -/
def flatB : Value → Bool
  | .int _ _ => true
  | .bool _ => true
  | .string _ => true
  | _ => false

def Flat (c : List Value) : Prop := ∀ v ∈ c, flatB v = true

theorem flat_same {ρ : Ren} {v v' : Value} (h : flatB v = true) (hv : VRel ρ v v') : v' = v := by
  cases v <;> first | (cases h; done) | (cases hv; rfl)
theorem flat_rel {ρ : Ren} {v : Value} (h : flatB v = true) : VRel ρ v v := by
  cases v <;> first | (cases h; done) | constructor
theorem Flat.same {ρ : Ren} {c c' : List Value} (h : Flat c) (hv : LRel ρ c c') : c' = c := by
  refine List.ext_getElem hv.1.symm fun i h1 h2 => ?_
  exact flat_same (h _ (List.getElem_mem h2)) (hv.2 i _ _ (by simp [h2]) (by simp [h1]))
theorem Flat.rel {ρ : Ren} {c : List Value} (h : Flat c) : LRel ρ c c :=
  ⟨rfl, fun i v v' h1 h2 => by rw [h1] at h2; cases h2; exact flat_rel (h v (List.mem_of_getElem? h1))⟩

/-- What a name of a function's body is at its begin: an object of the caller's, or a look at a slice of its. -/
inductive Src where
  | own (i : Nat)
  | look (v : Value) (m sz : Nat)

/-- A slice, as the caller has it: m elements of sz cells. -/
inductive Looks (V : Heap) (sz : Nat) : Value → List Value → Nat → Prop
  | nil : Looks V sz (.slice none 0 0) [] 0
  | opn {i off m : Nat} {c0 : List Value} {e : TypeId} (hV : V i = some (.opn c0 e sz)) (hz : 0 < sz) (hl : off + m * sz ≤ c0.length) : Looks V sz (.slice (some ⟨i, off, none⟩) m 0) ((c0.drop off).take (m * sz)) m
  | win {i off m : Nat} {c0 : List Value} (hV : V i = some (.win c0 sz)) (hz : 0 < sz) (hl : off + m * sz ≤ c0.length) : Looks V sz (.slice (some ⟨i, off, none⟩) m 0) ((c0.drop off).take (m * sz)) m
  | cells {i off m cap : Nat} {c0 : List Value} {e : TypeId} {fr : Nat × Nat} (hV : V i = some (.cells c0 e fr)) (hz : 0 < sz) (hl : off + m * sz ≤ c0.length) (hc : m ≤ cap) : Looks V sz (.slice (some ⟨i, off, none⟩) m cap) ((c0.drop off).take (m * sz)) m
  | emp {i : Nat} (hV : V i = some .emp) : Looks V sz (.slice (some ⟨i, 0, none⟩) 0 0) [] 0
  | ro {i off m cap : Nat} {c0 : List Value} (hV : V i = some (.ro c0)) (hz : 0 < sz) (hl : off + m * sz ≤ c0.length) (hc : m ≤ cap) : Looks V sz (.slice (some ⟨i, off, none⟩) m cap) ((c0.drop off).take (m * sz)) m

def lookSlot (ρ : Ren) (sz : Nat) : Value → Option Slot
  | .slice none _ _ => some nowhere
  | .slice (some ⟨i, off, none⟩) _ cap => (ρ i).bind fun s => match s.cap with
    | none => some ⟨s.blk, some (cap, sz), s.base + off⟩
    | some (k, z) => if z = 0 then some s else some ⟨s.blk, some (k - off / z, z), s.base + off⟩
  | _ => none

def inR (src : List Src) (ρ : Ren) : Ren := fun a => match src[a]? with
  | some (.own i) => ρ i
  | some (.look v _ sz) => lookSlot ρ sz v
  | none => none

def ownR (src : List Src) : Ren := fun a => match src[a]? with
  | some (.own i) => some ⟨i, none, 0⟩
  | _ => none

def oHeap : Nat → List VObj → List (Nat × VObj)
  | _, [] => []
  | k, o :: r => (k, o) :: oHeap (k + 1) r

theorem lkp_oHeap : ∀ {l : List VObj} {k i : Nat} {o : VObj}, lkp (oHeap k l) i = some o → k ≤ i ∧ l[i - k]? = some o
  | [], k, i, o, h => by cases h
  | c :: r, k, i, o, h => by
    simp only [oHeap, lkp] at h
    split at h
    · rename_i he; subst he; cases h; exact ⟨Nat.le_refl _, by simp⟩
    · obtain ⟨h1, h2⟩ := lkp_oHeap h
      exact ⟨by omega, by rw [show i - k = (i - (k + 1)) + 1 by omega, List.getElem?_cons_succ]; exact h2⟩

theorem ownR_some {src : List Src} {a : Nat} {s : Slot} (h : ownR src a = some s) : src[a]? = some (.own s.blk) ∧ s = ⟨s.blk, none, 0⟩ := by
  unfold ownR at h
  split at h
  · rename_i i hi; cases h; exact ⟨hi, rfl⟩
  · cases h
theorem ownR_of {src : List Src} {a i : Nat} (h : src[a]? = some (.own i)) : ownR src a = some ⟨i, none, 0⟩ := by unfold ownR; rw [h]
theorem ownR_plain (src : List Src) : Plain (ownR src) := fun j s h => by
  obtain ⟨_, h2⟩ := ownR_some h
  rw [h2]; exact .inr ⟨rfl, rfl⟩
theorem own_ext (src : List Src) (ρ : Ren) : Ext (compR (ownR src) ρ) (inR src ρ) := by
  intro a s h
  obtain ⟨u, hu, h2⟩ := Option.bind_eq_some_iff.1 h
  obtain ⟨h3, h4⟩ := ownR_some hu
  rw [h4] at h2
  unfold inR; rw [h3]; exact h2

/-- How an argument of the body's is the caller's. -/
inductive ARel (src : List Src) : Value → Value → Prop
  | val {x y : Value} (h : VRel (ownR src) x y) : ARel src x y
  | look {a m sz : Nat} {y : Value} (h : src[a]? = some (.look y m sz)) : ARel src (.slice (some ⟨a, 0, none⟩) m 0) y
  | agg {xs ys : Array Value} (h : xs.size = ys.size) (hh : ∀ (i : Nat) x y, xs[i]? = some x → ys[i]? = some y → ARel src x y) : ARel src (.agg xs) (.agg ys)

def AList (src : List Src) (xs ys : List Value) : Prop := xs.length = ys.length ∧ ∀ (i : Nat) x y, xs[i]? = some x → ys[i]? = some y → ARel src x y
theorem al_nil {src : List Src} : AList src [] [] := ⟨rfl, fun i x y h => by simp at h⟩
theorem al_cons {src : List Src} {x y : Value} {xs ys : List Value} (h : ARel src x y) (t : AList src xs ys) : AList src (x :: xs) (y :: ys) := by
  refine ⟨by simp [t.1], fun i a b h1 h2 => ?_⟩
  cases i with
  | zero => simp only [List.getElem?_cons_zero, Option.some.injEq] at h1 h2; subst h1; subst h2; exact h
  | succ i => exact t.2 i a b (by simpa using h1) (by simpa using h2)
theorem ar_agg {src : List Src} {xs ys : List Value} (h : AList src xs ys) : ARel src (.agg xs.toArray) (.agg ys.toArray) :=
  .agg (by simpa using h.1) fun i x y h1 h2 => h.2 i x y (by simpa using h1) (by simpa using h2)

/-- What is asked at a function's begin. -/
structure Enter (V : Heap) (src : List Src) (os : List VObj) : Prop where
  obj : ∀ (a : Nat) (o : VObj), os[a]? = some o → ∃ s, src[a]? = some s ∧ match s with
    | .own i => ∃ o1, V i = some o1 ∧ OV (ownR src) o o1
    | .look v m sz => ∃ c, o = .win c sz ∧ Looks V sz v c m ∧ Flat c
  len : src.length = os.length
  inj : ∀ (a b i : Nat), src[a]? = some (.own i) → src[b]? = some (.own i) → a = b
  apart : ∀ (a b i j m sz off n c : Nat) (o : VObj), src[a]? = some (.look (.slice (some ⟨i, off, none⟩) n c) m sz) → src[b]? = some (.own j) → V j = some o → o.fixed = false → i ≠ j

/-- How the names of a function's body are those of its contract at its end (σ, of the contract's names). -/
structure Fit (n k : Nat) (src : List Src) (os : List VObj) (σ : Ren) (L : List (Nat × Option VObj)) (s : St) : Prop where
  cap : Plain σ
  dom : ∀ j t, σ j = some t → (n ≤ j ∧ j < n + k) ∨ (t.gone = false ∧ src[t.blk]? = some (.own j))
  inj : ∀ i j t u, σ i = some t → σ j = some u → t.gone = false → u.gone = false → t.blk = u.blk → i = j
  obj : ∀ i o, lkp L i = some (some o) → o.fixed = false ∧ ∃ t, σ i = some t ∧ ((t.gone = true ∧ o.void = true) ∨ (t.gone = false ∧ ∃ o', s.heap t.blk = some o' ∧ OW σ o o'))
  all : ∀ (a : Nat) (o : VObj) (i : Nat), os[a]? = some o → o.fixed = false → src[a]? = some (.own i) → lkp L i ≠ none

/-- What is to be shown at a function's end. -/
def Ends (τ : Nat → Option TI) (fn : Func) (n k : Nat) (src : List Src) (os : List VObj) (R : Value → List (Nat × Option VObj) → Prop) (e : Exit) (s : St) : Prop :=
  (e = .normal ∨ e = .ret) ∧ ∃ v L σ vr, R v L ∧ evResults τ s fn.results.toList = some vr ∧ VRel σ v vr ∧ Fit n k src os σ L s

section
variable {P : Program} {τ : Nat → Option TI} {m g : Nat}

theorem evResults_ok (hτ : Tab P τ) {ρ : Ren} {s : St} {a : Act} {w : World} (hr : Rel m g ρ s a w) {fn : Func} {v : Value} (h : evResults τ s fn.results.toList = some v) :
    ∃ v', (results fn a.tmps).run P w = .ok v' w ∧ VRel ρ v v' := by
  let one : ResultVar → Option Value := fun
    | .tmp t => lkp s.env t
    | .cell a t => (lkp s.env a).bind (evLoad τ s.heap t)
  let run1 : ResultVar → Sem Value := fun
    | .tmp t => pure (a.tmps.getD t undef)
    | .cell p t => do loadVar t (← asAddr (a.tmps.getD p undef))
  have h1 : ∀ r u, one r = some u → ∃ v', (run1 r).run P w = .ok v' w ∧ VRel ρ u v' := by
    intro r u hu
    cases r with
    | tmp t =>
      obtain ⟨v', h1, h2⟩ := hr.env t u hu
      exact ⟨v', by simp [run1, h1], h2⟩
    | cell p t =>
      simp only [one, Option.bind_eq_some_iff] at hu
      obtain ⟨x, hx, hl⟩ := hu
      obtain ⟨x', h1, h2⟩ := hr.env p x hx
      obtain ⟨v', h3, h4⟩ := evLoad_ok hτ.ok hr.sim h2 hl
      refine ⟨v', ?_, h4⟩
      have : ∃ ad, x' = .pointer (some ad) := by
        unfold evLoad at hl
        split at hl
        · cases h2 with | ptr => exact ⟨_, rfl⟩
        · cases hl
      obtain ⟨ad, rfl⟩ := this
      simp only [Instr.loadAt, Instr.sureAddr, Sem.run_bind, Sem.run_pure, Result.andThen_ok] at h3
      simp only [run1, Array.getD_eq_getD_getElem?, h1, Option.getD_some, asAddr, Sem.run_bind, Sem.run_pure, Result.andThen_ok]
      exact h3
  have hmap : ∀ (rs : List ResultVar) vs, rs.foldr (fun r acc => match one r, acc with | some v, some vs => some (v :: vs) | _, _ => none) (some []) = some vs →
      ∃ vs', (rs.mapM run1).run P w = .ok vs' w ∧ LRel ρ vs vs' := by
    intro rs
    induction rs with
    | nil => intro vs h; cases h; exact ⟨[], rfl, lrel_nil⟩
    | cons r rs ih =>
      intro vs h
      simp only [List.foldr_cons] at h
      split at h
      case h_2 => cases h
      rename_i v vs' hv hvs
      cases h
      obtain ⟨v', hv1, hv2⟩ := h1 r v hv
      obtain ⟨w', hw1, hw2⟩ := ih vs' hvs
      exact ⟨v' :: w', by simp only [List.mapM_cons, Sem.run_bind, hv1, Result.andThen_ok, hw1, Sem.run_pure], lrel_cons hv2 hw2⟩
  have hres : results fn a.tmps = (do
      let vs ← fn.results.mapM run1
      pure (if h : vs.size = 1 then vs[0] else .tuple vs)) := rfl
  have hrun : ∀ l, (fn.results.toList.mapM run1).run P w = .ok l w → (fn.results.mapM run1).run P w = .ok l.toArray w := by
    intro l hl
    rw [Array.mapM_eq_mapM_toList, Sem.run_map, hl]; rfl
  rw [hres, Sem.run_bind]
  have hone : ∀ r, fn.results.toList = [r] → one r = some v → ∃ v', ((fn.results.mapM run1).run P w).andThen (fun vs w' => (pure (if h : vs.size = 1 then vs[0] else .tuple vs) : Sem Value).run P w') = .ok v' w ∧ VRel ρ v v' := by
    intro r hrs hv
    obtain ⟨v', hv1, hv2⟩ := h1 r v hv
    rw [hrun [v'] (by rw [hrs]; simp only [List.mapM_cons, List.mapM_nil, Sem.run_bind, hv1, Result.andThen_ok, Sem.run_pure])]
    exact ⟨v', by simp, hv2⟩
  unfold evResults at h
  split at h
  · rename_i r hrs
    exact hone r hrs h
  · rename_i hne
    simp only [Option.map_eq_some_iff] at h
    obtain ⟨vs, hvs, rfl⟩ := h
    obtain ⟨vs', hv1, hv2⟩ := hmap _ vs hvs
    rw [hrun vs' hv1]
    refine ⟨.tuple vs'.toArray, ?_, vrel_tuple hv2⟩
    have hlen : vs'.length ≠ 1 := by
      intro hl
      have h2 : vs.length = 1 := hv2.1.trans hl
      have h3 : ∀ (rs : List ResultVar) us, rs.foldr (fun r acc => match one r, acc with | some v, some vs => some (v :: vs) | _, _ => none) (some []) = some us → us.length = rs.length := by
        intro rs
        induction rs with
        | nil => intro us h; cases h; rfl
        | cons r rs ih =>
          intro us h
          simp only [List.foldr_cons] at h
          split at h
          · cases h; simp [ih _ ‹_›]
          · cases h
      have h4 := h3 _ _ hvs
      rw [h2] at h4
      obtain ⟨r, hr1⟩ := List.length_eq_one_iff.1 h4.symm
      exact hne r hr1
    simp [hlen]

theorem void_opn {c : List Value} {e : TypeId} {sz : Nat} (h : (VObj.opn c e sz).void = true) : c = [] := by cases c with
  | nil => rfl
  | cons => cases h
theorem void_win {c : List Value} {sz : Nat} (h : (VObj.win c sz).void = true) : c = [] := by cases c with
  | nil => rfl
  | cons => cases h

/-- A look, in the world. -/
theorem look_in {V : Heap} {ρ : Ren} {w : World} {src : List Src} {a m sz : Nat} {v v' : Value} {c : List Value} (hs : Sim ρ V w) (ha : src[a]? = some (.look v m sz)) (hl : Looks V sz v c m) (hf : Flat c) (hv : VRel ρ v v') :
    VRel (inR src ρ) (.slice (some ⟨a, 0, none⟩) m 0) v' ∧ ∃ s, inR src ρ a = some s ∧ At (inR src ρ) w s (.win c sz) ∧ (s.gone = false → ∃ i off n cc t, v = .slice (some ⟨i, off, none⟩) n cc ∧ ρ i = some t ∧ t.gone = false ∧ s.blk = t.blk ∧ ∃ o, V i = some o) := by
  have hin : inR src ρ a = lookSlot ρ sz v := by unfold inR; rw [ha]
  -- an open one's window
  have open_ : ∀ {i off : Nat} {c0 : List Value} {o : VObj}, v = .slice (some ⟨i, off, none⟩) m 0 → c = (c0.drop off).take (m * sz) → V i = some o → 0 < sz → off + m * sz ≤ c0.length →
      (∀ s, s.gone = false → ∀ o', ORel ρ s o o' → ∃ k, s.cap = some (k, sz) ∧ ∃ c' e fr, o' = .cells c' e fr ∧ LRel ρ c0 ((c'.toList.drop s.base).take c0.length)) → (o.void = true → c0 = []) → _ := fun {i off c0 o} hve hce hV hz hlen horel hvoid =>
    (show VRel (inR src ρ) (.slice (some ⟨a, 0, none⟩) m 0) v' ∧ ∃ s, inR src ρ a = some s ∧ At (inR src ρ) w s (.win c sz) ∧ (s.gone = false → ∃ i off n cc t, v = .slice (some ⟨i, off, none⟩) n cc ∧ ρ i = some t ∧ t.gone = false ∧ s.blk = t.blk ∧ ∃ o, V i = some o) by
      subst hve
      obtain ⟨s, hi, hat⟩ := hs.has i o hV
      rcases hat with ⟨hg, hvd, _⟩ | ⟨hg, o', hw, hor⟩
      · have hc0 := hvoid hvd
        subst hc0
        simp only [List.length_nil, Nat.le_zero_eq, Nat.add_eq_zero_iff, Nat.mul_eq_zero] at hlen
        have hm : m = 0 := by omega
        obtain rfl : off = 0 := hlen.1
        subst hm
        have hc' : c = [] := by rw [hce]; simp
        have hslot : lookSlot ρ sz (.slice (some ⟨i, 0, none⟩) 0 0) = some s := by
          simp only [lookSlot, hi, Option.bind_some]
          unfold Slot.gone at hg
          split at hg
          · rename_i he; rw [he]; simp
          · cases hg
        rw [hslot] at hin
        refine ⟨?_, s, hin, .inl ⟨hg, by rw [hc']; rfl, .inl rfl⟩, fun h => by rw [hg] at h; cases h⟩
        cases hv with
        | slice h1 h2 => rw [hi] at h1; cases h1; rw [gone_none h2] at hg; cases hg
        | oslice h1 h2 h3 => rw [hi] at h1; cases h1; rw [gone_pos h2 h3] at hg; cases hg
        | ghost h1 h2 => rw [hi] at h1; cases h1; exact .ghost hin h2
        | hollow h1 h2 => rw [hi] at h1; cases h1; exact .hollow hin h2
      · obtain ⟨k, hcap, c', e, fr, rfl, hwin⟩ := horel s hg o' hor
        cases hv with
        | slice h1 h2 => rw [hi] at h1; cases h1; rw [hcap] at h2; cases h2
        | ghost h1 h2 => rw [hi] at h1; cases h1; rw [gone_zero h2] at hg; cases hg
        | hollow h1 h2 => rw [hi] at h1; cases h1; rw [gone_zero h2] at hg; cases hg
        | oslice h1 h2 h3 h4 h5 =>
          rename_i e1 k1 z1 s1
          rw [hi] at h1; cases h1
          rw [hcap] at h2; cases h2
          have hdiv : off / sz = e1 := by rw [← h4]; exact Nat.mul_div_cancel _ h3
          have hslot : lookSlot ρ sz (.slice (some ⟨i, off, none⟩) m 0) = some ⟨s.blk, some (k - e1, sz), s.base + off⟩ := by
            simp only [lookSlot, hi, Option.bind_some, hcap]
            rw [if_neg (by omega), hdiv]
          rw [hslot] at hin
          have hgo : (⟨s.blk, some (k - e1, sz), s.base + off⟩ : Slot).gone = false := gone_pos rfl hz
          refine ⟨?_, _, hin, .inr ⟨hgo, _, hw, ?_⟩, fun _ => ⟨i, off, m, 0, s, rfl, hi, hg, rfl, o, hV⟩⟩
          · have := VRel.oslice (i := a) (off := 0) (n := m) (e := 0) hin rfl hz (by simp) (by omega)
            simpa using this
          · refine .win e fr rfl hz ?_
            have hl2 := lrel_take (lrel_drop hwin off) (m * sz)
            rw [← hce] at hl2
            have hsame := hf.same hl2
            have hcl : c.length = m * sz := by rw [hce]; simp only [List.length_take, List.length_drop]; omega
            have : (c'.toList.drop (s.base + off)).take c.length = c := by
              rw [hcl]
              refine Eq.trans ?_ hsame
              rw [List.drop_take, List.drop_drop, List.take_take]
              congr 1; omega
            rw [this]; exact hf.rel)
  -- one whose capacity is told
  have plain_ : ∀ {i off cap : Nat} {c0 : List Value} {o : VObj}, v = .slice (some ⟨i, off, none⟩) m cap → c = (c0.drop off).take (m * sz) → V i = some o → 0 < sz → off + m * sz ≤ c0.length → m ≤ cap → o.void = false →
      (∀ s, ∀ o', ORel ρ s o o' → s.cap = none ∧ ∃ c' e fr, o' = .cells c' e fr ∧ LRel ρ c0 ((c'.toList.drop s.base).take c0.length)) → _ := fun {i off cap c0 o} hve hce hV hz hlen hmc hvd horel =>
    (show VRel (inR src ρ) (.slice (some ⟨a, 0, none⟩) m 0) v' ∧ ∃ s, inR src ρ a = some s ∧ At (inR src ρ) w s (.win c sz) ∧ (s.gone = false → ∃ i off n cc t, v = .slice (some ⟨i, off, none⟩) n cc ∧ ρ i = some t ∧ t.gone = false ∧ s.blk = t.blk ∧ ∃ o, V i = some o) by
      subst hve
      obtain ⟨s, o', hi, hg, hw, hor⟩ := hs.real hV hvd
      obtain ⟨hcap, c', e, fr, rfl, hwin⟩ := horel s o' hor
      cases hv with
      | oslice h1 h2 h3 => rw [hi] at h1; cases h1; rw [hcap] at h2; cases h2
      | ghost h1 h2 => rw [hi] at h1; cases h1; rw [hcap] at h2; cases h2
      | hollow h1 h2 => rw [hi] at h1; cases h1; rw [hcap] at h2; cases h2
      | slice h1 h2 =>
        rw [hi] at h1; cases h1
        have hslot : lookSlot ρ sz (.slice (some ⟨i, off, none⟩) m cap) = some ⟨s.blk, some (cap, sz), s.base + off⟩ := by
          simp only [lookSlot, hi, Option.bind_some, hcap]
        rw [hslot] at hin
        have hgo : (⟨s.blk, some (cap, sz), s.base + off⟩ : Slot).gone = false := gone_pos rfl hz
        refine ⟨?_, _, hin, .inr ⟨hgo, _, hw, ?_⟩, fun _ => ⟨i, off, m, cap, s, rfl, hi, hg, rfl, o, hV⟩⟩
        · have := VRel.oslice (i := a) (off := 0) (n := m) (e := 0) hin rfl hz (by simp) (by omega)
          simpa using this
        · refine .win e fr rfl hz ?_
          have hl2 := lrel_take (lrel_drop hwin off) (m * sz)
          rw [← hce] at hl2
          have hsame := hf.same hl2
          have hcl : c.length = m * sz := by rw [hce]; simp only [List.length_take, List.length_drop]; omega
          have : (c'.toList.drop (s.base + off)).take c.length = c := by
            rw [hcl]
            refine Eq.trans ?_ hsame
            rw [List.drop_take, List.drop_drop, List.take_take]
            congr 1; omega
          rw [this]; exact hf.rel)
  cases hl with
  | nil =>
    cases hv
    have hslot : lookSlot ρ sz (.slice none 0 0) = some nowhere := rfl
    rw [hslot] at hin
    exact ⟨.ghost hin rfl, nowhere, hin, .inl ⟨rfl, rfl, .inl rfl⟩, fun h => by cases h⟩
  | opn hV hz hlen =>
    refine open_ rfl rfl hV hz hlen (fun s hg o' hor => ?_) (fun h => ?_)
    · cases hor with
      | opn _ hcap hb hl hcc hk hz' fr hfr =>
        rename_i c1 c2 c' k
        refine ⟨k, hcap, c', _, fr, rfl, ?_⟩
        rw [hb, List.drop_zero, hcc, hl.1, List.take_left']
        · exact hl
        · rfl
    · exact void_opn h
  | win hV hz hlen =>
    refine open_ rfl rfl hV hz hlen (fun s hg o' hor => ?_) (fun h => ?_)
    · cases hor with
      | win e fr hcap hz' hl => exact ⟨_, hcap, _, e, fr, rfl, hl⟩
    · exact void_win h
  | cells hV hz hlen hc =>
    refine plain_ rfl rfl hV hz hlen hc rfl fun s o' hor => ?_
    cases hor with
    | cells e fr hcap hb hl =>
      refine ⟨hcap, _, _, _, rfl, ?_⟩
      rw [hb, List.drop_zero, hl.1, List.take_length]
      exact hl
  | emp hV =>
    rename_i i
    obtain ⟨s, hi, hat⟩ := hs.has i _ hV
    have hg := hat.emp rfl
    have hslot : lookSlot ρ sz (.slice (some ⟨i, 0, none⟩) 0 0) = some s := by
      simp only [lookSlot, hi, Option.bind_some]
      have hg' := hg
      unfold Slot.gone at hg'
      split at hg'
      · rename_i he; rw [he]; simp
      · cases hg'
    rw [hslot] at hin
    refine ⟨?_, s, hin, .inl ⟨hg, rfl, .inl rfl⟩, fun h => by rw [hg] at h; cases h⟩
    cases hv with
    | slice h1 h2 => rw [hi] at h1; cases h1; rw [gone_none h2] at hg; cases hg
    | oslice h1 h2 h3 => rw [hi] at h1; cases h1; rw [gone_pos h2 h3] at hg; cases hg
    | ghost h1 h2 => rw [hi] at h1; cases h1; exact .ghost hin h2
    | hollow h1 h2 => rw [hi] at h1; cases h1; exact .hollow hin h2
  | ro hV hz hlen hc =>
    refine plain_ rfl rfl hV hz hlen hc rfl fun s o' hor => ?_
    cases hor with
    | ro e fr hcap hl => exact ⟨hcap, _, e, fr, rfl, hl⟩

theorem arg_in {V : Heap} {ρ : Ren} {w : World} {src : List Src} {os : List VObj} (he : Enter V src os) (hs : Sim ρ V w) {x y : Value} (h : ARel src x y) : ∀ {y' : Value}, VRel ρ y y' → VRel (inR src ρ) x y' := by
  induction h with
  | val h => exact fun hy => (h.comp (ownR_plain src) hy).mono (own_ext src ρ)
  | look h =>
    intro y' hy
    rename_i a m sz y
    have hlt : a < os.length := he.len ▸ (List.getElem?_eq_some_iff.1 h).1
    obtain ⟨s, h1, h2⟩ := he.obj a os[a] (by simp [hlt])
    rw [h] at h1; cases h1
    obtain ⟨c, _, h3, h4⟩ := h2
    exact (look_in hs h h3 h4 hy).1
  | agg h1 hh ih =>
    intro y' hy
    cases hy with
    | agg h3 h4 =>
      refine .agg (h1.trans h3) fun i v v' hv hv' => ?_
      rename_i xs ys c'
      have hi : i < ys.size := by have := (Array.getElem?_eq_some_iff.1 hv).1; omega
      exact ih i v ys[i] hv (by simp [hi]) (h4 i ys[i] v' (by simp [hi]) hv')

theorem sim_in {V : Heap} {ρ : Ren} {w : World} {src : List Src} {os : List VObj} (he : Enter V src os) (hs : Sim ρ V w) (hv : ∀ (a : Nat) (v : Value) (m sz : Nat), src[a]? = some (Src.look v m sz) → ∃ v', VRel ρ v v') : Sim (inR src ρ) (lkp (oHeap 0 os)) w := by
  have hobj : ∀ a o, lkp (oHeap 0 os) a = some o → ∃ s, inR src ρ a = some s ∧ At (inR src ρ) w s o ∧
      ((∃ (i : Nat) (o1 : VObj), src[a]? = some (Src.own i) ∧ V i = some o1 ∧ o1.fixed = o.fixed ∧ ρ i = some s) ∨ (o.fixed = true ∧ (s.gone = false → ∃ (i off n cc : Nat) (t : Slot) (m sz : Nat) (o1 : VObj), src[a]? = some (Src.look (.slice (some ⟨i, off, none⟩) n cc) m sz) ∧ V i = some o1 ∧ ρ i = some t ∧ t.gone = false ∧ s.blk = t.blk))) := by
    intro a o h
    obtain ⟨_, h2⟩ := lkp_oHeap h
    rw [Nat.sub_zero] at h2
    obtain ⟨sr, h3, h4⟩ := he.obj a o h2
    cases sr with
    | own i =>
      obtain ⟨o1, h5, h6⟩ := h4
      obtain ⟨s, h7, h8⟩ := hs.has i o1 h5
      have hin : inR src ρ a = some s := by unfold inR; rw [h3]; exact h7
      refine ⟨s, hin, ?_, .inl ⟨i, o1, h3, h5, h6.fixed, h7⟩⟩
      rcases h8 with ⟨h8, h9, h11⟩ | ⟨h8, o', h9, h10⟩
      · exact .inl ⟨h8, h6.void ▸ h9, h6.fixed ▸ h11⟩
      · exact .inr ⟨h8, o', h9, (h6.comp (ownR_plain src) h10).mono (own_ext src ρ)⟩
    | look v m sz =>
      obtain ⟨c, rfl, h5, h6⟩ := h4
      obtain ⟨v', hv'⟩ := hv a v m sz h3
      obtain ⟨_, s, h7, h8, h9⟩ := look_in hs h3 h5 h6 hv'
      refine ⟨s, h7, h8, .inr ⟨rfl, fun hg => ?_⟩⟩
      obtain ⟨i, off, n, cc, t, g1, g2, g3, g4, o1, g5⟩ := h9 hg
      exact ⟨i, off, n, cc, t, m, sz, o1, by rw [h3, g1], g5, g2, g3, g4⟩
  constructor
  · intro a o h
    obtain ⟨s, h1, h2, _⟩ := hobj a o h
    exact ⟨s, h1, h2⟩
  · intro a b o p s t hab ha hb hs1 ht1 hsg htg hfx
    obtain ⟨s', h1, _, h2⟩ := hobj a o ha
    rw [hs1] at h1; cases h1
    obtain ⟨t', k1, _, k2⟩ := hobj b p hb
    rw [ht1] at k1; cases k1
    rcases h2 with ⟨i, o1, p1, p2, p3, p4⟩ | ⟨p1, p2⟩ <;> rcases k2 with ⟨j, o2, q1, q2, q3, q4⟩ | ⟨q1, q2⟩
    · exact hs.apart i j o1 o2 s t (fun e => hab (he.inj a b j (e ▸ p1) q1)) p2 q2 p4 q4 hsg htg (by rw [p3, q3]; exact hfx)
    · obtain ⟨j, off, n, cc, u, m, sz, o2, g1, g2, g3, g4, g5⟩ := q2 htg
      rw [q1, Bool.and_true] at hfx
      have hne := he.apart b a j i m sz off n cc o1 g1 p1 p2 (p3.trans hfx)
      rw [g5]
      exact hs.apart i j o1 o2 s u (Ne.symm hne) p2 g2 p4 g3 hsg g4 (by rw [p3, hfx]; rfl)
    · obtain ⟨i, off, n, cc, u, m, sz, o1, g1, g2, g3, g4, g5⟩ := p2 hsg
      rw [p1, Bool.true_and] at hfx
      have hne := he.apart a b i j m sz off n cc o2 g1 q1 q2 (q3.trans hfx)
      rw [g5]
      exact hs.apart i j o1 o2 u t hne g2 q2 g3 q4 g4 htg (by rw [q3, hfx, Bool.and_false])
    · rw [p1, q1] at hfx; cases hfx
  · refine hs.base.sub ?_
    rintro b ⟨a, o, s, ha, hof, hs1, hsg, hb⟩
    obtain ⟨s', h1, _, h2⟩ := hobj a o ha
    rw [hs1] at h1; cases h1
    rcases h2 with ⟨i, o1, p1, p2, p3, p4⟩ | ⟨p1, p2⟩
    · exact ⟨i, o1, s, p2, p3.trans hof, p4, hsg, hb⟩
    · rw [p1] at hof; cases hof

/-- Slices that are looked at lie among the arguments. -/
def Seen (V : Heap) (args : List Value) (v : Value) : Prop := ∀ ρ w args', Sim ρ V w → LRel ρ args args' → ∃ v', VRel ρ v v'
theorem seen_top {V : Heap} {args : List Value} {v : Value} {j : Nat} (h : args[j]? = some v) : Seen V args v := fun ρ w args' _ ha => let ⟨v', _, h2⟩ := lrel_get ha h; ⟨v', h2⟩
theorem seen_agg {V : Heap} {args : List Value} {v : Value} {xs : Array Value} {j i : Nat} (h : args[j]? = some (.agg xs)) (hi : xs.toList[i]? = some v) : Seen V args v := fun ρ w args' _ ha => by
  obtain ⟨v', _, h2⟩ := lrel_get ha h
  obtain ⟨c', _, h3⟩ := vrel_agg_inv h2
  obtain ⟨u, _, h4⟩ := lrel_get h3 hi
  exact ⟨u, h4⟩

theorem tri_of_vw (hτ : Tab P τ) {F : FuncId} {fn : Func} {c : Code} {args argsI : List Value} {n k : Nat} {V : Heap} {R : Value → List (Nat × Option VObj) → Prop} (hf : P.funcs[F]? = some fn) (hb : fn.body = some c) (hm : fn.ntmps = m)
    (hlen : argsI.length ≤ m) (p : Nat) (src : List Src) (os : List VObj) (hp : os.length = p) (he : Enter V src os) (ha : AList src argsI args) (hlook : ∀ (a : Nat) (v : Value) (m sz : Nat), src[a]? = some (Src.look v m sz) → Seen V args v)
    (h : VW P m p c (Ends τ fn n k src os R) ⟨argEnv 0 argsI, lkp (oHeap 0 os), p⟩) : Tri P F args n k V R := by
  intro ρ w args' hfree hs hargs
  have hla := hargs.1
  have hla2 := ha.1
  let ρ0 := inR src ρ
  have hsim0 : Sim ρ0 (lkp (oHeap 0 os)) w := sim_in he hs fun a v m sz h => hlook a v m sz h ρ w args' hs hargs
  have hblk : ∀ b, Blks ρ0 (lkp (oHeap 0 os)) b → ∃ (a : Nat) (o : VObj) (i : Nat) (o1 : VObj) (s : Slot), os[a]? = some o ∧ o.fixed = false ∧ src[a]? = some (Src.own i) ∧ V i = some o1 ∧ o1.fixed = false ∧ ρ i = some s ∧ s.gone = false ∧ s.blk = b := by
    rintro b ⟨a, o, s, h1, hfx, h2, hg, h3⟩
    obtain ⟨_, h4⟩ := lkp_oHeap h1
    rw [Nat.sub_zero] at h4
    obtain ⟨sr, h5, h6⟩ := he.obj a o h4
    cases sr with
    | own i =>
      obtain ⟨o1, h7, h8⟩ := h6
      have h2' : ρ i = some s := by simpa [ρ0, inR, h5] using h2
      exact ⟨a, o, i, o1, s, h4, hfx, h5, h7, h8.fixed.trans hfx, h2', hg, h3⟩
    | look v m sz => obtain ⟨c, rfl, _⟩ := h6; cases hfx
  have hrel : Rel m p ρ0 ⟨argEnv 0 argsI, lkp (oHeap 0 os), p⟩ { tmps := args'.toArray ++ Array.replicate (fn.ntmps - args'.toArray.size) undef, defers := [] } w := by
    refine ⟨?_, Nat.le_refl _, hsim0, ?_, ?_, rfl⟩
    · intro i hi
      simp only at hi
      have : src[i]? = none := List.getElem?_eq_none (by rw [he.len]; omega)
      simp [ρ0, inR, this]
    · intro t v ht
      obtain ⟨_, h2⟩ := lkp_argEnv argsI 0 t v ht
      simp only [Nat.sub_zero] at h2
      have ht1 : t < args.length := by have := (List.getElem?_eq_some_iff.1 h2).1; omega
      have hA := ha.2 t v args[t] h2 (by simp [ht1])
      have ht2 : t < args'.length := by omega
      have h3 := arg_in he hs hA (hargs.2 t args[t] args'[t] (by simp [ht1]) (by simp [ht2]))
      refine ⟨args'[t], ?_, h3⟩
      rw [Array.getElem?_append_left (by simpa using ht2)]
      simp [ht2]
    · simp only [Array.size_append, List.size_toArray, Array.size_replicate]; omega
  refine calls_of_wp hf hb (wp_mono (h ρ0 _ w hrel) ?_)
  rintro e a1 w1 ⟨s1, ρ1, ⟨hex, v, L, σ, vr, hR, hres, hvr, hfit⟩, hr1, hk, hg⟩
  obtain ⟨v', hrun, hv'⟩ := evResults_ok hτ hr1 hres
  have hend : a1.defers = [] ∧ ∃ v, (results fn a1.tmps).run P w1 = .ok v w1 ∧ (fun (e : Ending) w' => ∃ v L v' ρ', R v L ∧ e = .returned v' ∧ VRel ρ' v v' ∧ Sim ρ' (over V L) w' ∧ Keep ρ V w ρ' (over V L) w' ∧ ∀ i, ¬ (n ≤ i ∧ i < n + k) → ρ' i = ρ i) (.returned v) w1 := by
    refine ⟨hr1.defers, v', hrun, ?_⟩
    let ρ' : Ren := fun i => if n ≤ i ∧ i < n + k then compR σ ρ1 i else ρ i
    have hext : Ext (compR σ ρ1) ρ' := by
      intro i t ht
      simp only [ρ']
      split
      · exact ht
      · rename_i hno
        obtain ⟨u, hu, ht'⟩ := Option.bind_eq_some_iff.1 ht
        rcases hfit.dom i u hu with hd | ⟨hug, hsrc⟩
        · exact (hno hd).elim
        · rw [hug] at ht'
          simp only [Bool.false_eq_true, if_false] at ht'
          have hlt : u.blk < p := by rw [← hp, ← he.len]; exact (List.getElem?_eq_some_iff.1 hsrc).1
          rw [hg _ hlt] at ht'
          simpa [ρ0, inR, hsrc] using ht'
    have hext2 : Ext ρ ρ' := by
      intro i t ht
      simp only [ρ']
      split
      · rename_i hin; rw [hfree i hin.1 hin.2] at ht; cases ht
      · exact ht
    -- of a name that was turned
    have hL : ∀ i o, lkp L i = some (some o) → o.fixed = false ∧ ∃ s, ρ' i = some s ∧ At ρ' w1 s o ∧ (s.gone = false → ∃ u o1, u.gone = false ∧ σ i = some u ∧ s1.heap u.blk = some o1 ∧ o1.fixed = false ∧ ρ1 u.blk = some s) := by
      intro i o hi
      obtain ⟨hof, u, h1, h2⟩ := hfit.obj i o hi
      refine ⟨hof, ?_⟩
      rcases h2 with ⟨hug, hvd⟩ | ⟨hug, o1, h3, h4⟩
      · exact ⟨u, hext _ _ (comp_gone h1 hug), .inl ⟨hug, hvd, .inr (hfit.cap.thin h1 hug)⟩, fun h => by rw [hug] at h; cases h⟩
      · obtain ⟨s, h5, h6⟩ := hr1.sim.has _ _ h3
        refine ⟨s, hext _ _ (by rw [comp_real h1 hug]; exact h5), ?_, fun _ => ⟨u, o1, hug, h1, h3, h4.fixed.trans hof, h5⟩⟩
        rcases h6 with ⟨h6, h7, h9⟩ | ⟨h6, o', h7, h8⟩
        · exact .inl ⟨h6, h4.void h7, h4.fixed ▸ h9⟩
        · exact .inr ⟨h6, o', h7, (h4.comp hfit.cap h8).mono hext⟩
    -- of one that was not
    have hN : ∀ i o, lkp L i = none → V i = some o → ∃ s, ρ i = some s ∧ ρ' i = some s ∧ At ρ' w1 s o ∧ (s.gone = false → s.blk < w.heap.size ∧ ¬ Blks ρ0 (lkp (oHeap 0 os)) s.blk) := by
      intro i o hi hV
      obtain ⟨s, h1, h2⟩ := hs.has i o hV
      have hlt : s.gone = false → s.blk < w.heap.size ∧ ¬ Blks ρ0 (lkp (oHeap 0 os)) s.blk := by
        intro hsg
        obtain ⟨_, h3, _⟩ := hs.at_ hV h1 hsg
        refine ⟨(Array.getElem?_eq_some_iff.1 h3).1, fun hb => ?_⟩
        obtain ⟨a, q, j, o1, t, g1, gf, g2, g3, gf1, g4, g5, g6⟩ := hblk _ hb
        have hij : i ≠ j := by rintro rfl; exact hfit.all a q i g1 gf g2 hi
        exact hs.apart i j _ _ _ _ hij hV g3 h1 g4 hsg g5 (by simp [gf1]) g6.symm
      exact ⟨s, h1, hext2 _ _ h1, h2.mono hext2 fun hsg => hk.block _ (hlt hsg).1 (hlt hsg).2, hlt⟩
    have hcase : ∀ i o, over V L i = some o → lkp L i = some (some o) ∨ (lkp L i = none ∧ V i = some o) := by
      intro i o hi
      unfold over at hi
      cases hx : lkp L i with
      | none => rw [hx] at hi; exact .inr ⟨rfl, hi⟩
      | some y => rw [hx] at hi; exact .inl (by rw [← hi]; rfl)
    have hnew : ∀ i o s, lkp L i = some (some o) → ρ' i = some s → s.gone = false → Blks ρ1 s1.heap s.blk := by
      intro i o s hi hs' hsg
      obtain ⟨_, t, h1, _, h2⟩ := hL i o hi
      rw [h1] at hs'; cases hs'
      obtain ⟨u, o1, g1, g2, g3, g4, g5⟩ := h2 hsg
      exact ⟨u.blk, o1, _, g3, g4, g5, hsg, rfl⟩
    have hkeep : Keep ρ V w ρ' (over V L) w1 := by
      refine ⟨hk.os, hk.tape, hk.output, hk.size, ?_, ?_⟩
      · intro b hb hn
        refine hk.block b hb fun hx => ?_
        obtain ⟨a, o, i, o1, s, _, _, _, g2, gf, g3, gg, g4⟩ := hblk b hx
        exact hn ⟨i, o1, s, g2, gf, g3, gg, g4⟩
      · rintro b ⟨i, o, s, hi, hof, hs', hsg, rfl⟩
        rcases hcase i o hi with h1 | ⟨h1, h2⟩
        · rcases hk.new _ (hnew i o s h1 hs' hsg) with hb | hb
          · obtain ⟨a, o, j, o1, t, _, _, _, g2, gf, g3, gg, g4⟩ := hblk _ hb
            exact .inl ⟨j, o1, t, g2, gf, g3, gg, g4⟩
          · exact .inr hb
        · obtain ⟨s2, a1, a2, _⟩ := hN i o h1 h2
          rw [a2] at hs'; cases hs'
          exact .inl ⟨i, o, _, h2, hof, a1, hsg, rfl⟩
    refine ⟨v, L, v', ρ', hR, rfl, (hvr.comp hfit.cap hv').mono hext, ⟨?_, ?_, hs.base.keep hkeep⟩, hkeep, ?_⟩
    · intro i o hi
      rcases hcase i o hi with h1 | ⟨h1, h2⟩
      · obtain ⟨_, s, h5, h6, _⟩ := hL i o h1
        exact ⟨s, h5, h6⟩
      · obtain ⟨s, _, h4, h5, _⟩ := hN i o h1 h2
        exact ⟨s, h4, h5⟩
    · have mixed : ∀ i j o p s t, lkp L i = some (some o) → lkp L j = none → V j = some p → ρ' i = some s → ρ' j = some t → s.gone = false → t.gone = false → s.blk ≠ t.blk := by
        intro i j o p s t hi hj hj' hs' ht' hsg htg heq
        obtain ⟨t2, g1, g2, _, g3⟩ := hN j p hj hj'
        rw [g2] at ht'; cases ht'
        obtain ⟨g4, g5⟩ := g3 htg
        rcases hk.new _ (hnew i o s hi hs' hsg) with hb | hb
        · rw [heq] at hb; exact g5 hb
        · omega
      intro i j o q s t hij hi hj hs' ht' hsg htg hfx
      rcases hcase i o hi with h1 | ⟨h1, h2⟩ <;> rcases hcase j q hj with k1 | ⟨k1, k2⟩
      · obtain ⟨_, s2, a1, _, a2⟩ := hL i o h1
        rw [a1] at hs'; cases hs'
        obtain ⟨u, o1, a3, a4, a5, a6, a7⟩ := a2 hsg
        obtain ⟨_, t2, b1, _, b2⟩ := hL j q k1
        rw [b1] at ht'; cases ht'
        obtain ⟨u', p1, b3, b4, b5, b6, b7⟩ := b2 htg
        exact hr1.sim.apart u.blk u'.blk _ _ _ _ (fun e => hij (hfit.inj i j u u' a4 b4 a3 b3 e)) a5 b5 a7 b7 hsg htg (by simp [a6])
      · exact mixed i j o q s t h1 k1 k2 hs' ht' hsg htg
      · exact (mixed j i q o t s k1 h1 h2 ht' hs' htg hsg).symm
      · obtain ⟨s2, a1, a2, _⟩ := hN i o h1 h2
        obtain ⟨t2, b1, b2, _⟩ := hN j q k1 k2
        rw [a2] at hs'; cases hs'
        rw [b2] at ht'; cases ht'
        exact hs.apart i j _ _ _ _ hij h2 k2 a1 b1 hsg htg hfx
    · intro i hi
      simp only [ρ']
      rw [if_neg hi]
  rcases hex with rfl | rfl
  · exact hend
  · exact hend

/-- A function of plain values: no name goes in or comes out. -/
def Fun (P : Program) (F : FuncId) (args : List Value) (v : Value) : Prop := ∀ n V, Tri P F args n 0 V (fun u L => u = v ∧ L = [])

/-- The names of none. -/
def no : Ren := fun _ => none

theorem fun_of_vw (hτ : Tab P τ) {F : FuncId} {fn : Func} {c : Code} {args : List Value} {v : Value} (hf : P.funcs[F]? = some fn) (hb : fn.body = some c) (hm : fn.ntmps = m) (hlen : args.length ≤ m)
    (ha : LRel no args args) (hv : VRel no v v) (h : VW P m 0 c (fun e s => (e = .normal ∨ e = .ret) ∧ evResults τ s fn.results.toList = some v) ⟨argEnv 0 args, fun _ => none, 0⟩) : Fun P F args v := by
  intro n V
  refine tri_of_vw hτ hf hb hm hlen 0 [] [] rfl ⟨fun a o h => by simp at h, rfl, fun a b i h => by simp at h, fun a b i j m sz off n c o h => by simp at h⟩ ⟨rfl, fun i x y h1 h2 => .val ?_⟩ (fun a v m sz h => by simp at h) ?_
  · exact (ha.2 i x y h1 h2).mono (fun _ _ h => by cases h)
  refine h.mono ?_
  rintro e s ⟨h1, h2⟩
  exact ⟨h1, v, [], no, v, ⟨rfl, rfl⟩, h2, hv, ⟨fun j t h => (by cases h), fun j t h => (by cases h), fun i j t u h => (by cases h), fun i o h => (by cases h), fun a o i h => by simp at h⟩⟩

end
end Go.Proofs.YtcjfidfealifhaaGreat.Vm

/- Plain numbers: masks, wraps. No program in it. -/
namespace Go.Proofs.YtcjfidfealifhaaGreat.Vm
open Go

theorem wrapu (n : Int) : IntKind.u64.wrap n = n % 18446744073709551616 := by simp [IntKind.wrap, IntKind.bits, IntKind.signed]
end Go.Proofs.YtcjfidfealifhaaGreat.Vm

/- The rules as a walk uses them. No program in it. -/
set_option linter.unusedVariables false
set_option linter.unusedSimpArgs false
namespace Go.Proofs.YtcjfidfealifhaaGreat.Vm
open Go
section
variable {P : Program} {τ : Nat → Option TI} {m g : Nat} {Q : Exit → St → Prop} {ops : Array Oper} {l : List Oper} {o : Oper} {env : List (Nat × Value)} {V : Heap} {n : Nat}

/-- An operation that reads alone. -/
theorem vq_op (hτ : Tab P τ) {d : Nat} {v : Value} {rs : List Nat} (hw : Want ops env o true) (hd : o.dst = some d) (hm : fitsT m (some d) = true) (h : evOp τ env V n o.op = some ⟨v, [], 0, rs⟩)
    (K : VL P m g ops Q l ⟨(d, v) :: env, V, n⟩) : VL P m g ops Q (o :: l) ⟨env, V, n⟩ :=
  vl_op hτ (r := ⟨v, [], 0, rs⟩) hw (by rw [hd]; exact hm) h (by rw [hd]; exact K)

/-- One that makes a block. -/
theorem vn_op (hτ : Tab P τ) {d i : Nat} {v : Value} {ob : VObj} {rs : List Nat} (hw : Want ops env o true) (hd : o.dst = some d) (hm : fitsT m (some d) = true) (h : evOp τ env V n o.op = some ⟨v, [(i, some ob)], 1, rs⟩)
    (K : VL P m g ops Q l ⟨(d, v) :: env, upd V i (some ob), n + 1⟩) : VL P m g ops Q (o :: l) ⟨env, V, n⟩ :=
  vl_op hτ (r := ⟨v, [(i, some ob)], 1, rs⟩) hw (by rw [hd]; exact hm) h (by simp only [hd, bindT, over_cons, over_nil]; exact K)

/-- One that writes. -/
theorem vs_op (hτ : Tab P τ) {i : Nat} {v : Value} {ob : VObj} {rs : List Nat} (hw : Want ops env o true) (hd : o.dst = none) (h : evOp τ env V n o.op = some ⟨v, [(i, some ob)], 0, rs⟩)
    (K : VL P m g ops Q l ⟨env, upd V i (some ob), n⟩) : VL P m g ops Q (o :: l) ⟨env, V, n⟩ :=
  vl_op hτ (r := ⟨v, [(i, some ob)], 0, rs⟩) hw (by rw [hd]; rfl) h (by simp only [hd, bindT, over_cons, over_nil]; exact K)

theorem vk_op {d : Nat} (hw : Want ops env o false) (hd : o.dst = some d) (hm : fitsT m (some d) = true) (K : VL P m g ops Q l ⟨(d, undef) :: env, V, n⟩) : VL P m g ops Q (o :: l) ⟨env, V, n⟩ :=
  vl_skip hw (by rw [hd]; exact hm) (by rw [hd]; exact K)

theorem vku_op {j : Nat} {want : Bool} {d e : Nat} (hg : o.guard = some (j, want)) (h1 : (ops[j]?).bind (·.dst) = some e) (h2 : lkp env e = some undef) (hd : o.dst = some d) (hm : fitsT m (some d) = true) (K : VL P m g ops Q l ⟨(d, undef) :: env, V, n⟩) : VL P m g ops Q (o :: l) ⟨env, V, n⟩ :=
  vl_skip_undef (s := ⟨env, V, n⟩) hg h1 h2 (by rw [hd]; exact hm) (by rw [hd]; exact K)

/-- A call of a function of plain values. -/
theorem vf_op {F : FuncId} {f : Operand} {args : Array Operand} {ats : Array TypeId} {vb : List Value} {d : Nat} {v : Value} (hw : Want ops env o true) (hd : o.dst = some d) (hm : fitsT m (some d) = true)
    (ho : o.op = .call { callee := .value f, args, argTypes := ats }) (hf : rd env f = some (.func (.func F) #[] #[])) (ha : rds env args.toList = some vb) (hF : Callable P F)
    (T : Fun P F vb v) (K : VL P m g ops Q l ⟨(d, v) :: env, V, n⟩) : VL P m g ops Q (o :: l) ⟨env, V, n⟩ := by
  refine vl_call (s := ⟨env, V, n⟩) (va := []) (vc := []) (vb := vb) (k := 0) (R := fun u L => u = v ∧ L = []) hw (by rw [hd]; exact hm) ho hf ha hF (by simpa using T n V) ?_
  rintro u L ⟨rfl, rfl⟩
  rw [hd]; exact K

/-- A test that parts. -/
theorem vg_op {j : Nat} {want : Bool} {d : Nat} {c : Bool} (hg : o.guard = some (j, want)) (h1 : (ops[j]?).bind (·.dst) = some d) (h2 : lkp env d = some (.bool c))
    (ht : c = want → VL P m g ops Q (o :: l) ⟨(d, .bool want) :: env, V, n⟩) (hf : c = !want → VL P m g ops Q (o :: l) ⟨(d, .bool (!want)) :: env, V, n⟩) : VL P m g ops Q (o :: l) ⟨env, V, n⟩ :=
  vl_guard (s := ⟨env, V, n⟩) hg h1 h2 ht hf

/-- A test of numbers alone. -/
theorem vgd_op {j : Nat} {want : Bool} {d : Nat} {c : Bool} (b : Bool) (hg : o.guard = some (j, want)) (h1 : (ops[j]?).bind (·.dst) = some d) (h2 : lkp env d = some (.bool c)) (hc : c = b)
    (K : VL P m g ops Q (o :: l) ⟨(d, .bool b) :: env, V, n⟩) : VL P m g ops Q (o :: l) ⟨env, V, n⟩ := by
  refine vg_op hg h1 h2 (fun h => ?_) (fun h => ?_)
  · rw [← h, hc]; exact K
  · rw [← h, hc]; exact K

theorem vc_true {t : Nat} {x y : Code} (hc : lkp env t = some (.bool true)) (h : VW P m g x Q ⟨env, V, n⟩) : VW P m g (.cond (.tmp t) x y) Q ⟨env, V, n⟩ := vw_cond_true (s := ⟨env, V, n⟩) hc h
theorem vc_false {t : Nat} {x y : Code} (hc : lkp env t = some (.bool false)) (h : VW P m g y Q ⟨env, V, n⟩) : VW P m g (.cond (.tmp t) x y) Q ⟨env, V, n⟩ := vw_cond_false (s := ⟨env, V, n⟩) hc h
theorem vc_part {t : Nat} {b : Bool} {x y : Code} (hc : lkp env t = some (.bool b)) (ht : b = true → VW P m g x Q ⟨(t, .bool true) :: env, V, n⟩) (hf : b = false → VW P m g y Q ⟨(t, .bool false) :: env, V, n⟩) : VW P m g (.cond (.tmp t) x y) Q ⟨env, V, n⟩ := by
  refine vw_cond (s := ⟨env, V, n⟩) hc (fun h => ?_) (fun h => ?_)
  all_goals
    subst h
    refine vw_weaken (env' := _) (V' := V) (s := ⟨env, V, n⟩) ?_ (fun _ _ h => h) (by first | exact ht rfl | exact hf rfl)
    intro k v hk
    simp only [lkp] at hk
    split at hk
    · rename_i he; subst he; cases hk; exact hc
    · exact hk

theorem vcd_true {t : Nat} {b : Bool} {x y : Code} (hc : lkp env t = some (.bool b)) (hb : b = true) (h : VW P m g x Q ⟨env, V, n⟩) : VW P m g (.cond (.tmp t) x y) Q ⟨env, V, n⟩ := by
  subst hb; exact vc_true hc h
theorem vcd_false {t : Nat} {b : Bool} {x y : Code} (hc : lkp env t = some (.bool b)) (hb : b = false) (h : VW P m g y Q ⟨env, V, n⟩) : VW P m g (.cond (.tmp t) x y) Q ⟨env, V, n⟩ := by
  subst hb; exact vc_false hc h

theorem q_here {id : Nat} {s : St} (h : Q .normal s) : inBlock id Q (.exit id) s := by
  simp only [inBlock]; exact h
theorem q_out {id id' : Nat} {s : St} (hne : (id' == id) = false) (h : Q (.exit id') s) : inBlock id Q (.exit id') s := by
  simp only [inBlock]
  rw [if_neg (by simpa using hne)]
  exact h
theorem q_norm {id : Nat} {s : St} (h : Q .normal s) : inBlock id Q .normal s := h
theorem q_ret {id : Nat} {s : St} (h : Q .ret s) : inBlock id Q .ret s := h
theorem q_thenx {N : St → Prop} {id : Nat} {s : St} (h : Q (.exit id) s) : then_ N Q (.exit id) s := h
theorem q_thenr {N : St → Prop} {s : St} (h : Q .ret s) : then_ N Q .ret s := h

theorem vcc_false {x y : Code} {s : St} (h : VW P m g y Q s) : VW P m g (.cond (.const (.bool false)) x y) Q s := by
  intro ρ a w hr
  have h1 : a.eval (.const (.bool false)) = .bool false := rfl
  exact wp_cond_split h1 (fun e => by cases e) (fun _ => h ρ a w hr)

/-- One round more of a loop that is gone through. -/
theorem rd_step {c : Code} {k : Nat} {s : St} (h : VW P m g c (then_ (rounds P m g c Q k) Q) s) : rounds P m g c Q (k + 1) s := h

theorem v_nil (h : Q .normal ⟨env, V, n⟩) : VL P m g ops Q [] ⟨env, V, n⟩ := vl_nil h

end
end Go.Proofs.YtcjfidfealifhaaGreat.Vm

/- A row of operations whose order is left open: if each works on what no unordered one touches, any order does as the written one. No program in it. -/
set_option linter.unusedVariables false
set_option linter.unusedSimpArgs false
namespace Go.Proofs.YtcjfidfealifhaaGreat.Vm
open Go

abbrev TEnv := Nat → Option Value
def EnvF (ρ : Ren) (E : TEnv) (tmps : Array Value) : Prop := ∀ t v, E t = some v → ∃ v', tmps[t]? = some v' ∧ VRel ρ v v'
def only {α : Type} (l : List Nat) (f : Nat → Option α) : Nat → Option α := fun i => if l.contains i then f i else none
def putE (d : Option Nat) (v : Value) (E : TEnv) : TEnv := match d with
  | some d => fun t => if t = d then some v else E t
  | none => E

structure Item where
  i : Nat
  d : Option Nat
  looks : List Nat
  v : Value
  L : List (Nat × Option VObj)
  nb : Nat
  k : Nat
  rs : List Nat

def Item.names (x : Item) : List Nat := x.L.map (·.1)

/-- What it turns is its own, or new; and no argument's. -/
def Item.fine (x : Item) : Bool := x.L.all fun p => (x.rs.contains p.1 || (decide (x.nb ≤ p.1) && decide (p.1 < x.nb + x.k))) && match p.2 with
  | some o => !o.fixed || o.isEmp
  | none => true

def apartL (a b : List Nat) : Bool := a.all fun x => !b.contains x

/-- Neither touches what the other turns. -/
def indep (x y : Item) : Bool :=
  (match x.d with | some d => !y.looks.contains d && !(y.d == some d) | none => true) && (match y.d with | some d => !x.looks.contains d | none => true) &&
  apartL x.names y.rs && apartL x.names y.names && apartL y.names x.rs

theorem only_of_same {α : Type} {l : List Nat} {f f' : Nat → Option α} (h : ∀ i, l.contains i = true → f' i = f i) : only l f' = only l f := by
  funext i
  unfold only
  split
  · rename_i hi; exact h i hi
  · rfl

theorem apartL_spec {a b : List Nat} (h : apartL a b = true) {x : Nat} (ha : x ∈ a) : b.contains x = false := by
  have := List.all_eq_true.1 h x ha
  simpa using this

theorem lkp_none {α : Type} : ∀ {L : List (Nat × α)} {i : Nat}, i ∉ L.map (·.1) → lkp L i = none
  | [], _, _ => rfl
  | (k, v) :: r, i, h => by
    simp only [List.map_cons, List.mem_cons, not_or] at h
    simp only [lkp, if_neg h.1]
    exact lkp_none h.2

theorem lkp_mem {α : Type} : ∀ {L : List (Nat × α)} {i : Nat} {v : α}, lkp L i = some v → (i, v) ∈ L
  | (k, u) :: r, i, v, h => by
    simp only [lkp] at h
    split at h
    · rename_i he; subst he; cases h; exact List.mem_cons_self
    · exact List.mem_cons_of_mem _ (lkp_mem h)

theorem over_same {V : Heap} {L : List (Nat × Option VObj)} {i : Nat} (h : i ∉ L.map (·.1)) : over V L i = V i := by
  unfold over; rw [lkp_none h]; rfl

/-- It does what it should, from any state that is as (E, V) where it looks. -/
def Does (P : Program) (m : Nat) (ops : Array Oper) (x : Item) (E : TEnv) (V : Heap) : Prop :=
  ∀ ρ (a : Act) w, EnvF ρ (only x.looks E) a.tmps → a.tmps.size = m → Sim ρ (only x.rs V) w → (∀ j, x.nb ≤ j → j < x.nb + x.k → ρ j = none) → ∀ (K : Act → World → Prop) (Q : Exit → Act → World → Prop),
    (∀ v' ρ' w', VRel ρ' x.v v' → Sim ρ' (over (only x.rs V) x.L) w' → Keep ρ (only x.rs V) w ρ' (over (only x.rs V) x.L) w' → (∀ j, ¬ (x.nb ≤ j ∧ j < x.nb + x.k) → ρ' j = ρ j) → K (a.put x.d v') w') →
    wpOp P ops Q x.i K a w

theorem Does.same {P : Program} {m : Nat} {ops : Array Oper} {x : Item} {E E' : TEnv} {V V' : Heap} (h : Does P m ops x E V) (hE : only x.looks E' = only x.looks E) (hV : only x.rs V' = only x.rs V) : Does P m ops x E' V' := by
  unfold Does at *
  rw [hE, hV]; exact h

def Row (P : Program) (m : Nat) (ops : Array Oper) (G : TEnv → Heap → Prop) : List Item → TEnv → Heap → Prop
  | [], E, V => G E V
  | x :: l, E, V => Does P m ops x E V ∧ Row P m ops G l (putE x.d x.v E) (over V x.L)

section
variable {P : Program} {m g : Nat} {ops : Array Oper} {G : TEnv → Heap → Prop}

theorem only_put {d : Option Nat} {v : Value} {E : TEnv} {l : List Nat} (h : match d with | some d => l.contains d = false | none => True) : only l (putE d v E) = only l E := by
  refine only_of_same fun i hi => ?_
  cases d with
  | none => rfl
  | some d =>
    simp only at h
    simp only [putE]
    split
    · rename_i he; subst he; rw [hi] at h; cases h
    · rfl

theorem only_over {V : Heap} {L : List (Nat × Option VObj)} {l : List Nat} (h : apartL (L.map (·.1)) l = true) : only l (over V L) = only l V := by
  refine only_of_same fun i hi => over_same fun hm => ?_
  have := apartL_spec h hm
  rw [hi] at this; cases this

theorem indep_spec {x y : Item} (h : indep x y = true) : (match x.d with | some d => y.looks.contains d = false | none => True) ∧ (∀ d, x.d = some d → y.d ≠ some d) ∧ (match y.d with | some d => x.looks.contains d = false | none => True) ∧
    apartL x.names y.rs = true ∧ apartL x.names y.names = true ∧ apartL y.names x.rs = true := by
  unfold indep at h
  simp only [Bool.and_eq_true] at h
  obtain ⟨⟨⟨⟨h1, h2⟩, h3⟩, h4⟩, h5⟩ := h
  refine ⟨?_, ?_, ?_, h3, h4, h5⟩
  · cases hx : x.d with
    | none => trivial
    | some d =>
      rw [hx] at h1
      simp only [Bool.and_eq_true, Bool.not_eq_eq_eq_not, Bool.not_true] at h1
      exact h1.1
  · intro d hd he
    rw [hd] at h1
    simp [he] at h1
  · cases hy : y.d with
    | none => trivial
    | some d =>
      rw [hy] at h2
      simpa using h2

theorem row_swap {x y : Item} {l : List Item} {E : TEnv} {V : Heap} (hi : indep x y = true) (h : Row P m ops G (x :: y :: l) E V) : Row P m ops G (y :: x :: l) E V := by
  obtain ⟨hx, hy, hl⟩ := h
  obtain ⟨i1, i2, i3, i4, i5, i6⟩ := indep_spec hi
  refine ⟨hy.same (only_put i1).symm (only_over i4).symm, hx.same (only_put i3) (only_over i6), ?_⟩
  have e1 : putE x.d x.v (putE y.d y.v E) = putE y.d y.v (putE x.d x.v E) := by
    funext t
    cases hx : x.d with
    | none => rfl
    | some d =>
      cases hy : y.d with
      | none => rfl
      | some e =>
        have := i2 d hx
        rw [hy] at this
        have hne : e ≠ d := fun h => this (by rw [h])
        simp only [putE]
        by_cases h1 : t = d
        · subst h1; rw [if_pos rfl, if_neg (Ne.symm hne), if_pos rfl]
        · rw [if_neg h1, if_neg h1]
  have e2 : over (over V y.L) x.L = over (over V x.L) y.L := by
    funext j
    by_cases hj : j ∈ x.L.map (·.1)
    · have h1 : j ∉ y.L.map (·.1) := fun hm => by
        have := apartL_spec i5 hj
        simp only [Item.names] at this
        simp only [List.contains_eq_mem, decide_eq_false_iff_not] at this
        exact this hm
      rw [over_same h1]
      simp only [over, lkp_none h1, Option.getD_none]
    · rw [over_same hj]
      simp only [over, lkp_none hj, Option.getD_none]
  rw [e1, e2]; exact hl

theorem row_front {x : Item} {l2 : List Item} : ∀ {l1 : List Item} {E : TEnv} {V : Heap}, (∀ y ∈ l1, indep y x = true) → Row P m ops G (l1 ++ x :: l2) E V → Row P m ops G (x :: (l1 ++ l2)) E V
  | [], _, _, _, h => h
  | y :: l1, E, V, hi, h => row_swap (hi y List.mem_cons_self) ⟨h.1, row_front (fun z hz => hi z (List.mem_cons_of_mem _ hz)) h.2⟩

/-- Of what one works on, to all. -/
theorem does_all {ρ ρ' : Ren} {V : Heap} {w w' : World} {x : Item} (hf : x.fine = true) (hs : Sim ρ V w) (hn : ∀ j, x.nb ≤ j → j < x.nb + x.k → ρ j = none)
    (hs' : Sim ρ' (over (only x.rs V) x.L) w') (hk : Keep ρ (only x.rs V) w ρ' (over (only x.rs V) x.L) w') (hρ : ∀ j, ¬ (x.nb ≤ j ∧ j < x.nb + x.k) → ρ' j = ρ j) :
    Sim ρ' (over V x.L) w' ∧ Keep ρ V w ρ' (over V x.L) w' := by
  have hext : Ext ρ ρ' := by
    intro i t ht
    by_cases hi : x.nb ≤ i ∧ i < x.nb + x.k
    · rw [hn i hi.1 hi.2] at ht; cases ht
    · rw [hρ i hi]; exact ht
  have honly : ∀ i o, only x.rs V i = some o → V i = some o ∧ x.rs.contains i = true := by
    intro i o h
    unfold only at h
    split at h
    · exact ⟨h, ‹_›⟩
    · cases h
  have hL : ∀ i o, lkp x.L i = some (some o) → o.fixed = false ∨ o.isEmp = true := by
    intro i o h
    have := List.all_eq_true.1 hf _ (lkp_mem h)
    simp only [Bool.and_eq_true, Bool.or_eq_true, Bool.not_eq_eq_eq_not, Bool.not_true] at this
    exact this.2
  -- inside or outside
  have hcase : ∀ i o, over V x.L i = some o → over (only x.rs V) x.L i = some o ∧ ((o.fixed = false ∨ o.isEmp = true) ∧ lkp x.L i = some (some o) ∨ V i = some o ∧ x.rs.contains i = true) ∨ (V i = some o ∧ x.rs.contains i = false ∧ ∃ s, ρ i = some s ∧ ρ' i = some s ∧ (s.gone = false → s.blk < w.heap.size)) := by
    intro i o h
    unfold over at h ⊢
    cases hl : lkp x.L i with
    | some y =>
      rw [hl] at h
      simp only [Option.getD_some] at h
      subst h
      exact .inl ⟨rfl, .inl ⟨hL i o hl, rfl⟩⟩
    | none =>
      rw [hl] at h
      simp only [Option.getD_none] at h ⊢
      cases hc : x.rs.contains i with
      | true => exact .inl ⟨by unfold only; rw [if_pos hc]; exact h, .inr ⟨h, rfl⟩⟩
      | false =>
        obtain ⟨s, h1, _⟩ := hs.has i o h
        refine .inr ⟨h, rfl, s, h1, hext _ _ h1, fun hg => ?_⟩
        obtain ⟨_, h2, _⟩ := hs.at_ h h1 hg
        exact (Array.getElem?_eq_some_iff.1 h2).1
  have hout : ∀ i o s, V i = some o → x.rs.contains i = false → ρ i = some s → s.gone = false → ¬ Blks ρ (only x.rs V) s.blk := by
    rintro i o s hV hc hi hsg ⟨j, p, t, hj, hpf, ht, htg, hb⟩
    obtain ⟨h1, h2⟩ := honly j p hj
    have hne : i ≠ j := fun e => by rw [e, h2] at hc; cases hc
    exact hs.apart i j o p s t hne hV h1 hi ht hsg htg (by simp [hpf]) hb.symm
  have hblk : ∀ b, Blks ρ (only x.rs V) b → Blks ρ V b := fun b ⟨j, p, t, hj, r⟩ => ⟨j, p, t, (honly j p hj).1, r⟩
  have hkeep : Keep ρ V w ρ' (over V x.L) w' := by
    refine ⟨hk.os, hk.tape, hk.output, hk.size, fun b hb hn => hk.block b hb fun h => hn (hblk b h), ?_⟩
    rintro b ⟨i, o, s, hi, hof, hs1, hsg, rfl⟩
    rcases hcase i o hi with ⟨h, _⟩ | ⟨h, hc, s', h1, h2, h3⟩
    · exact (hk.new _ ⟨i, o, s, h, hof, hs1, hsg, rfl⟩).imp (hblk _) id
    · rw [h2] at hs1; cases hs1
      exact .inl ⟨i, o, s, h, hof, h1, hsg, rfl⟩
  refine ⟨⟨?_, ?_, hs.base.keep hkeep⟩, hkeep⟩
  · intro i o hi
    rcases hcase i o hi with ⟨h, _⟩ | ⟨h, hc, s, h1, h2, h3⟩
    · exact hs'.has i o h
    · obtain ⟨s', g1, g2⟩ := hs.has i o h
      rw [h1] at g1; cases g1
      exact ⟨s, h2, g2.mono hext fun hg => hk.block _ (h3 hg) (hout i o s h hc h1 hg)⟩
  · have mixed : ∀ i j o p s t, over (only x.rs V) x.L i = some o → ((o.fixed = false ∨ o.isEmp = true) ∧ lkp x.L i = some (some o) ∨ V i = some o ∧ x.rs.contains i = true) → V j = some p → x.rs.contains j = false → ρ' i = some s → ρ j = some t → s.gone = false → t.gone = false → t.blk < w.heap.size →
        (o.fixed && p.fixed) = false → s.blk ≠ t.blk := by
      intro i j o p s t hi hio hj hjc hs1 ht1 hsg htg hlt hfx heq
      rcases hio with ⟨h1, h2⟩ | ⟨h1, h2⟩
      · rcases h1 with h1 | h1
        · rcases hk.new s.blk ⟨i, o, s, hi, h1, hs1, hsg, rfl⟩ with h | h
          · rw [heq] at h; exact hout j p t hj hjc ht1 htg h
          · omega
        · obtain ⟨s', g1, g2⟩ := hs'.has i o hi
          rw [hs1] at g1; cases g1
          rw [g2.emp h1] at hsg; cases hsg
      · obtain ⟨s', g1, _⟩ := hs.has i o h1
        have := hext _ _ g1
        rw [hs1] at this; cases this
        have hne : i ≠ j := fun e => by rw [e, hjc] at h2; cases h2
        exact hs.apart i j o p s t hne h1 hj g1 ht1 hsg htg hfx heq
    intro i j o p s t hij hi hj hs1 ht1 hsg htg hfx
    rcases hcase i o hi with ⟨h, hh⟩ | ⟨h, hc, s', h1, h2, h3⟩ <;> rcases hcase j p hj with ⟨k, kk⟩ | ⟨k, kc, t', k1, k2, k3⟩
    · exact hs'.apart i j o p s t hij h k hs1 ht1 hsg htg hfx
    · rw [k2] at ht1; cases ht1
      exact mixed i j o p s t h hh k kc hs1 k1 hsg htg (k3 htg) hfx
    · rw [h2] at hs1; cases hs1
      exact (mixed j i p o t s k kk h hc ht1 h1 htg hsg (h3 hsg) (by rw [Bool.and_comm]; exact hfx)).symm
    · rw [h2] at hs1; cases hs1
      rw [k2] at ht1; cases ht1
      exact hs.apart i j o p s t hij h k h1 k1 hsg htg hfx

end
end Go.Proofs.YtcjfidfealifhaaGreat.Vm

/- A row of operations whose order is left open, whole. No program in it. -/
set_option linter.unusedVariables false
set_option linter.unusedSimpArgs false
namespace Go.Proofs.YtcjfidfealifhaaGreat.Vm
open Go

def ancF (T : List Nat) (es : List Edge) : Nat := es.foldr (fun e acc => if Region.binds .any e = true then (2 ^ e.on ||| T.getD e.on 0) ||| acc else acc) 0
/-- What each operation waits for, as bits. -/
def ancs (ops : List Oper) : List Nat := ops.foldl (fun T o => T ++ [ancF T o.after.toList]) []
def ancOk (T : List Nat) (ops : Array Oper) : Bool := (List.range ops.size).all fun j => match ops[j]? with
  | some o => T.getD j 0 == ancF T o.after.toList && o.after.toList.all fun e => !Region.binds .any e || decide (e.on < j)
  | none => true

theorem ancF_spec {T : List Nat} {a : Nat} : ∀ {es : List Edge}, (ancF T es).testBit a = true → ∃ e ∈ es, Region.binds .any e = true ∧ (e.on = a ∨ (T.getD e.on 0).testBit a = true)
  | [], h => by simp [ancF] at h
  | e :: es, h => by
    have key : ancF T (e :: es) = if Region.binds .any e = true then (2 ^ e.on ||| T.getD e.on 0) ||| ancF T es else ancF T es := rfl
    rw [key] at h
    split at h
    · rename_i hb
      simp only [Nat.testBit_or, Nat.testBit_two_pow, Bool.or_eq_true, decide_eq_true_eq] at h
      rcases h with h | h
      · exact ⟨e, List.mem_cons_self, hb, h⟩
      · obtain ⟨e', h1, h2⟩ := ancF_spec h
        exact ⟨e', List.mem_cons_of_mem _ h1, h2⟩
    · obtain ⟨e', h1, h2⟩ := ancF_spec h
      exact ⟨e', List.mem_cons_of_mem _ h1, h2⟩

def pairOk (T : List Nat) (x y : Item) : Bool := decide (x.i < y.i) && decide (x.nb + x.k ≤ y.nb) && (indep x y || (T.getD y.i 0).testBit x.i)
def pairsB (T : List Nat) : List Item → Bool
  | [] => true
  | x :: l => l.all (pairOk T x) && pairsB T l
def oneB (m lo hi : Nat) (x : Item) : Bool := x.fine && fitsT m x.d && decide (lo ≤ x.nb) && decide (x.nb + x.k ≤ hi)
def chk (m : Nat) (ops : Array Oper) (lo hi : Nat) (l : List Item) : Bool :=
  ancOk (ancs ops.toList) ops && l.all (oneB m lo hi) && pairsB (ancs ops.toList) l && (l.map (·.i) == List.range ops.size) && decide (lo ≤ hi)

theorem pairsB_spec {T : List Nat} : ∀ {l : List Item}, pairsB T l = true → l.Pairwise fun x y => pairOk T x y = true
  | [], _ => .nil
  | x :: l, h => by
    simp only [pairsB, Bool.and_eq_true] at h
    exact .cons (fun y hy => List.all_eq_true.1 h.1 y hy) (pairsB_spec h.2)

section
variable {P : Program} {τ : Nat → Option TI} {m g : Nat} {ops : Array Oper} {T : List Nat}

def Closed (ops : Array Oper) (listed : Array Bool) : Prop := ∀ j o, ops[j]? = some o → listed.getD j false = true → ∀ e ∈ o.after, Region.binds .any e = true → listed.getD e.on false = true

theorem ancOk_spec (hT : ancOk T ops = true) {j : Nat} {o : Oper} (ho : ops[j]? = some o) : T.getD j 0 = ancF T o.after.toList ∧ ∀ e ∈ o.after, Region.binds .any e = true → e.on < j := by
  have hj := (Array.getElem?_eq_some_iff.1 ho).1
  have := List.all_eq_true.1 hT j (List.mem_range.2 hj)
  simp only [ho, Bool.and_eq_true, beq_iff_eq, List.all_eq_true, Bool.or_eq_true, Bool.not_eq_eq_eq_not, Bool.not_true, decide_eq_true_eq] at this
  refine ⟨this.1, fun e he hb => ?_⟩
  rcases this.2 e (by simpa using he) with h | h
  · rw [hb] at h; cases h
  · exact h

theorem anc_listed (hT : ancOk T ops = true) {listed : Array Bool} (hc : Closed ops listed) : ∀ (j : Nat) (o : Oper), ops[j]? = some o → (∀ e ∈ o.after, Region.binds .any e = true → listed.getD e.on false = true) →
    ∀ a, (T.getD j 0).testBit a = true → listed.getD a false = true := by
  intro j
  induction j using Nat.strongRecOn with
  | _ j ih =>
    intro o ho hall a ha
    obtain ⟨h1, h2⟩ := ancOk_spec hT ho
    rw [h1] at ha
    obtain ⟨e, he, hb, hor⟩ := ancF_spec ha
    have he' : e ∈ o.after := by simpa using he
    have hl := hall e he' hb
    rcases hor with rfl | hor
    · exact hl
    · have hlt := h2 e he' hb
      have hj := (Array.getElem?_eq_some_iff.1 ho).1
      have hoe : ops[e.on]? = some ops[e.on] := by simp
      exact ih e.on hlt _ hoe (hc e.on _ hoe hl) a hor

theorem getD_tf {listed : Array Bool} {j : Nat} (h : j < listed.size) : listed.getD j true = listed.getD j false := by simp [h]

theorem any_of_row (hT : ancOk T ops = true) {Q : Exit → St → Prop} {s0 s1 : St} {ρ0 : Ren} {w0 : World} (hQ : Q .normal s1) (hg : g ≤ s1.n) : ∀ (fuel : Nat) (l : List Item) (listed : Array Bool) (E : TEnv) (V : Heap) (ρ : Ren) (a : Act) (w : World),
    l.length ≤ fuel → listed.size = ops.size → (∀ j, j < ops.size → (listed.getD j false = false ↔ ∃ x ∈ l, x.i = j)) → (∀ x ∈ l, x.i < ops.size) → Closed ops listed →
    (l.Pairwise fun x y => pairOk T x y = true) → (∀ x ∈ l, oneB m g s1.n x = true) → Row P m ops (fun E V => (∀ t, E t = lkp s1.env t) ∧ V = s1.heap) l E V →
    (∀ i, s1.n ≤ i → ρ i = none) → (∀ x ∈ l, ∀ j, x.nb ≤ j → j < x.nb + x.k → ρ j = none) → Sim ρ V w → EnvF ρ E a.tmps → a.tmps.size = m → a.defers = [] →
    Keep ρ0 s0.heap w0 ρ V w → (∀ i, i < g → ρ i = ρ0 i) → wpAny P .any ops (Post m g Q ρ0 s0 w0) fuel listed a w := by
  intro fuel
  have hend : ∀ (listed : Array Bool) (E : TEnv) (V : Heap) (ρ : Ren) (a : Act) (w : World), Row P m ops (fun E V => (∀ t, E t = lkp s1.env t) ∧ V = s1.heap) [] E V →
      (∀ i, s1.n ≤ i → ρ i = none) → Sim ρ V w → EnvF ρ E a.tmps → a.tmps.size = m → a.defers = [] → Keep ρ0 s0.heap w0 ρ V w → (∀ i, i < g → ρ i = ρ0 i) → Post m g Q ρ0 s0 w0 .normal a w := by
    rintro listed E V ρ a w ⟨hE, rfl⟩ hbd hs he hsz hd hk hg1
    exact ⟨s1, ρ, hQ, ⟨hbd, hg, hs, fun t v h => he t v (by rw [hE]; exact h), hsz, hd⟩, hk, hg1⟩
  have hempty : ∀ (l : List Item) (listed : Array Bool), listed.size = ops.size → (∀ j, j < ops.size → (listed.getD j false = false ↔ ∃ x ∈ l, x.i = j)) → (∀ x ∈ l, x.i < ops.size) → (l.Pairwise fun x y => pairOk T x y = true) →
      (Region.ready .any ops listed = [] ↔ l = []) := by
    intro l listed hsz hl hi hp
    constructor
    · intro hr
      cases l with
      | nil => rfl
      | cons x l =>
        exfalso
        have hx := hi x List.mem_cons_self
        have hm : x.i ∈ Region.ready .any ops listed := by
          rw [mem_ready]
          have hun := (hl x.i hx).2 ⟨x, List.mem_cons_self, rfl⟩
          have ho : ops[x.i]? = some ops[x.i] := by simp
          refine ⟨by rw [getD_tf (by omega)]; exact hun, ops[x.i], ho, fun e he hb => ?_⟩
          have hlt := (ancOk_spec hT ho).2 e he hb
          cases hc : listed.getD e.on false with
          | true => rfl
          | false =>
            obtain ⟨y, hy, hyi⟩ := (hl e.on (by omega)).1 hc
            rcases List.mem_cons.1 hy with rfl | hy
            · omega
            · have := List.rel_of_pairwise_cons hp hy
              simp only [pairOk, Bool.and_eq_true, decide_eq_true_eq] at this
              omega
        rw [hr] at hm; cases hm
    · rintro rfl
      cases hr : Region.ready .any ops listed with
      | nil => rfl
      | cons i r =>
        have hm : i ∈ Region.ready .any ops listed := by rw [hr]; exact List.mem_cons_self
        rw [mem_ready] at hm
        obtain ⟨h0, o, ho, _⟩ := hm
        have hi := (Array.getElem?_eq_some_iff.1 ho).1
        rw [getD_tf (by omega)] at h0
        obtain ⟨x, hx, _⟩ := (hl i hi).1 h0
        cases hx
  induction fuel with
  | zero =>
    intro l listed E V ρ a w hlen hsz hl hi hc hp ho hrow hbd hfr hs he hm hd hk hg1
    obtain rfl : l = [] := by cases l with | nil => rfl | cons x l => simp at hlen
    exact ⟨(hempty [] listed hsz hl hi hp).2 rfl, hend listed E V ρ a w hrow hbd hs he hm hd hk hg1⟩
  | succ fuel ih =>
    intro l listed E V ρ a w hlen hsz hl hi hc hp ho hrow hbd hfr hs he hm hd hk hg1
    refine ⟨fun hr => ?_, fun i hir => ?_⟩
    · obtain rfl := (hempty l listed hsz hl hi hp).1 hr
      exact hend listed E V ρ a w hrow hbd hs he hm hd hk hg1
    · rw [mem_ready] at hir
      obtain ⟨h0, o, hoi, hall⟩ := hir
      have hilt := (Array.getElem?_eq_some_iff.1 hoi).1
      rw [getD_tf (by omega)] at h0
      obtain ⟨x, hx, rfl⟩ := (hl i hilt).1 h0
      obtain ⟨l1, l2, rfl⟩ := List.append_of_mem hx
      have hanc := anc_listed hT hc x.i o hoi hall
      have hp' := List.pairwise_append.1 hp
      have hind : ∀ y ∈ l1, indep y x = true := by
        intro y hy
        have := hp'.2.2 y hy x List.mem_cons_self
        simp only [pairOk, Bool.and_eq_true, Bool.or_eq_true] at this
        rcases this.2 with h | h
        · exact h
        · have h1 := hanc y.i h
          have hym : y ∈ l1 ++ x :: l2 := List.mem_append_left _ hy
          have h2 := (hl y.i (hi y hym)).2 ⟨y, hym, rfl⟩
          rw [h1] at h2; cases h2
      obtain ⟨hdoes, hrow'⟩ := row_front hind hrow
      have hox := ho x hx
      simp only [oneB, Bool.and_eq_true, decide_eq_true_eq] at hox
      obtain ⟨⟨⟨hfine, hfit⟩, hlo⟩, hhi⟩ := hox
      have hfx := hfr x hx
      have hsub : ∀ i o, only x.rs V i = some o → V i = some o := by
        intro i o h; unfold only at h; split at h
        · exact h
        · cases h
      refine hdoes ρ a w ?_ hm (hs.sub hsub) hfx _ _ ?_
      · intro t v h
        unfold only at h
        split at h
        · exact he t v h
        · cases h
      intro v' ρ' w' hv hs' hk' hρ
      obtain ⟨hs2, hk2⟩ := does_all hfine hs hfx hs' hk' hρ
      have hmem : ∀ y, y ∈ l1 ++ l2 → y ∈ l1 ++ x :: l2 := fun y hy => by
        rcases List.mem_append.1 hy with h | h
        · exact List.mem_append_left _ h
        · exact List.mem_append_right _ (List.mem_cons_of_mem _ h)
      have hne : ∀ y, y ∈ l1 ++ l2 → y.i ≠ x.i ∧ (x.nb + x.k ≤ y.nb ∨ y.nb + y.k ≤ x.nb) := by
        intro y hy
        rcases List.mem_append.1 hy with h | h
        · have := hp'.2.2 y h x List.mem_cons_self
          simp only [pairOk, Bool.and_eq_true, decide_eq_true_eq] at this
          exact ⟨by omega, .inr (by omega)⟩
        · have := List.rel_of_pairwise_cons hp'.2.1 h
          simp only [pairOk, Bool.and_eq_true, decide_eq_true_eq] at this
          exact ⟨by omega, .inl (by omega)⟩
      have hget : ∀ j, j < ops.size → (listed.setIfInBounds x.i true).getD j false = if j = x.i then true else listed.getD j false := by
        intro j hj
        by_cases hji : j = x.i
        · subst hji; rw [if_pos rfl]; simp [hsz, hj]
        · rw [if_neg hji]; exact getD_set_ne false (Ne.symm hji)
      refine ih (l1 ++ l2) (listed.setIfInBounds x.i true) _ _ ρ' _ _ ?_ (by simpa using hsz) ?_ (fun y hy => hi y (hmem y hy)) ?_ ?_ (fun y hy => ho y (hmem y hy)) hrow' ?_ ?_ hs2 ?_ ?_ ?_ (hk.trans hk2) ?_
      · simp only [List.length_append, List.length_cons] at hlen ⊢; omega
      · intro j hj
        rw [hget j hj]
        split
        · rename_i he; subst he
          exact ⟨fun h => (by cases h), fun ⟨y, hy, hyi⟩ => ((hne y hy).1 hyi).elim⟩
        · rename_i hne'
          rw [hl j hj]
          constructor
          · rintro ⟨y, hy, rfl⟩
            rcases List.mem_append.1 hy with h | h
            · exact ⟨y, List.mem_append_left _ h, rfl⟩
            · rcases List.mem_cons.1 h with rfl | h
              · exact (hne' rfl).elim
              · exact ⟨y, List.mem_append_right _ h, rfl⟩
          · rintro ⟨y, hy, rfl⟩
            exact ⟨y, hmem y hy, rfl⟩
      · intro j oj hoj hlj e hee hb
        have hjlt := (Array.getElem?_eq_some_iff.1 hoj).1
        rw [hget j hjlt] at hlj
        have helt := (ancOk_spec hT hoj).2 e hee hb
        rw [hget e.on (by omega)]
        split
        · rfl
        · split at hlj
          · rename_i hji; subst hji
            rw [hoi] at hoj; cases hoj
            exact hall e hee hb
          · exact hc j oj hoj hlj e hee hb
      · exact hp.sublist (List.Sublist.append_left (List.sublist_cons_self x l2) l1)
      · intro i hi'
        rw [hρ i (by omega)]; exact hbd i hi'
      · intro y hy j h1 h2
        have := (hne y hy).2
        rw [hρ j (by omega)]; exact hfr y (hmem y hy) j h1 h2
      · have hext : Ext ρ ρ' := ext_of hfx hρ
        cases hxd : x.d with
        | none => exact fun t u h => let ⟨u', h1, h2⟩ := he t u h; ⟨u', h1, h2.mono hext⟩
        | some d =>
          rw [hxd] at hfit
          simp only [fitsT, decide_eq_true_eq] at hfit
          intro t u h
          simp only [putE] at h
          split at h
          · rename_i ht; subst ht; cases h
            exact ⟨v', by simp only [Act.put]; rw [Array.getElem?_setIfInBounds, if_pos rfl, if_pos (by omega)], hv⟩
          · rename_i ht
            obtain ⟨u', h1, h2⟩ := he t u h
            exact ⟨u', by simp only [Act.put]; rw [Array.getElem?_setIfInBounds_ne (by omega)]; exact h1, h2.mono hext⟩
      · cases x.d <;> simp [Act.put, hm]
      · cases x.d <;> simp [Act.put, hd]
      · intro i hi'
        rw [hρ i (by omega)]; exact hg1 i hi'

end
end Go.Proofs.YtcjfidfealifhaaGreat.Vm

/- The rules of a row whose order is left open, as a walk uses them. No program in it. -/
set_option linter.unusedVariables false
set_option linter.unusedSimpArgs false
namespace Go.Proofs.YtcjfidfealifhaaGreat.Vm
open Go

/-- What is known where it is looked. -/
def cut (l : List Nat) (env : List (Nat × Value)) : List (Nat × Value) := l.filterMap fun t => (lkp env t).map fun v => (t, v)

theorem lkp_cut {env : List (Nat × Value)} : ∀ {l : List Nat} {t : Nat} {v : Value}, lkp (cut l env) t = some v → only l (lkp env) t = some v
  | [], t, v, h => by cases h
  | u :: l, t, v, h => by
    unfold cut at h
    rw [List.filterMap_cons] at h
    have rest : lkp (cut l env) t = some v → only (u :: l) (lkp env) t = some v := by
      intro h
      have := lkp_cut h
      unfold only at this ⊢
      split at this
      · rename_i hc
        rw [if_pos (by simp only [List.contains_cons, hc, Bool.or_true])]
        exact this
      · cases this
    cases hx : lkp env u with
    | none =>
      rw [hx] at h
      exact rest h
    | some x =>
      rw [hx] at h
      simp only [Option.map_some, lkp] at h
      split at h
      · rename_i he; subst he; cases h
        unfold only
        rw [if_pos (by simp)]
        exact hx
      · exact rest h

section
variable {P : Program} {τ : Nat → Option TI} {m g : Nat} {Q : Exit → St → Prop} {ops : Array Oper} {l : List Oper} {o : Oper} {env : List (Nat × Value)} {V : Heap} {n : Nat} {s0 : St} {done : List Item}

theorem env_cut {ρ : Ren} {looks : List Nat} {tmps : Array Value} (h : EnvF ρ (only looks (lkp env)) tmps) : EnvRel ρ (cut looks env) tmps := fun t v ht => h t v (lkp_cut ht)

theorem rd_env {ρ : Ren} {a : Act} (hr : EnvRel ρ env a.tmps) : Rd ρ env a.eval := by
  intro x v h
  cases x with
  | tmp t =>
    obtain ⟨v', h1, h2⟩ := hr t v h
    simpa [Act.eval, h1] using h2
  | const c =>
    simp only [rd] at h
    split at h
    · cases h; exact vrel_const ‹_›
    · cases h
  | func f =>
    cases h
    exact .func rfl (fun i v v' h => by simp at h) rfl (fun i v v' h => by simp at h)
  | global g => cases h

theorem want_env {ρ : Ren} {a : Act} (hr : EnvRel ρ env a.tmps) {b : Bool} (h : Want ops env o b) : Region.wanted o (yielded ops a.tmps) = b := by
  unfold Want at h
  unfold Region.wanted
  split at h
  · rename_i hg; rw [hg]; exact h.symm
  · rename_i j want hg
    obtain ⟨d, c, h1, h2, rfl⟩ := h
    obtain ⟨v', h3, h4⟩ := hr d _ h2
    cases h4
    rw [hg]
    simp only [yielded, h1, Option.bind_some, h3]
    cases c <;> cases want <;> rfl

theorem does_op (hτ : Tab P τ) {i : Nat} (ho : ops[i]? = some o) {rs : List Nat} {r : Res} (hw : Want ops (cut (o.looksAt ops) env) o true) (h : evOp τ (cut (o.looksAt ops) env) (only rs V) n o.op = some r) :
    Does P m ops ⟨i, o.dst, o.looksAt ops, r.v, r.L, n, r.k, rs⟩ (lkp env) V := by
  intro ρ a w he hm hs hn K Q hK
  have he' := env_cut he
  unfold wpOp
  simp only [ho]
  rw [if_pos (want_env he' hw)]
  obtain ⟨v', w', ρ', h1, h2, h3, h4, h5⟩ := evOp_ok hτ.ok hτ.zs hs (rd_env he') hn h
  have hnext := hK v' ρ' w' h2 h3 h4 h5
  refine .inl ?_
  unfold Oper.wp
  rcases h1 with h1 | ⟨h1, rfl⟩
  · rw [h1]; exact hnext
  · rw [h1]; exact hnext

theorem does_skip {i : Nat} (ho : ops[i]? = some o) (hw : Want ops (cut (o.looksAt ops) env) o false) : Does P m ops ⟨i, o.dst, o.looksAt ops, undef, [], n, 0, []⟩ (lkp env) V := by
  intro ρ a w he hm hs hn K Q hK
  unfold wpOp
  simp only [ho]
  rw [if_neg (by rw [want_env (env_cut he) hw]; simp)]
  exact hK undef ρ w (vrel_tuple lrel_nil) hs (.refl _ _ _) (fun _ _ => rfl)

theorem does_call {i : Nat} (hoi : ops[i]? = some o) {F : FuncId} {f : Operand} {args : Array Operand} {ats : Array TypeId} {va vb vc : List Value} {k : Nat} {rs : List Nat} {v : Value} {L : List (Nat × Option VObj)}
    (hw : Want ops (cut (o.looksAt ops) env) o true) (ho : o.op = .call { callee := .value f, args, argTypes := ats }) (hf : rd (cut (o.looksAt ops) env) f = some (.func (.func F) va.toArray vc.toArray))
    (ha : rds (cut (o.looksAt ops) env) args.toList = some vb) (hF : Callable P F) (T : Tri P F (va ++ vb ++ vc) n k (only rs V) (fun u L' => u = v ∧ L' = L)) :
    Does P m ops ⟨i, o.dst, o.looksAt ops, v, L, n, k, rs⟩ (lkp env) V := by
  intro ρ a w he hm hs hn K Q hK
  have he' := env_cut he
  unfold wpOp
  simp only [hoi]
  rw [if_pos (want_env he' hw)]
  refine .inl ?_
  have h1 := rd_env he' _ _ hf
  have h2 := rds_ok (rd_env he') ha
  generalize hx : a.eval f = x at h1
  cases h1 with
  | @func _ f1 f1' c1 c1' hs1 hv1 hs2 hv2 =>
  obtain ⟨fn, hfn, hn1, hn2⟩ := hF
  have hl1 : LRel ρ va f1'.toList := ⟨by simpa using hs1, fun i v v' p q => hv1 i v v' (by simpa using p) (by simpa using q)⟩
  have hl3 : LRel ρ vc c1'.toList := ⟨by simpa using hs2, fun i v v' p q => hv2 i v v' (by simpa using p) (by simpa using q)⟩
  have hall := lrel_append (lrel_append hl1 h2) hl3
  have hrun : (execOp a.eval o).run P w = .ok (.enter F (f1'.toList ++ args.toList.map a.eval ++ c1'.toList).toArray) w := by
    unfold execOp
    rw [ho]
    have hn1' : ¬ fn.name = "runtime.NumGoroutine" := by simpa using hn1
    have hb : ¬ fn.body = none := by intro e; rw [e] at hn2; cases hn2
    have he : (f1'.toList ++ args.toList.map a.eval ++ c1'.toList).toArray = f1' ++ args.map a.eval ++ c1' := by apply Array.ext'; simp
    simp [resolve, hx, Deferred.ofValue, invoke, callFunc, hfn, hn1', hb, he]
  unfold Oper.wp
  rw [hrun, Oper.upon_enter]
  refine (T ρ w _ hn hs hall).mono ?_
  rintro e w' ⟨u, L', v', ρ', ⟨rfl, rfl⟩, rfl, hv, hs', hk, hρ⟩
  exact hK v' ρ' w' hv hs' hk hρ

/-- On the way through the row: what was met, what is to come. -/
def VD (P : Program) (m g : Nat) (ops : Array Oper) (Q : Exit → St → Prop) (s0 : St) (done : List Item) (l : List Oper) (s : St) : Prop :=
  ops.toList.drop done.length = l → ∃ (more : List Item) (s1 : St), chk m ops s0.n s1.n (done.reverse ++ more) = true ∧ Row P m ops (fun E V => (∀ t, E t = lkp s1.env t) ∧ V = s1.heap) more (lkp s.env) s.heap ∧ Q .normal s1

theorem vw_draw (hmx : P.follows .mixedOrders = true) {id : Nat} {s : St} (h : VD P m g ops Q s [] ops.toList s) : VW P m g (.region id ops true) Q s := by
  obtain ⟨more, s1, hc, hrow, hQ⟩ := h rfl
  intro ρ a w hr
  simp only [List.reverse_nil, List.nil_append] at hc
  simp only [chk, Bool.and_eq_true, decide_eq_true_eq, beq_iff_eq] at hc
  obtain ⟨⟨⟨⟨hT, hall⟩, hp⟩, hidx⟩, hlo⟩ := hc
  have hlen : more.length = ops.size := by have := congrArg List.length hidx; simpa using this
  refine wp_region_any hmx (any_of_row hT hQ (Nat.le_trans hr.old hlo) ops.size more _ (lkp s.env) s.heap ρ a _ (by omega) (by simp) ?_ ?_ ?_ (pairsB_spec hp) ?_ hrow ?_ ?_ ?_ hr.env hr.size hr.defers ?_ (fun _ _ => rfl))
  · intro j hj
    constructor
    · intro _
      have : j ∈ more.map (·.i) := by rw [hidx]; exact List.mem_range.2 hj
      obtain ⟨x, hx, hxi⟩ := List.mem_map.1 this
      exact ⟨x, hx, hxi⟩
    · intro _; simp [hj]
  · intro x hx
    have : x.i ∈ List.range ops.size := by rw [← hidx]; exact List.mem_map.2 ⟨x, hx, rfl⟩
    exact List.mem_range.1 this
  · intro j o hj hl
    have := (Array.getElem?_eq_some_iff.1 hj).1
    simp [this] at hl
  · intro x hx
    have := List.all_eq_true.1 hall x hx
    simp only [oneB, Bool.and_eq_true, decide_eq_true_eq] at this ⊢
    exact ⟨⟨this.1.1, Nat.le_trans hr.old this.1.2⟩, this.2⟩
  · intro i hi
    exact hr.bd i (by omega)
  · intro x hx j h1 h2
    have := List.all_eq_true.1 hall x hx
    simp only [oneB, Bool.and_eq_true, decide_eq_true_eq] at this
    exact hr.bd j (by omega)
  · exact ⟨hr.sim.has, hr.sim.apart, ⟨hr.sim.base.val, hr.sim.base.low⟩⟩
  · exact ⟨rfl, rfl, rfl, Nat.le_refl _, fun _ _ _ => rfl, fun _ h => .inl h⟩

theorem vd_nil (hc : chk m ops s0.n n done.reverse = true) (h : Q .normal ⟨env, V, n⟩) : VD P m g ops Q s0 done [] ⟨env, V, n⟩ :=
  fun _ => ⟨[], ⟨env, V, n⟩, by simpa using hc, ⟨fun _ => rfl, rfl⟩, h⟩

theorem vd_step {s s' : St} {x : Item} (hd : Does P m ops x (lkp s.env) s.heap) (he : putE x.d x.v (lkp s.env) = lkp s'.env) (hh : over s.heap x.L = s'.heap) (K : VD P m g ops Q s0 (x :: done) l s') : VD P m g ops Q s0 done (o :: l) s := by
  intro hdrop
  have h2 : ops.toList.drop (x :: done).length = l := by
    rw [List.length_cons, ← List.drop_drop, hdrop]; rfl
  obtain ⟨more, s1, hc, hrow, hQ⟩ := K h2
  refine ⟨x :: more, s1, by simpa using hc, ⟨hd, ?_⟩, hQ⟩
  rw [he, hh]; exact hrow

theorem drop_get {done : List Item} (h : ops.toList.drop done.length = o :: l) : ops[done.length]? = some o := by
  have := congrArg List.head? h
  simpa [List.head?_drop] using this

theorem vd_at {s : St} (h : ops[done.length]? = some o → VD P m g ops Q s0 done (o :: l) s) : VD P m g ops Q s0 done (o :: l) s := fun hd => h (drop_get hd) hd

theorem dq_op (hτ : Tab P τ) {d : Nat} {v : Value} {rs : List Nat} (hw : Want ops (cut (o.looksAt ops) env) o true) (hd : o.dst = some d) (h0 : evOp τ env V n o.op = some ⟨v, [], 0, rs⟩) (h : evOp τ (cut (o.looksAt ops) env) (only rs V) n o.op = some ⟨v, [], 0, rs⟩)
    (K : VD P m g ops Q s0 (⟨done.length, some d, o.looksAt ops, v, [], n, 0, rs⟩ :: done) l ⟨(d, v) :: env, V, n⟩) : VD P m g ops Q s0 done (o :: l) ⟨env, V, n⟩ := by
  refine vd_at fun ho => ?_
  have := does_op (m := m) hτ ho hw h
  rw [hd] at this
  refine vd_step ?_ ?_ ?_ K
  · exact this
  · funext t; rfl
  · rfl

theorem dn_op (hτ : Tab P τ) {d i : Nat} {v : Value} {ob : VObj} {rs : List Nat} (hw : Want ops (cut (o.looksAt ops) env) o true) (hd : o.dst = some d) (h0 : evOp τ env V n o.op = some ⟨v, [(i, some ob)], 1, rs⟩) (h : evOp τ (cut (o.looksAt ops) env) (only rs V) n o.op = some ⟨v, [(i, some ob)], 1, rs⟩)
    (K : VD P m g ops Q s0 (⟨done.length, some d, o.looksAt ops, v, [(i, some ob)], n, 1, rs⟩ :: done) l ⟨(d, v) :: env, upd V i (some ob), n + 1⟩) : VD P m g ops Q s0 done (o :: l) ⟨env, V, n⟩ := by
  refine vd_at fun ho => ?_
  have := does_op (m := m) hτ ho hw h
  rw [hd] at this
  refine vd_step ?_ ?_ ?_ K
  · exact this
  · funext t; rfl
  · show over V _ = _; rw [over_cons, over_nil]

theorem ds_op (hτ : Tab P τ) {i : Nat} {v : Value} {ob : VObj} {rs : List Nat} (hw : Want ops (cut (o.looksAt ops) env) o true) (hd : o.dst = none) (h0 : evOp τ env V n o.op = some ⟨v, [(i, some ob)], 0, rs⟩) (h : evOp τ (cut (o.looksAt ops) env) (only rs V) n o.op = some ⟨v, [(i, some ob)], 0, rs⟩)
    (K : VD P m g ops Q s0 (⟨done.length, none, o.looksAt ops, v, [(i, some ob)], n, 0, rs⟩ :: done) l ⟨env, upd V i (some ob), n⟩) : VD P m g ops Q s0 done (o :: l) ⟨env, V, n⟩ := by
  refine vd_at fun ho => ?_
  have := does_op (m := m) hτ ho hw h
  rw [hd] at this
  refine vd_step ?_ ?_ ?_ K
  · exact this
  · rfl
  · show over V _ = _; rw [over_cons, over_nil]

theorem dk_op {d : Nat} (hw : Want ops (cut (o.looksAt ops) env) o false) (hd : o.dst = some d)
    (K : VD P m g ops Q s0 (⟨done.length, some d, o.looksAt ops, undef, [], n, 0, []⟩ :: done) l ⟨(d, undef) :: env, V, n⟩) : VD P m g ops Q s0 done (o :: l) ⟨env, V, n⟩ := by
  refine vd_at fun ho => ?_
  have := does_skip (P := P) (m := m) (V := V) (n := n) ho hw
  rw [hd] at this
  refine vd_step ?_ ?_ ?_ K
  · exact this
  · funext t; rfl
  · rfl

theorem df_op {F : FuncId} {f : Operand} {args : Array Operand} {ats : Array TypeId} {vb : List Value} {d : Nat} {v : Value} (hw : Want ops (cut (o.looksAt ops) env) o true) (hd : o.dst = some d)
    (ho : o.op = .call { callee := .value f, args, argTypes := ats }) (hf : rd (cut (o.looksAt ops) env) f = some (.func (.func F) #[] #[])) (ha : rds (cut (o.looksAt ops) env) args.toList = some vb) (hF : Callable P F)
    (T : Fun P F vb v) (K : VD P m g ops Q s0 (⟨done.length, some d, o.looksAt ops, v, [], n, 0, []⟩ :: done) l ⟨(d, v) :: env, V, n⟩) : VD P m g ops Q s0 done (o :: l) ⟨env, V, n⟩ := by
  refine vd_at fun hoi => ?_
  have := does_call (P := P) (m := m) (V := V) (n := n) (k := 0) (rs := []) (v := v) (L := []) (va := []) (vc := []) (vb := vb) hoi hw ho hf ha hF (by simpa using T n _)
  rw [hd] at this
  refine vd_step ?_ ?_ ?_ K
  · exact this
  · funext t; rfl
  · rfl

/-- A test that parts. -/
theorem dg_op {j : Nat} {want : Bool} {d : Nat} {c : Bool} (hg : o.guard = some (j, want)) (h1 : (ops[j]?).bind (·.dst) = some d) (h2 : lkp env d = some (.bool c))
    (ht : c = want → VD P m g ops Q s0 done (o :: l) ⟨(d, .bool want) :: env, V, n⟩) (hf : c = !want → VD P m g ops Q s0 done (o :: l) ⟨(d, .bool (!want)) :: env, V, n⟩) : VD P m g ops Q s0 done (o :: l) ⟨env, V, n⟩ := by
  have key : ∀ b, c = b → VD P m g ops Q s0 done (o :: l) ⟨(d, .bool b) :: env, V, n⟩ → VD P m g ops Q s0 done (o :: l) ⟨env, V, n⟩ := by
    rintro b rfl h
    have e : lkp ((d, .bool c) :: env) = lkp env := by
      funext t
      simp only [lkp]
      split
      · rename_i he; subst he; exact h2.symm
      · rfl
    intro hd
    obtain ⟨more, s1, hc, hrow, hQ⟩ := h hd
    exact ⟨more, s1, hc, by simpa only [e] using hrow, hQ⟩
  by_cases hc : c = want
  · exact key _ hc (ht hc)
  · have hc' : c = !want := by cases c <;> cases want <;> first | rfl | exact (hc rfl).elim
    exact key _ hc' (hf hc')

theorem dgd_op {j : Nat} {want : Bool} {d : Nat} {c : Bool} (b : Bool) (hg : o.guard = some (j, want)) (h1 : (ops[j]?).bind (·.dst) = some d) (h2 : lkp env d = some (.bool c)) (hc : c = b)
    (K : VD P m g ops Q s0 done (o :: l) ⟨(d, .bool b) :: env, V, n⟩) : VD P m g ops Q s0 done (o :: l) ⟨env, V, n⟩ := by
  refine dg_op hg h1 h2 (fun h => ?_) (fun h => ?_)
  · rw [← h, hc]; exact K
  · rw [← h, hc]; exact K

end
end Go.Proofs.YtcjfidfealifhaaGreat.Vm

/- A state as a part of another under other names; a loop that makes blocks. No program in it. -/
set_option linter.unusedVariables false
set_option linter.unusedSimpArgs false
namespace Go.Proofs.YtcjfidfealifhaaGreat.Vm
open Go

/-- s0 is a part of s under other names; those below g are the same. -/
structure Part (g : Nat) (σ : Ren) (s0 s : St) : Prop where
  cap : Plain σ
  low : ∀ j t, j < g → σ j = some t → t.gone = false ∧ t.blk = j
  dom : ∀ j t, σ j = some t → j < s0.n
  inj : ∀ i j t u, σ i = some t → σ j = some u → t.gone = false → u.gone = false → t.blk = u.blk → i = j
  env : ∀ t v, lkp s0.env t = some v → ∃ u, lkp s.env t = some u ∧ VRel σ v u
  obj : ∀ i o, s0.heap i = some o → ∃ t, σ i = some t ∧ ((t.gone = true ∧ o.void = true) ∨ (t.gone = false ∧ ∃ o', s.heap t.blk = some o' ∧ OW σ o o'))
  le : g ≤ s0.n

def Sub (g : Nat) (s0 s : St) : Prop := ∃ σ, Part g σ s0 s

section
variable {P : Program} {τ : Nat → Option TI} {m g : Nat} {Q : Exit → St → Prop} {s s0 : St}

theorem sub_rel (h : Sub g s0 s) {ρ : Ren} {a : Act} {w : World} (hr : Rel m g ρ s a w) :
    ∃ ρ2, Rel m g ρ2 s0 a w ∧ (∀ b, Blks ρ2 s0.heap b → Blks ρ s.heap b) ∧ ∀ i, i < g → ρ2 i = ρ i := by
  obtain ⟨σ, hp⟩ := h
  let ρ2 : Ren := fun i => if i < g then ρ i else compR σ ρ i
  have hext : Ext (compR σ ρ) ρ2 := by
    intro i t ht
    simp only [ρ2]
    split
    · rename_i hi
      obtain ⟨u, hu, _⟩ := Option.bind_eq_some_iff.1 ht
      obtain ⟨h1, h2⟩ := hp.low i u hi hu
      rw [comp_real hu h1, h2] at ht; exact ht
    · exact ht
  have hobj : ∀ i o, s0.heap i = some o → ∃ x, ρ2 i = some x ∧ At ρ2 w x o ∧ (x.gone = false → ∃ t o1, t.gone = false ∧ σ i = some t ∧ s.heap t.blk = some o1 ∧ o1.fixed = o.fixed ∧ ρ t.blk = some x) := by
    intro i o hi
    obtain ⟨t, h1, h2⟩ := hp.obj i o hi
    rcases h2 with ⟨hg, hv⟩ | ⟨hg, o1, h3, h4⟩
    · exact ⟨t, hext _ _ (comp_gone h1 hg), .inl ⟨hg, hv, .inr (hp.cap.thin h1 hg)⟩, fun h => by rw [hg] at h; cases h⟩
    · obtain ⟨x, h5, h6⟩ := hr.sim.has _ _ h3
      refine ⟨x, hext _ _ (by rw [comp_real h1 hg]; exact h5), ?_, fun _ => ⟨t, o1, hg, h1, h3, h4.fixed, h5⟩⟩
      rcases h6 with ⟨h6, h7, h9⟩ | ⟨h6, o', h7, h8⟩
      · exact .inl ⟨h6, h4.void h7, h4.fixed ▸ h9⟩
      · exact .inr ⟨h6, o', h7, (h4.comp hp.cap h8).mono hext⟩
  have hbl : ∀ b, Blks ρ2 s0.heap b → Blks ρ s.heap b := by
    rintro b ⟨i, o, x, hi, hf, hx, hxg, hb⟩
    obtain ⟨x1, a1, _, a2⟩ := hobj i o hi
    rw [a1] at hx; cases hx
    obtain ⟨t, o1, a3, a4, a5, a6, a7⟩ := a2 hxg
    exact ⟨t.blk, o1, _, a5, a6.trans hf, a7, hxg, hb⟩
  refine ⟨ρ2, ⟨?_, hp.le, ⟨?_, ?_, hr.sim.base.sub hbl⟩, ?_, hr.size, hr.defers⟩, hbl, ?_⟩
  · intro i hi
    simp only [ρ2]
    rw [if_neg (by have := hp.le; omega)]
    cases hx : σ i with
    | none => simp [compR, hx]
    | some t => have := hp.dom i t hx; omega
  · intro i o hi
    obtain ⟨x, h1, h2, _⟩ := hobj i o hi
    exact ⟨x, h1, h2⟩
  · intro i j o p x y hij hi hj hx hy hxg hyg hf
    obtain ⟨x1, a1, _, a2⟩ := hobj i o hi
    rw [a1] at hx; cases hx
    obtain ⟨t, o1, a3, a4, a5, a6, a7⟩ := a2 hxg
    obtain ⟨y1, b1, _, b2⟩ := hobj j p hj
    rw [b1] at hy; cases hy
    obtain ⟨u, p1, b3, b4, b5, b6, b7⟩ := b2 hyg
    exact hr.sim.apart t.blk u.blk _ _ _ _ (fun e => hij (hp.inj i j t u a4 b4 a3 b3 e)) a5 b5 a7 b7 hxg hyg (by rw [a6, b6]; exact hf)
  · intro t v ht
    obtain ⟨u, h1, h2⟩ := hp.env t v ht
    obtain ⟨v', h3, h4⟩ := hr.env t u h1
    exact ⟨v', h3, (h2.comp hp.cap h4).mono hext⟩
  · intro i hi
    simp only [ρ2]
    rw [if_pos hi]

theorem keep_sub {ρ ρ2 ρ' : Ren} {V V2 V' : Heap} {w w' : World} (hb : ∀ b, Blks ρ2 V2 b → Blks ρ V b) (h : Keep ρ2 V2 w ρ' V' w') : Keep ρ V w ρ' V' w' :=
  { h with block := fun b hlt hn => h.block b hlt (fun hx => hn (hb b hx)), new := fun b hx => (h.new b hx).imp (hb b) id }

/-- A loop whose rounds make blocks: its relation speaks of a part of the state. -/
theorem vw_loop_sub {c : Code} (I : Nat → St → Prop) (k0 : Nat) (h0 : ∃ s0, Sub g s0 s ∧ I k0 s0)
    (round : ∀ k s, I k s → VW P m g c (then_ (fun s' => ∃ k' s0, k' < k ∧ Sub g s0 s' ∧ I k' s0) Q) s) : VW P m g (.loop c) Q s := by
  intro ρ a w hr
  refine wp_loop_ghost (fun k a1 w1 => ∃ s1 ρ1, I k s1 ∧ Rel m g ρ1 s1 a1 w1 ∧ Keep ρ s.heap w ρ1 s1.heap w1 ∧ ∀ i, i < g → ρ1 i = ρ i) k0 ?_ ?_
  · obtain ⟨s0, h1, h2⟩ := h0
    obtain ⟨ρ2, h3, h4, h5⟩ := sub_rel h1 hr
    exact ⟨s0, ρ2, h2, h3, keep_sub h4 (.refl _ _ _), h5⟩
  rintro k a1 w1 ⟨s1, ρ1, hI, hr1, hk1, hg1⟩
  refine wp_mono (round k s1 hI ρ1 a1 w1 hr1) ?_
  rintro e a2 w2 ⟨s2, ρ2, hq, hr2, hk2, hg2⟩
  cases e with
  | normal =>
    obtain ⟨k', s0, hlt, hs, hI'⟩ := hq
    obtain ⟨ρ3, h3, h4, h5⟩ := sub_rel hs hr2
    refine ⟨k', hlt, s0, ρ3, hI', h3, ?_, fun i hi => (h5 i hi).trans ((hg2 i hi).trans (hg1 i hi))⟩
    exact (hk1.trans hk2).trans (keep_sub h4 (.refl _ _ _))
  | _ => exact ⟨s2, ρ2, hq, hr2, hk1.trans hk2, fun i hi => (hg2 i hi).trans (hg1 i hi)⟩

/-- The number that stands for nothing: a slice that is nil. -/
def NIL : Nat := 1000000

def nameOf (i : Nat) : Slot := if i = NIL then nowhere else ⟨i, none, 0⟩

/-- The names of a part: those below g, and a row of others. -/
def names (g : Nat) (ids : List Nat) : Ren := fun j => if j < g then some ⟨j, none, 0⟩ else (ids[j - g]?).map nameOf

theorem nameOf_plain (i : Nat) : (nameOf i).cap = some (0, 0) ∨ ((nameOf i).cap = none ∧ (nameOf i).base = 0) := by
  unfold nameOf; split
  · exact .inl rfl
  · exact .inr ⟨rfl, rfl⟩
theorem nameOf_real {i : Nat} (h : (nameOf i).gone = false) : i ≠ NIL ∧ nameOf i = ⟨i, none, 0⟩ := by
  unfold nameOf at *
  split at h
  · cases h
  · rename_i hne; exact ⟨hne, if_neg hne⟩

/-- Temporaries, one by one. -/
def EnvPart (σ : Ren) (env0 env : List (Nat × Value)) : Prop := ∀ t v, lkp env0 t = some v → ∃ u, lkp env t = some u ∧ VRel σ v u
theorem ep_nil {σ : Ren} {env : List (Nat × Value)} : EnvPart σ [] env := fun t v h => by cases h
theorem ep_cons {σ : Ren} {env0 env : List (Nat × Value)} {t : Nat} {v u : Value} (h : lkp env t = some u) (hr : VRel σ v u) (k : EnvPart σ env0 env) : EnvPart σ ((t, v) :: env0) env := by
  intro x y hx
  simp only [lkp] at hx
  split at hx
  · rename_i he; subst he; cases hx; exact ⟨u, h, hr⟩
  · exact k x y hx

def HeapPart (σ : Ren) (H0 : List (Nat × VObj)) (V : Heap) : Prop := ∀ i o, lkp H0 i = some o → ∃ t, σ i = some t ∧ ((t.gone = true ∧ o.void = true) ∨ (t.gone = false ∧ ∃ o', V t.blk = some o' ∧ OW σ o o'))
theorem hp_nil {σ : Ren} {V : Heap} : HeapPart σ [] V := fun t v h => by cases h
theorem hp_cons {σ : Ren} {H0 : List (Nat × VObj)} {V : Heap} {i j : Nat} {o o' : VObj} (h1 : σ i = some ⟨j, none, 0⟩) (h2 : V j = some o') (h3 : OV σ o o') (k : HeapPart σ H0 V) : HeapPart σ ((i, o) :: H0) V := by
  intro x y hx
  simp only [lkp] at hx
  split at hx
  · rename_i he; subst he; cases hx; exact ⟨_, h1, .inr ⟨rfl, o', h2, .same h3⟩⟩
  · exact k x y hx
theorem hp_void {σ : Ren} {H0 : List (Nat × VObj)} {V : Heap} {i : Nat} {o : VObj} (h1 : σ i = some nowhere) (h2 : o.void = true) (k : HeapPart σ H0 V) : HeapPart σ ((i, o) :: H0) V := by
  intro x y hx
  simp only [lkp] at hx
  split at hx
  · rename_i he; subst he; cases hx; exact ⟨_, h1, .inl ⟨rfl, h2⟩⟩
  · exact k x y hx

theorem ids_inj {ids : List Nat} (hd : (ids.filter (· != NIL)).Nodup) : ∀ {i j x : Nat}, ids[i]? = some x → ids[j]? = some x → x ≠ NIL → i = j := by
  induction ids with
  | nil => intro i j x h; simp at h
  | cons y r ih =>
    intro i j x hi hj hx
    have hr : (r.filter (· != NIL)).Nodup := by
      simp only [List.filter_cons] at hd
      split at hd
      · exact (List.nodup_cons.1 hd).2
      · exact hd
    have hy : y = x → ∀ k : Nat, r[k]? ≠ some x := by
      rintro rfl k hk
      simp only [List.filter_cons] at hd
      rw [if_pos (by simpa using hx)] at hd
      exact (List.nodup_cons.1 hd).1 (List.mem_filter.2 ⟨List.mem_of_getElem? hk, by simpa using hx⟩)
    cases i with
    | zero =>
      simp only [List.getElem?_cons_zero, Option.some.injEq] at hi
      cases j with
      | zero => rfl
      | succ j => exact (hy hi j (by simpa using hj)).elim
    | succ i =>
      cases j with
      | zero =>
        simp only [List.getElem?_cons_zero, Option.some.injEq] at hj
        exact (hy hj i (by simpa using hi)).elim
      | succ j => exact congrArg Nat.succ (ih hr (by simpa using hi) (by simpa using hj) hx)

theorem sub_of (ids : List Nat) (hd : (ids.filter (· != NIL)).Nodup) (hge : ∀ i ∈ ids, g ≤ i) {env0 env : List (Nat × Value)} {H0 : List (Nat × VObj)} {V : Heap} {n : Nat} (he : EnvPart (names g ids) env0 env) (hh : HeapPart (names g ids) H0 V) :
    Sub g ⟨env0, lkp H0, g + ids.length⟩ ⟨env, V, n⟩ := by
  refine ⟨names g ids, ?_, ?_, ?_, ?_, he, hh, Nat.le_add_right _ _⟩
  · intro j t h
    unfold names at h
    split at h
    · cases h; exact .inr ⟨rfl, rfl⟩
    · obtain ⟨x, _, rfl⟩ := Option.map_eq_some_iff.1 h; exact nameOf_plain x
  · intro j t hj h
    unfold names at h
    rw [if_pos hj] at h; cases h; exact ⟨rfl, rfl⟩
  · intro j t h
    unfold names at h
    split at h
    · simp only; omega
    · obtain ⟨x, hx, rfl⟩ := Option.map_eq_some_iff.1 h
      have := (List.getElem?_eq_some_iff.1 hx).1
      simp only; omega
  · intro i j t u hi hj htg hug htu
    unfold names at hi hj
    split at hi <;> split at hj
    · cases hi; cases hj; exact htu
    · cases hi
      obtain ⟨x, hx, rfl⟩ := Option.map_eq_some_iff.1 hj
      rw [(nameOf_real hug).2] at htu
      have := hge x (List.mem_of_getElem? hx)
      simp only at htu; omega
    · cases hj
      obtain ⟨x, hx, rfl⟩ := Option.map_eq_some_iff.1 hi
      rw [(nameOf_real htg).2] at htu
      have := hge x (List.mem_of_getElem? hx)
      simp only at htu; omega
    · obtain ⟨x, hx, rfl⟩ := Option.map_eq_some_iff.1 hi
      obtain ⟨y, hy, rfl⟩ := Option.map_eq_some_iff.1 hj
      rw [(nameOf_real htg).2, (nameOf_real hug).2] at htu
      simp only at htu; subst htu
      have := ids_inj hd hx hy (nameOf_real htg).1
      omega

end
end Go.Proofs.YtcjfidfealifhaaGreat.Vm

/- Contracts of functions that look at slices of their caller's, read or turn its objects, or make new ones. No program in it. -/
set_option linter.unusedVariables false
set_option linter.unusedSimpArgs false
namespace Go.Proofs.YtcjfidfealifhaaGreat.Vm
open Go

def ownNames : List Src → List Nat
  | [] => []
  | .own i :: r => i :: ownNames r
  | .look _ _ _ :: r => ownNames r
def lookNames : List Src → List Nat
  | [] => []
  | .own _ :: r => lookNames r
  | .look (.slice (some a) _ _) _ _ :: r => a.block :: lookNames r
  | .look _ _ _ :: r => lookNames r

/-- Where an own name stands. -/
def place : Nat → List Src → Nat → Option Nat
  | _, [], _ => none
  | k, .own i :: r, j => if j = i then some k else place (k + 1) r j
  | k, .look _ _ _ :: r, j => place (k + 1) r j

theorem place_some : ∀ {l : List Src} {k j a : Nat}, place k l j = some a → k ≤ a ∧ l[a - k]? = some (.own j)
  | [], _, _, _, h => by cases h
  | .own i :: r, k, j, a, h => by
    simp only [place] at h
    split at h
    · rename_i he; subst he; cases h; exact ⟨Nat.le_refl _, by simp⟩
    · obtain ⟨h1, h2⟩ := place_some h
      exact ⟨by omega, by rw [show a - k = (a - (k + 1)) + 1 by omega, List.getElem?_cons_succ]; exact h2⟩
  | .look _ _ _ :: r, k, j, a, h => by
    simp only [place] at h
    obtain ⟨h1, h2⟩ := place_some h
    exact ⟨by omega, by rw [show a - k = (a - (k + 1)) + 1 by omega, List.getElem?_cons_succ]; exact h2⟩

theorem own_mem : ∀ {l : List Src} {a i : Nat}, l[a]? = some (.own i) → i ∈ ownNames l
  | [], _, _, h => by simp at h
  | s :: r, 0, i, h => by
    simp only [List.getElem?_cons_zero, Option.some.injEq] at h; subst h
    exact List.mem_cons_self
  | s :: r, a + 1, i, h => by
    have := own_mem (l := r) (a := a) (by simpa using h)
    cases s with
    | own j => exact List.mem_cons_of_mem _ this
    | look _ _ _ => exact this

theorem look_mem : ∀ {l : List Src} {a i off n c m sz : Nat}, l[a]? = some (.look (.slice (some ⟨i, off, none⟩) n c) m sz) → i ∈ lookNames l
  | [], _, _, _, _, _, _, _, h => by simp at h
  | s :: r, 0, i, off, n, c, m, sz, h => by
    simp only [List.getElem?_cons_zero, Option.some.injEq] at h; subst h
    exact List.mem_cons_self
  | s :: r, a + 1, i, off, n, c, m, sz, h => by
    have := look_mem (l := r) (a := a) (by simpa using h)
    match s with
    | .own j => exact this
    | .look (.slice (some _) _ _) _ _ => exact List.mem_cons_of_mem _ this
    | .look (.slice none _ _) _ _ => exact this
    | .look (.bool _) _ _ => exact this
    | .look (.int _ _) _ _ => exact this
    | .look (.float _ _) _ _ => exact this
    | .look (.complex _ _ _) _ _ => exact this
    | .look (.string _) _ _ => exact this
    | .look (.pointer _) _ _ => exact this
    | .look (.map _) _ _ => exact this
    | .look (.chan _) _ _ => exact this
    | .look .nilFunc _ _ => exact this
    | .look (.func _ _ _) _ _ => exact this
    | .look .nilIface _ _ => exact this
    | .look (.iface _ _) _ _ => exact this
    | .look (.agg _) _ _ => exact this
    | .look (.tuple _) _ _ => exact this

theorem own_inj : ∀ {l : List Src} (hn : (ownNames l).Nodup) {a b i : Nat}, l[a]? = some (.own i) → l[b]? = some (.own i) → a = b
  | [], _, _, _, _, h, _ => by simp at h
  | s :: r, hn, a, b, i, ha, hb => by
    have hr : (ownNames r).Nodup := by
      cases s with
      | own j => exact (List.nodup_cons.1 hn).2
      | look _ _ _ => exact hn
    cases a with
    | zero =>
      simp only [List.getElem?_cons_zero, Option.some.injEq] at ha; subst ha
      cases b with
      | zero => rfl
      | succ b => exact ((List.nodup_cons.1 hn).1 (own_mem (by simpa using hb))).elim
    | succ a =>
      cases b with
      | zero =>
        simp only [List.getElem?_cons_zero, Option.some.injEq] at hb; subst hb
        exact ((List.nodup_cons.1 hn).1 (own_mem (by simpa using ha))).elim
      | succ b => exact congrArg Nat.succ (own_inj hr (by simpa using ha) (by simpa using hb))

theorem place_of : ∀ {l : List Src} {k a j : Nat}, (ownNames l).Nodup → l[a]? = some (.own j) → place k l j = some (k + a)
  | [], _, _, _, _, h => by simp at h
  | .own i :: r, k, a, j, hn, h => by
    simp only [place]
    cases a with
    | zero => simp only [List.getElem?_cons_zero, Option.some.injEq, Src.own.injEq] at h; rw [if_pos h.symm]; rfl
    | succ a =>
      simp only [List.getElem?_cons_succ] at h
      have hne : j ≠ i := fun e => by subst e; exact (List.nodup_cons.1 hn).1 (own_mem h)
      rw [if_neg hne, place_of (List.nodup_cons.1 hn).2 h]
      congr 1; omega
  | .look _ _ _ :: r, k, a, j, hn, h => by
    simp only [place]
    cases a with
    | zero => simp at h
    | succ a =>
      simp only [List.getElem?_cons_succ] at h
      rw [place_of (l := r) hn h]
      congr 1; omega

/-- What a body begins with, one by one. -/
inductive EList (V : Heap) (src0 : List Src) : List Src → List VObj → Prop
  | nil : EList V src0 [] []
  | own {i : Nat} {o o1 : VObj} {r : List Src} {os : List VObj} (hV : V i = some o1) (hov : OV (ownR src0) o o1) (t : EList V src0 r os) : EList V src0 (.own i :: r) (o :: os)
  | look {v : Value} {m sz : Nat} {c : List Value} {r : List Src} {os : List VObj} (hl : Looks V sz v c m) (hf : Flat c) (t : EList V src0 r os) : EList V src0 (.look v m sz :: r) (.win c sz :: os)

theorem elist_len {V : Heap} {src0 r : List Src} {os : List VObj} (h : EList V src0 r os) : r.length = os.length := by
  induction h with
  | nil => rfl
  | own _ _ _ ih => simp [ih]
  | look _ _ _ ih => simp [ih]

theorem elist_get {V : Heap} {src0 r : List Src} {os : List VObj} (h : EList V src0 r os) : ∀ (a : Nat) (o : VObj), os[a]? = some o → ∃ s, r[a]? = some s ∧ match s with
    | .own i => ∃ o1, V i = some o1 ∧ OV (ownR src0) o o1
    | .look v m sz => ∃ c, o = .win c sz ∧ Looks V sz v c m ∧ Flat c := by
  induction h with
  | nil => intro a o h; simp at h
  | own hV hov _ ih =>
    intro a o h
    cases a with
    | zero => simp only [List.getElem?_cons_zero, Option.some.injEq] at h; subst h; exact ⟨_, rfl, _, hV, hov⟩
    | succ a => exact ih a o (by simpa using h)
  | look hl hf _ ih =>
    intro a o h
    cases a with
    | zero => simp only [List.getElem?_cons_zero, Option.some.injEq] at h; subst h; exact ⟨_, rfl, _, rfl, hl, hf⟩
    | succ a => exact ih a o (by simpa using h)

theorem enter_of {V : Heap} {src : List Src} {os : List VObj} (h : EList V src src os) (hn : (ownNames src).Nodup) (hd : ∀ i ∈ lookNames src, i ∉ ownNames src) : Enter V src os :=
  ⟨elist_get h, elist_len h, fun _ _ _ ha hb => own_inj hn ha hb, fun _ _ _ _ _ _ _ _ _ _ ha hb _ _ e => hd _ (look_mem ha) (e ▸ own_mem hb)⟩

/-- The contract's names, as the body has them: those that came in, and new ones. -/
def sigma (src : List Src) (n : Nat) (ids : List Nat) : Ren := fun j => match place 0 src j with
  | some a => if a ∈ ids then none else some ⟨a, none, 0⟩
  | none => if n ≤ j then (ids[j - n]?).map nameOf else none

/-- What comes out. -/
def OutPart (σ : Ren) (L : List (Nat × Option VObj)) (V : Heap) : Prop := ∀ j o, lkp L j = some (some o) → o.fixed = false ∧ ∃ t, σ j = some t ∧ ((t.gone = true ∧ o.void = true) ∨ (t.gone = false ∧ ∃ o', V t.blk = some o' ∧ OW σ o o'))
theorem op_nil {σ : Ren} {V : Heap} : OutPart σ [] V := fun j o h => by cases h
theorem op_cons {σ : Ren} {V : Heap} {j : Nat} {o o' : VObj} {t : Slot} {L : List (Nat × Option VObj)} (h1 : σ j = some t) (hg : t.gone = false) (h2 : V t.blk = some o') (h3 : OV σ o o') (hf : o.fixed = false) (k : OutPart σ L V) : OutPart σ ((j, some o) :: L) V := by
  intro i p h
  simp only [lkp] at h
  split at h
  · rename_i he; subst he; cases h; exact ⟨hf, t, h1, .inr ⟨hg, o', h2, .same h3⟩⟩
  · exact k i p h
theorem op_cut {σ : Ren} {V : Heap} {j : Nat} {o o' : VObj} {t : Slot} {L : List (Nat × Option VObj)} (h1 : σ j = some t) (hg : t.gone = false) (h2 : V t.blk = some o') (h3 : OW σ o o') (hf : o.fixed = false) (k : OutPart σ L V) : OutPart σ ((j, some o) :: L) V := by
  intro i p h
  simp only [lkp] at h
  split at h
  · rename_i he; subst he; cases h; exact ⟨hf, t, h1, .inr ⟨hg, o', h2, h3⟩⟩
  · exact k i p h
theorem op_void {σ : Ren} {V : Heap} {j : Nat} {o : VObj} {t : Slot} {L : List (Nat × Option VObj)} (h1 : σ j = some t) (hg : t.gone = true) (h2 : o.void = true) (hf : o.fixed = false) (k : OutPart σ L V) : OutPart σ ((j, some o) :: L) V := by
  intro i p h
  simp only [lkp] at h
  split at h
  · rename_i he; subst he; cases h; exact ⟨hf, t, h1, .inl ⟨hg, h2⟩⟩
  · exact k i p h
theorem op_drop {σ : Ren} {V : Heap} {j : Nat} {L : List (Nat × Option VObj)} (k : OutPart σ L V) : OutPart σ ((j, none) :: L) V := by
  intro i p h
  simp only [lkp] at h
  split at h
  · cases h
  · exact k i p h

/-- Own objects that are turned are told. -/
def Told (L : List (Nat × Option VObj)) : List Src → List VObj → Prop
  | .own i :: r, o :: os => (o.fixed = false → lkp L i ≠ none) ∧ Told L r os
  | .look _ _ _ :: r, _ :: os => Told L r os
  | _, _ => True

theorem told_get {L : List (Nat × Option VObj)} : ∀ {src : List Src} {os : List VObj}, Told L src os → ∀ (a : Nat) (o : VObj) (i : Nat), os[a]? = some o → o.fixed = false → src[a]? = some (.own i) → lkp L i ≠ none
  | [], _, _, a, o, i, _, _, h => by simp at h
  | s :: r, [], _, a, o, i, h, _, _ => by simp at h
  | s :: r, p :: os, ht, a, o, i, h1, h2, h3 => by
    cases s with
    | own j =>
      cases a with
      | zero => simp only [List.getElem?_cons_zero, Option.some.injEq, Src.own.injEq] at h1 h3; subst h1; subst h3; exact ht.1 h2
      | succ a => exact told_get ht.2 a o i (by simpa using h1) h2 (by simpa using h3)
    | look _ _ _ =>
      cases a with
      | zero => simp at h3
      | succ a => exact told_get (src := r) (os := os) ht a o i (by simpa using h1) h2 (by simpa using h3)

/-- What is to be shown at a function's end. -/
def OutOk (τ : Nat → Option TI) (fn : Func) (n k K : Nat) (src : List Src) (os : List VObj) (R : Value → List (Nat × Option VObj) → Prop) (e : Exit) (s : St) : Prop :=
  (e = .normal ∨ e = .ret) ∧ ∃ v L ids vr, R v L ∧ ids.length = k ∧ (ids.filter (· != NIL)).Nodup ∧ evResults τ s fn.results.toList = some vr ∧ VRel (sigma src n ids) v vr ∧ OutPart (sigma src n ids) L s.heap ∧ Told L src os

theorem out_mk {τ : Nat → Option TI} {fn : Func} {n k K : Nat} {src : List Src} {os : List VObj} {R : Value → List (Nat × Option VObj) → Prop} {e : Exit} {s : St} (ids : List Nat) {v vr : Value} {L : List (Nat × Option VObj)} (he : e = .normal ∨ e = .ret) (hR : R v L) (hr : evResults τ s fn.results.toList = some vr)
    (hv : VRel (sigma src n ids) v vr) (ho : OutPart (sigma src n ids) L s.heap) (ht : Told L src os) (hk : ids.length = k := by rfl) (hn : (ids.filter (· != NIL)).Nodup := by decide) : OutOk τ fn n k K src os R e s :=
  ⟨he, v, L, ids, vr, hR, hk, hn, hr, hv, ho, ht⟩

section
variable {P : Program} {τ : Nat → Option TI} {m : Nat}

theorem sigma_fit {src : List Src} {os : List VObj} {n k K : Nat} {ids : List Nat} {L : List (Nat × Option VObj)} {s : St} (hK : src.length = K) (hn : (ownNames src).Nodup) (hin : ∀ i ∈ ownNames src, i < n) (hidl : ids.length = k) (hnd : (ids.filter (· != NIL)).Nodup)
    (hout : OutPart (sigma src n ids) L s.heap) (hall : Told L src os) : Fit n k src os (sigma src n ids) L s := by
  have hσ : ∀ j t, sigma src n ids j = some t → (t.cap = some (0, 0) ∨ (t.cap = none ∧ t.base = 0)) ∧ ((t.gone = false ∧ src[t.blk]? = some (.own j) ∧ t.blk ∉ ids) ∨ (n ≤ j ∧ ∃ x, ids[j - n]? = some x ∧ t = nameOf x)) := by
    intro j t h
    unfold sigma at h
    split at h
    · rename_i a hx
      split at h
      · cases h
      · rename_i hni
        cases h
        have := (place_some hx).2
        rw [Nat.sub_zero] at this
        exact ⟨.inr ⟨rfl, rfl⟩, .inl ⟨rfl, this, hni⟩⟩
    · split at h
      · obtain ⟨x, hx, rfl⟩ := Option.map_eq_some_iff.1 h
        exact ⟨nameOf_plain x, .inr ⟨‹_›, x, hx, rfl⟩⟩
      · cases h
  refine ⟨fun j t h => (hσ j t h).1, fun j t h => ?_, fun i j t u hi hj htg hug e => ?_, hout, told_get hall⟩
  · rcases (hσ j t h).2 with ⟨h1, h2, _⟩ | ⟨h1, x, h2, _⟩
    · exact .inr ⟨h1, h2⟩
    · have := (List.getElem?_eq_some_iff.1 h2).1
      exact .inl ⟨h1, by omega⟩
  · rcases (hσ i t hi).2 with ⟨_, g1, g0⟩ | ⟨g1, x, g2, rfl⟩ <;> rcases (hσ j u hj).2 with ⟨_, k1, k0⟩ | ⟨k1, y, k2, rfl⟩
    · rw [e, k1] at g1; cases g1; rfl
    · rw [(nameOf_real hug).2] at e
      exact (g0 (by rw [e]; exact List.mem_of_getElem? k2)).elim
    · rw [(nameOf_real htg).2] at e
      exact (k0 (by rw [← e]; exact List.mem_of_getElem? g2)).elim
    · rw [(nameOf_real htg).2, (nameOf_real hug).2] at e
      simp only at e; subst e
      have := ids_inj hnd g2 k2 (nameOf_real htg).1
      omega

theorem call_of_vw (hτ : Tab P τ) {F : FuncId} {fn : Func} {c : Code} {args argsI : List Value} {n k K : Nat} {V : Heap} {R : Value → List (Nat × Option VObj) → Prop} (hf : P.funcs[F]? = some fn) (hb : fn.body = some c) (hm : fn.ntmps = m) (hlen : argsI.length ≤ m)
    (src : List Src) (os : List VObj) (hK : src.length = K) (he : EList V src src os) (hn : (ownNames src).Nodup) (hd : ∀ i ∈ lookNames src, i ∉ ownNames src) (hin : ∀ i ∈ ownNames src, i < n)
    (ha : AList src argsI args) (hs : ∀ (a : Nat) (v : Value) (m sz : Nat), src[a]? = some (Src.look v m sz) → Seen V args v)
    (h : VW P m K c (OutOk τ fn n k K src os R) ⟨argEnv 0 argsI, lkp (oHeap 0 os), K⟩) : Tri P F args n k V R := by
  refine tri_of_vw hτ hf hb hm hlen K src os (elist_len he ▸ hK) (enter_of he hn hd) ha hs (h.mono ?_)
  rintro e s ⟨h1, v, L, ids, vr, hR, hidl, hnd, hres, hvr, hout, hall⟩
  exact ⟨h1, v, L, sigma src n ids, vr, hR, hres, hvr, sigma_fit hK hn hin hidl hnd hout hall⟩

theorem tri_drop {F : FuncId} {args : List Value} {n k : Nat} {V : Heap} {v : Value} (h : Tri P F args n k V (fun u L => u = v ∧ over V L = V)) : Tri P F args n k V (fun u L => u = v ∧ L = []) := by
  intro ρ w args' hl hs ha
  refine (h ρ w args' hl hs ha).mono ?_
  rintro e w' ⟨u, L, v', ρ', ⟨rfl, hL⟩, r⟩
  exact ⟨u, [], v', ρ', ⟨rfl, rfl⟩, by rw [hL] at r; exact r⟩

/-- What is read is as it was. -/
def Stays (V : Heap) : Nat → List Src → List VObj → Prop
  | k, .own _ :: r, o :: os => (o.fixed = false → V k = some o) ∧ Stays V (k + 1) r os
  | k, .look _ _ _ :: r, _ :: os => Stays V (k + 1) r os
  | _, _, _ => True

theorem stays_get {V : Heap} : ∀ {src : List Src} {os : List VObj} {k : Nat}, Stays V k src os → ∀ (a : Nat) (o : VObj) (i : Nat), os[a]? = some o → o.fixed = false → src[a]? = some (.own i) → V (k + a) = some o
  | [], _, _, _, a, o, i, _, _, h => by simp at h
  | s :: r, [], _, _, a, o, i, h, _, _ => by simp at h
  | s :: r, p :: os, k, ht, a, o, i, h1, h2, h3 => by
    cases s with
    | own j =>
      cases a with
      | zero => simp only [List.getElem?_cons_zero, Option.some.injEq] at h1; subst h1; exact ht.1 h2
      | succ a =>
        have := stays_get ht.2 a o i (by simpa using h1) h2 (by simpa using h3)
        rw [show k + (a + 1) = k + 1 + a by omega]; exact this
    | look _ _ _ =>
      cases a with
      | zero => simp at h3
      | succ a =>
        have := stays_get (src := r) (os := os) (k := k + 1) ht a o i (by simpa using h1) h2 (by simpa using h3)
        rw [show k + (a + 1) = k + 1 + a by omega]; exact this

def backs (V : Heap) : List Src → List (Nat × Option VObj)
  | [] => []
  | .own i :: r => match V i with
    | some o => if o.fixed then backs V r else (i, some o) :: backs V r
    | none => backs V r
  | .look _ _ _ :: r => backs V r

theorem lkp_backs {V : Heap} : ∀ {src : List Src} {j : Nat} {x : Option VObj}, lkp (backs V src) j = some x → ∃ (a : Nat) (o : VObj), src[a]? = some (.own j) ∧ V j = some o ∧ o.fixed = false ∧ x = some o
  | [], j, x, h => by cases h
  | .own i :: r, j, x, h => by
    have rest : lkp (backs V r) j = some x → ∃ (a : Nat) (o : VObj), (Src.own i :: r)[a]? = some (.own j) ∧ V j = some o ∧ o.fixed = false ∧ x = some o := fun h => by
      obtain ⟨a, o, h1, h2⟩ := lkp_backs h
      exact ⟨a + 1, o, by simpa using h1, h2⟩
    simp only [backs] at h
    split at h
    · rename_i o hV
      split at h
      · exact rest h
      · rename_i hf
        simp only [lkp] at h
        split at h
        · rename_i he; subst he; cases h; exact ⟨0, o, rfl, hV, by simpa using hf, rfl⟩
        · exact rest h
    · exact rest h
  | .look _ _ _ :: r, j, x, h => by
    obtain ⟨a, o, h1, h2⟩ := lkp_backs (src := r) h
    exact ⟨a + 1, o, by simpa using h1, h2⟩

theorem lkp_backs_ne {V : Heap} {o : VObj} : ∀ {src : List Src} {a j : Nat}, src[a]? = some (.own j) → V j = some o → o.fixed = false → lkp (backs V src) j ≠ none
  | [], a, j, h, _, _ => by simp at h
  | s :: r, a, j, h, hV, hf => by
    have step : ∀ (l : List (Nat × Option VObj)) (x : Nat × Option VObj), lkp l j ≠ none → lkp (x :: l) j ≠ none := by
      intro l x hl
      simp only [lkp]
      split
      · simp
      · exact hl
    cases a with
    | zero =>
      simp only [List.getElem?_cons_zero, Option.some.injEq] at h; subst h
      simp only [backs, hV, hf, Bool.false_eq_true, if_false, lkp, if_true]
      simp
    | succ a =>
      have ih := lkp_backs_ne (src := r) (a := a) (by simpa using h) hV hf
      cases s with
      | own i =>
        simp only [backs]
        split
        · split
          · exact ih
          · exact step _ _ ih
        · exact ih
      | look _ _ _ => exact ih

/-- Names back. -/
theorem vrel_inv {σ τ : Ren} (h : ∀ a s, τ a = some s → s = ⟨s.blk, none, 0⟩ ∧ σ s.blk = some ⟨a, none, 0⟩) {x y : Value} (hv : VRel τ x y) : VRel σ y x := by
  induction hv with
  | bool b => exact .bool b
  | int k n => exact .int k n
  | string s => exact .string s
  | nilPtr => exact .nilPtr
  | ptr hi hg =>
    obtain ⟨h1, h2⟩ := h _ _ hi
    rw [h1]
    simp only [Nat.zero_add]
    simpa using VRel.ptr h2
  | nilSlice => exact .nilSlice
  | slice hi hc =>
    obtain ⟨h1, h2⟩ := h _ _ hi
    rw [h1]
    simp only [Nat.zero_add]
    simpa using VRel.slice h2 rfl
  | oslice hi hc => rw [(h _ _ hi).1] at hc; cases hc
  | ghost hi hc => rw [(h _ _ hi).1] at hc; cases hc
  | hollow hi hc => rw [(h _ _ hi).1] at hc; cases hc
  | nilMap => exact .nilMap
  | map hi hg =>
    obtain ⟨h1, h2⟩ := h _ _ hi
    exact .map h2
  | nilFunc => exact .nilFunc
  | func h1 _ h3 _ ih1 ih2 => exact .func h1.symm (fun i v v' a b => ih1 i v' v b a) h3.symm (fun i v v' a b => ih2 i v' v b a)
  | nilIface => exact .nilIface
  | iface t _ ih => exact .iface t ih
  | agg h1 _ ih => exact .agg h1.symm (fun i v v' a b => ih i v' v b a)
  | tuple h1 _ ih => exact .tuple h1.symm (fun i v v' a b => ih i v' v b a)

theorem ov_inv {σ τ : Ren} (h : ∀ a s, τ a = some s → s = ⟨s.blk, none, 0⟩ ∧ σ s.blk = some ⟨a, none, 0⟩) {x y : VObj} (hv : OV τ x y) : OV σ y x := by
  have hl : ∀ {a b : List Value}, LRel τ a b → LRel σ b a := fun k => ⟨k.1.symm, fun i v v' h1 h2 => vrel_inv h (k.2 i v' v h2 h1)⟩
  cases hv with
  | cells e fr k => exact .cells e fr (hl k)
  | opn e sz k => exact .opn e sz (hl k)
  | ro k => exact .ro (hl k)
  | win sz k => exact .win sz (hl k)
  | emp => exact .emp
  | map h1 h2 h3 => exact .map (hl h1) (hl h2) h3.symm

/-- A function that reads. What it gives bears no name. -/
theorem reads_of_vw (hτ : Tab P τ) {F : FuncId} {fn : Func} {c : Code} {args argsI : List Value} {n K : Nat} {V : Heap} {v : Value} (hf : P.funcs[F]? = some fn) (hb : fn.body = some c) (hm : fn.ntmps = m) (hlen : argsI.length ≤ m)
    (src : List Src) (os : List VObj) (hK : src.length = K) (he : EList V src src os) (hn : (ownNames src).Nodup) (hd : ∀ i ∈ lookNames src, i ∉ ownNames src)
    (ha : AList src argsI args) (hs : ∀ (a : Nat) (v : Value) (m sz : Nat), src[a]? = some (Src.look v m sz) → Seen V args v) (hv : VRel no v v)
    (h : VW P m K c (fun e s => ((e = .normal ∨ e = .ret) ∧ evResults τ s fn.results.toList = some v) ∧ Stays s.heap 0 src os) ⟨argEnv 0 argsI, lkp (oHeap 0 os), K⟩) : Tri P F args n 0 V (fun u L => u = v ∧ L = []) := by
  refine tri_drop ?_
  refine tri_of_vw hτ hf hb hm hlen K src os (elist_len he ▸ hK) (enter_of he hn hd) ha hs (h.mono ?_)
  rintro e s ⟨⟨h1, h2⟩, h3⟩
  let σ : Ren := fun j => (place 0 src j).map (⟨·, none, 0⟩)
  have hσ : ∀ j t, σ j = some t → src[t.blk]? = some (.own j) ∧ t = ⟨t.blk, none, 0⟩ := by
    intro j t h
    obtain ⟨a, hx, rfl⟩ := Option.map_eq_some_iff.1 h
    have := (place_some hx).2
    exact ⟨by simpa using this, rfl⟩
  have hov : ∀ {o o1 : VObj}, OV (ownR src) o o1 → OV σ o1 o := fun k => ov_inv (fun a s ha => by
    obtain ⟨h1, h2⟩ := ownR_some ha
    exact ⟨h2, by simp only [σ, place_of hn h1, Nat.zero_add]; rfl⟩) k
  refine ⟨h1, v, backs V src, σ, v, ⟨rfl, ?_⟩, h2, hv.mono (fun _ _ h => by cases h), ⟨fun j t h => by rw [(hσ j t h).2]; exact .inr ⟨rfl, rfl⟩, fun j t h => .inr ⟨by rw [(hσ j t h).2]; rfl, (hσ j t h).1⟩, fun i j t u hi hj _ _ e => ?_, fun i o hi => ?_, fun a o i hao ho hi => ?_⟩⟩
  · funext j
    unfold over
    cases hx : lkp (backs V src) j with
    | none => rfl
    | some x =>
      obtain ⟨a, o, g1, g2, _, rfl⟩ := lkp_backs hx
      exact g2.symm
  · have g1 := (hσ i t hi).1
    have g2 := (hσ j u hj).1
    rw [e, g2] at g1; cases g1; rfl
  · obtain ⟨a, o', g1, g2, g3, g4⟩ := lkp_backs hi
    cases g4
    have hlt : a < os.length := elist_len he ▸ (List.getElem?_eq_some_iff.1 g1).1
    obtain ⟨sr, p1, p2⟩ := elist_get he a os[a] (by simp [hlt])
    rw [g1] at p1; cases p1
    obtain ⟨o1, p3, p4⟩ := p2
    rw [g2] at p3; cases p3
    have hfx : os[a].fixed = false := p4.fixed ▸ g3
    have hst := stays_get h3 a os[a] i (by simp [hlt]) hfx g1
    rw [Nat.zero_add] at hst
    refine ⟨g3, ⟨a, none, 0⟩, by simp only [σ, place_of hn g1, Nat.zero_add]; rfl, .inr ⟨rfl, os[a], hst, .same (hov p4)⟩⟩
  · obtain ⟨sr, p1, p2⟩ := elist_get he a o hao
    rw [hi] at p1; cases p1
    obtain ⟨o1, p3, p4⟩ := p2
    exact lkp_backs_ne hi p3 (p4.fixed.trans ho)

/-- A call of a function that reads objects. -/
theorem vr_op {g : Nat} {Q : Exit → St → Prop} {ops : Array Oper} {l : List Oper} {o : Oper} {env : List (Nat × Value)} {V : Heap} {n : Nat} {F : FuncId} {f : Operand} {args : Array Operand} {ats : Array TypeId} {vb : List Value} {d : Nat} {v : Value} (hw : Want ops env o true) (hd : o.dst = some d)
    (hm : fitsT m (some d) = true) (ho : o.op = .call { callee := .value f, args, argTypes := ats }) (hf : rd env f = some (.func (.func F) #[] #[])) (ha : rds env args.toList = some vb) (hF : Callable P F)
    (T : Tri P F vb n 0 V (fun u L => u = v ∧ L = [])) (K : VL P m g ops Q l ⟨(d, v) :: env, V, n⟩) : VL P m g ops Q (o :: l) ⟨env, V, n⟩ := by
  refine vl_call (s := ⟨env, V, n⟩) (va := []) (vc := []) (vb := vb) (k := 0) (R := fun u L => u = v ∧ L = []) hw (by rw [hd]; exact hm) ho hf ha hF (by simpa using T) ?_
  rintro u L ⟨rfl, rfl⟩
  rw [hd]; exact K

theorem dr_op {g : Nat} {Q : Exit → St → Prop} {ops : Array Oper} {l : List Oper} {o : Oper} {env : List (Nat × Value)} {V : Heap} {n : Nat} {s0 : St} {done : List Item} {F : FuncId} {f : Operand} {args : Array Operand} {ats : Array TypeId} {vb : List Value} {d : Nat} {v : Value}
    (hw : Want ops (cut (o.looksAt ops) env) o true) (hd : o.dst = some d) (ho : o.op = .call { callee := .value f, args, argTypes := ats }) (hf : rd (cut (o.looksAt ops) env) f = some (.func (.func F) #[] #[])) (ha : rds (cut (o.looksAt ops) env) args.toList = some vb) (hF : Callable P F)
    (T : Tri P F vb n 0 (only (vb.flatMap at_) V) (fun u L => u = v ∧ L = [])) (K : VD P m g ops Q s0 (⟨done.length, some d, o.looksAt ops, v, [], n, 0, vb.flatMap at_⟩ :: done) l ⟨(d, v) :: env, V, n⟩) : VD P m g ops Q s0 done (o :: l) ⟨env, V, n⟩ := by
  refine vd_at fun hoi => ?_
  have := does_call (P := P) (m := m) (V := V) (n := n) (k := 0) (rs := vb.flatMap at_) (v := v) (L := []) (va := []) (vc := []) (vb := vb) hoi hw ho hf ha hF (by simpa using T)
  rw [hd] at this
  refine vd_step ?_ ?_ ?_ K
  · exact this
  · funext t; rfl
  · rfl

/-- A call of a function that turns objects. -/
theorem vt_op {g : Nat} {Q : Exit → St → Prop} {ops : Array Oper} {l : List Oper} {o : Oper} {env : List (Nat × Value)} {V : Heap} {n k : Nat} {F : FuncId} {f : Operand} {args : Array Operand} {ats : Array TypeId} {vb : List Value} {d : Nat} {v : Value} {L : List (Nat × Option VObj)} (hw : Want ops env o true)
    (hd : o.dst = some d) (hm : fitsT m (some d) = true) (ho : o.op = .call { callee := .value f, args, argTypes := ats }) (hf : rd env f = some (.func (.func F) #[] #[])) (ha : rds env args.toList = some vb) (hF : Callable P F)
    (T : Tri P F vb n k V (fun u L' => u = v ∧ L' = L)) (K : VL P m g ops Q l ⟨(d, v) :: env, over V L, n + k⟩) : VL P m g ops Q (o :: l) ⟨env, V, n⟩ := by
  refine vl_call (s := ⟨env, V, n⟩) (va := []) (vc := []) (vb := vb) (k := k) (R := fun u L' => u = v ∧ L' = L) hw (by rw [hd]; exact hm) ho hf ha hF (by simpa using T) ?_
  rintro u L' ⟨rfl, rfl⟩
  rw [hd]; exact K

theorem dt_op {g : Nat} {Q : Exit → St → Prop} {ops : Array Oper} {l : List Oper} {o : Oper} {env : List (Nat × Value)} {V : Heap} {n k : Nat} {s0 : St} {done : List Item} {F : FuncId} {f : Operand} {args : Array Operand} {ats : Array TypeId} {vb : List Value} {d : Nat} {v : Value} {L : List (Nat × Option VObj)}
    (rs : List Nat) (hw : Want ops (cut (o.looksAt ops) env) o true) (hd : o.dst = some d) (ho : o.op = .call { callee := .value f, args, argTypes := ats }) (hf : rd (cut (o.looksAt ops) env) f = some (.func (.func F) #[] #[])) (ha : rds (cut (o.looksAt ops) env) args.toList = some vb)
    (hF : Callable P F) (T : Tri P F vb n k (only rs V) (fun u L' => u = v ∧ L' = L)) (K : VD P m g ops Q s0 (⟨done.length, some d, o.looksAt ops, v, L, n, k, rs⟩ :: done) l ⟨(d, v) :: env, over V L, n + k⟩) : VD P m g ops Q s0 done (o :: l) ⟨env, V, n⟩ := by
  refine vd_at fun hoi => ?_
  have := does_call (P := P) (m := m) (V := V) (n := n) (k := k) (rs := rs) (v := v) (L := L) (va := []) (vc := []) (vb := vb) hoi hw ho hf ha hF (by simpa using T)
  rw [hd] at this
  refine vd_step ?_ ?_ ?_ K
  · exact this
  · funext t; rfl
  · rfl
end
end Go.Proofs.YtcjfidfealifhaaGreat.Vm

/- Operations at places that are told by numbers. No program in it. -/
set_option linter.unusedVariables false
set_option linter.unusedSimpArgs false
namespace Go.Proofs.YtcjfidfealifhaaGreat.Vm
open Go
section
variable {τ : Nat → Option TI} {env : List (Nat × Value)} {V : Heap} {n : Nat}

theorem ev_index {t e b off len cap : Nat} {x ix : Operand} {k : IntKind} {i : Int} {ti te : TI} (hx : rd env x = some (.slice (some ⟨b, off, none⟩) len cap)) (hi : rd env ix = some (.int k i)) (ht : τ t = some ti) (hd : ti.desc = .slice e) (he : τ e = some te)
    (h0 : 0 ≤ i) (h1 : i < (len : Int)) : evOp τ env V n (.indexAddr t x ix) = some ⟨.pointer (some ⟨b, off + i.toNat * te.size, none⟩), [], 0, []⟩ := by
  simp only [evOp, hx, hi, evIndexAddr, ht, hd, he]
  rw [if_pos ⟨h0, h1⟩]; rfl

theorem ev_load1 {t b off : Nat} {x : Operand} {ti : TI} {c : List Value} {v : Value} (hx : rd env x = some (.pointer (some ⟨b, off, none⟩))) (ht : τ t = some ti) (ha : isAggB ti.desc = false) (hV : (V b).bind cellsOf = some c) (hc : c[off]? = some v) :
    evOp τ env V n (.load t x) = some ⟨v, [], 0, [b]⟩ := by
  simp only [evOp, hx, Option.bind_some, evLoad, ht, hV, ha, hc]; rfl

theorem ri {σ : Ren} {k : IntKind} {a b : Int} (h : a = b) : VRel σ (.int k a) (.int k b) := by rw [h]; exact .int _ _
theorem get_some {α : Type} {xs : List α} {i : Int} (h0 : 0 ≤ i) (h1 : i < (xs.length : Int)) : ∃ x, xs[i.toNat]? = some x := ⟨xs[i.toNat]'(by omega), by simp⟩
end
end Go.Proofs.YtcjfidfealifhaaGreat.Vm

/- Further rules: operations told by a fact; append in its place; is a slice nil; a slice whose room is cut, unused. No program in it. -/
set_option linter.unusedVariables false
set_option linter.unusedSimpArgs false
namespace Go.Proofs.YtcjfidfealifhaaGreat.Vm
open Go

/-- An operation does so. -/
def Opr (P : Program) (env : List (Nat × Value)) (V : Heap) (n : Nat) (o : Oper) (r : Res) : Prop :=
  ∀ ρ w e, Sim ρ V w → Rd ρ env e → (∀ i, n ≤ i → i < n + r.k → ρ i = none) → OpOk P (execOp e o) ρ V w n r

section
variable {P : Program} {τ : Nat → Option TI} {m g : Nat} {Q : Exit → St → Prop} {ops : Array Oper} {l : List Oper} {o : Oper} {env : List (Nat × Value)} {V : Heap} {n : Nat}

theorem opr_ev (hτ : Tab P τ) {r : Res} (h : evOp τ env V n o.op = some r) : Opr P env V n o r :=
  fun ρ w e hs hr hn => evOp_ok hτ.ok hτ.zs hs hr hn h

/-- append where there is room. -/
theorem opr_in (hτ : Tab P τ) {x y : Operand} {t : TypeId} {a b : Value} {r : Res} (ho : o.op = .call { callee := .builtin .append, args := #[x, y], argTypes := #[t, t] }) (ha : rd env x = some a) (hb : rd env y = some b) (h : evAppendIn τ V t a b = some r) : Opr P env V n o r := by
  intro ρ w e hs hr hn
  obtain ⟨dst, op, type, pos, after, guard⟩ := o
  simp only at ho; subst ho
  have := (evAppendIn_ok (P := P) (n := n) (ty := type) hτ.ok hs (hr _ _ ha) (hr _ _ hb) h).op
  obtain ⟨v', w', ρ', h3, h4⟩ := this
  exact ⟨v', w', ρ', by simpa [execOp, resolve, invoke, builtin] using h3, h4⟩

theorem vo_op {d : Nat} {v : Value} {L : List (Nat × Option VObj)} {k : Nat} {rs : List Nat} (hw : Want ops env o true) (hd : o.dst = some d) (hm : fitsT m (some d) = true) (H : Opr P env V n o ⟨v, L, k, rs⟩)
    (K : VL P m g ops Q l ⟨(d, v) :: env, over V L, n + k⟩) : VL P m g ops Q (o :: l) ⟨env, V, n⟩ := by
  intro ρ a w hr
  simp only [wpList]
  rw [if_pos (want_ok hr hw)]
  obtain ⟨v', w', ρ', h1, h2, h3, h4, h5⟩ := H ρ w _ hr.sim (rel_rd hr) (fun i h1 _ => hr.bd i h1)
  have hnext := rel_next (s := ⟨env, V, n⟩) (v := v) (L := L) (k := k) hr (d := o.dst) (by rw [hd]; exact hm) h2 h3 h5
  rw [hd] at hnext
  have hK := post_list (s := ⟨env, V, n⟩) (s1 := ⟨(d, v) :: env, over V L, n + k⟩) h4 (old_same hr h5) (K ρ' _ w' hnext)
  refine .inl ?_
  unfold Oper.wp
  rcases h1 with h1 | ⟨h1, rfl⟩
  · rw [h1]; simp only [Oper.upon, hd]; exact hK
  · rw [h1]; simp only [Oper.upon, hd]; exact hK

/-- Is a slice nil? If it is, it is empty. -/
theorem vnil_op {t : TypeId} {e : TypeId} {x : Operand} {d i off len cap : Nat} {ti : TI} (hτ : Tab P τ) (hw : Want ops env o true) (hd : o.dst = some d) (hm : fitsT m (some d) = true) {u : TypeId} (ho : o.op = .binOp .eql t x (.const (.slice none 0 0)) u)
    (ht : τ t = some ti) (hde : ti.desc = .slice e) (hx : rd env x = some (.slice (some ⟨i, off, none⟩) len cap))
    (h1 : len = 0 → VL P m g ops Q l ⟨(d, .bool true) :: env, V, n⟩) (h2 : VL P m g ops Q l ⟨(d, .bool false) :: env, V, n⟩) : VL P m g ops Q (o :: l) ⟨env, V, n⟩ := by
  intro ρ a w hr
  simp only [wpList]
  rw [if_pos (want_ok hr hw)]
  have hv := rel_rd hr _ _ hx
  have hu := hτ.ok.under t ti ht
  rw [hde] at hu
  have hrun : ∀ (y : Value) (c : Bool), a.eval x = y → (∃ aa ll cc, y = .slice aa ll cc ∧ aa.isNone = c) → (execOp a.eval o).run P w = .ok (.value (.bool c)) w := by
    rintro y c hy ⟨aa, ll, cc, rfl, hc⟩
    have he : a.eval (.const (.slice none 0 0)) = .slice none 0 0 := rfl
    have e2 : ∀ dd, (Op.equalIn (dd + 1) t (.slice aa ll cc) (.slice none 0 0)).run P w = .ok c w := by
      intro dd
      cases aa with
      | none => subst hc; simp [Op.equalIn, run_underlying hu]
      | some aa => subst hc; simp [Op.equalIn, run_underlying hu]
    have e3 : (Op.equal t (.slice aa ll cc) (.slice none 0 0)).run P w = .ok c w := e2 9999
    have hg : (eqGuard .eql t x (.const (.slice none 0 0)) (.slice aa ll cc) (.slice none 0 0)).run P w = .ok () w := rfl
    have hb : (binOp .eql t (.slice aa ll cc) (.slice none 0 0)).run P w = .ok (.bool c) w := by
      have : binOp .eql t (.slice aa ll cc) (.slice none 0 0) = (do pure (.bool (← Op.equal t (.slice aa ll cc) (.slice none 0 0)))) := rfl
      rw [this]; simp [e3]
    simp only [execOp, ho, hy, he, Sem.run_bind, hg, hb, Result.andThen_ok, Sem.run_pure]
  have fin : ∀ c : Bool, (execOp a.eval o).run P w = .ok (.value (.bool c)) w → VL P m g ops Q l ⟨(d, .bool c) :: env, V, n⟩ → (wpList P ops (Post m g Q ρ ⟨env, V, n⟩ w) (o :: l) a w) := by
    intro c hc hK
    simp only [wpList]
    rw [if_pos (want_ok hr hw)]
    refine .inl ?_
    unfold Oper.wp
    rw [hc]
    simp only [Oper.upon, hd]
    have hnext := rel_next (s := ⟨env, V, n⟩) (v := .bool c) (v' := .bool c) (L := []) (k := 0) hr (d := some d) hm (.bool c) (by rw [over_nil]; exact hr.sim) (fun _ _ => rfl)
    exact hK ρ _ w hnext
  have fin' : ∀ c : Bool, (execOp a.eval o).run P w = .ok (.value (.bool c)) w → VL P m g ops Q l ⟨(d, .bool c) :: env, V, n⟩ → _ := fun c hc hK => by
    have := fin c hc hK
    simp only [wpList] at this
    rw [if_pos (want_ok hr hw)] at this
    exact this
  generalize hy : a.eval x = y at hv
  cases hv with
  | slice _ _ => exact fin' false (hrun _ false hy ⟨_, _, _, rfl, rfl⟩) h2
  | oslice _ _ _ _ _ => exact fin' false (hrun _ false hy ⟨_, _, _, rfl, rfl⟩) h2
  | hollow _ _ => exact fin' false (hrun _ false hy ⟨_, _, _, rfl, rfl⟩) h2
  | ghost _ _ => exact fin' true (hrun _ true hy ⟨_, _, _, rfl, rfl⟩) (h1 rfl)

/-- A slice with its room cut: it is within its length; nobody uses it. -/
theorem vx_op {t e : TypeId} {x lo hi mx : Operand} {d i off len cap : Nat} {a b c : Int} {k1 k2 k3 : IntKind} {ti te : TI} (hτ : Tab P τ) (hw : Want ops env o true) (hd : o.dst = some d) (hfresh : lkp env d = none) (ho : o.op = .slice t x (some lo) (some hi) (some mx))
    (ht : τ t = some ti) (hde : ti.desc = .slice e) (hte : τ e = some te) (hx : rd env x = some (.slice (some ⟨i, off, none⟩) len cap)) (ha : rd env lo = some (.int k1 a)) (hb : rd env hi = some (.int k2 b)) (hc : rd env mx = some (.int k3 c))
    (h0 : 0 ≤ a) (h1 : a ≤ b) (h2 : b ≤ c) (h3 : c ≤ (len : Int)) (hcap : ∀ ρ x', (∃ w, Sim ρ V w) → VRel ρ (.slice (some ⟨i, off, none⟩) len cap) x' → ∃ aa cc, x' = .slice aa len cc ∧ len ≤ cc)
    (K : VL P m g ops Q l ⟨env, V, n⟩) : VL P m g ops Q (o :: l) ⟨env, V, n⟩ := by
  intro ρ ac w hr
  simp only [wpList]
  rw [if_pos (want_ok hr hw)]
  have hv := rel_rd hr _ _ hx
  have hva := rel_rd hr _ _ ha
  have hvb := rel_rd hr _ _ hb
  have hvc := rel_rd hr _ _ hc
  have hu := hτ.ok.under t ti ht
  rw [hde] at hu
  obtain ⟨aa, cc, hy, hcc⟩ := hcap ρ _ ⟨w, hr.sim⟩ hv
  generalize hya : ac.eval lo = ya at hva
  generalize hyb : ac.eval hi = yb at hvb
  generalize hyc : ac.eval mx = yc at hvc
  cases hva; cases hvb; cases hvc
  have e1 : (Instr.sliceBound (.int k3 c) cc .slice3Acap).run P w = .ok c.toNat w := by
    simp only [Instr.sliceBound, asIntOf, Sem.run_bind, Sem.run_pure, Result.andThen_ok]
    rw [if_pos ⟨by omega, by omega⟩]; rfl
  have e2 : (Instr.sliceBound (.int k2 b) c.toNat .slice3B).run P w = .ok b.toNat w := by
    simp only [Instr.sliceBound, asIntOf, Sem.run_bind, Sem.run_pure, Result.andThen_ok]
    rw [if_pos ⟨by omega, by omega⟩]; rfl
  have e3 : (Instr.sliceBound (.int k1 a) b.toNat .slice3C).run P w = .ok a.toNat w := by
    simp only [Instr.sliceBound, asIntOf, Sem.run_bind, Sem.run_pure, Result.andThen_ok]
    rw [if_pos ⟨by omega, by omega⟩]; rfl
  have hbs : (Instr.sliceBounds true len cc (some (.int k1 a)) (some (.int k2 b)) (some (.int k3 c))).run P w = .ok (a.toNat, b.toNat, c.toNat) w := by
    simp [Instr.sliceBounds, e1, e2, e3]
  have hrun : ∃ y, (execOp ac.eval o).run P w = .ok (.value y) w := by
    refine ⟨.slice (if c.toNat = a.toNat then aa else aa.map (·.add (a.toNat * te.size))) (b.toNat - a.toNat) (c.toNat - a.toNat), ?_⟩
    simp only [execOp, ho, Option.map_some, hy, hya, hyb, hyc, Instr.sliceAt, Instr.slice, Sem.run_bind, run_underlying hu, Result.andThen_ok, hbs, run_sizeOf' hτ.ok hte, Sem.run_pure]
  obtain ⟨y, hrun⟩ := hrun
  refine .inl ?_
  unfold Oper.wp
  rw [hrun]
  simp only [Oper.upon, hd]
  refine K ρ _ w ⟨hr.bd, hr.old, hr.sim, ?_, ?_, ?_⟩
  · intro t' u ht'
    obtain ⟨u', g1, g2⟩ := hr.env t' u ht'
    refine ⟨u', ?_, g2⟩
    have hne : d ≠ t' := fun e => by subst e; rw [hfresh] at ht'; cases ht'
    simp only [Act.put]
    rw [Array.getElem?_setIfInBounds_ne hne]; exact g1
  · simp [Act.put, hr.size]
  · simp [Act.put, hr.defers]

theorem open_cap {i off len : Nat} {c : List Value} {e : TypeId} {sz : Nat} (hV : V i = some (.opn c e sz)) : ∀ ρ x', (∃ w, Sim ρ V w) → VRel ρ (.slice (some ⟨i, off, none⟩) len 0) x' → ∃ aa cc, x' = .slice aa len cc ∧ len ≤ cc := by
  rintro ρ x' ⟨w, hs⟩ hx
  obtain ⟨s, h1, hat⟩ := hs.has i _ hV
  cases hx with
  | slice hi hc =>
    rw [h1] at hi; cases hi
    rcases hat with ⟨hg, _, _⟩ | ⟨_, o', _, hor⟩
    · rw [gone_none hc] at hg; cases hg
    · cases hor with | opn _ hcap => rw [hc] at hcap; cases hcap
  | oslice hi hc hz he hn => exact ⟨_, _, rfl, by omega⟩
  | ghost => exact ⟨_, _, rfl, Nat.le_refl _⟩
  | hollow => exact ⟨_, _, rfl, Nat.zero_le _⟩

section
variable {s0 : St} {done : List Item}

theorem does_opr {i : Nat} (ho : ops[i]? = some o) {rs : List Nat} {r : Res} (hw : Want ops (cut (o.looksAt ops) env) o true) (h : Opr P (cut (o.looksAt ops) env) (only rs V) n o r) :
    Does P m ops ⟨i, o.dst, o.looksAt ops, r.v, r.L, n, r.k, rs⟩ (lkp env) V := by
  intro ρ a w he hm hs hn K Q hK
  have he' := env_cut he
  unfold wpOp
  simp only [ho]
  rw [if_pos (want_env he' hw)]
  obtain ⟨v', w', ρ', h1, h2, h3, h4, h5⟩ := h ρ w _ hs (rd_env he') hn
  have hnext := hK v' ρ' w' h2 h3 h4 h5
  refine .inl ?_
  unfold Oper.wp
  rcases h1 with h1 | ⟨h1, rfl⟩
  · rw [h1]; exact hnext
  · rw [h1]; exact hnext

theorem do_op {d : Nat} {v : Value} {L : List (Nat × Option VObj)} {k : Nat} {rs' : List Nat} (rs : List Nat) (hw : Want ops (cut (o.looksAt ops) env) o true) (hd : o.dst = some d) (H : Opr P (cut (o.looksAt ops) env) (only rs V) n o ⟨v, L, k, rs'⟩)
    (K : VD P m g ops Q s0 (⟨done.length, some d, o.looksAt ops, v, L, n, k, rs⟩ :: done) l ⟨(d, v) :: env, over V L, n + k⟩) : VD P m g ops Q s0 done (o :: l) ⟨env, V, n⟩ := by
  refine vd_at fun ho => ?_
  have := does_opr (m := m) (rs := rs) ho hw H
  rw [hd] at this
  refine vd_step ?_ ?_ ?_ K
  · exact this
  · funext t; rfl
  · rfl
end
end
end Go.Proofs.YtcjfidfealifhaaGreat.Vm

/- Rows of cells: lists of flat elements; operations on them at places that are told by numbers. No program in it. -/
set_option linter.unusedVariables false
set_option linter.unusedSimpArgs false
namespace Go.Proofs.YtcjfidfealifhaaGreat.Vm
open Go

structure Rw (α : Type) where
  f : α → List Value
  sz : Nat
  len : ∀ a, (f a).length = sz
  flat : ∀ a, Flat (f a)
  pos : 0 < sz

def Rw.cells {α : Type} (R : Rw α) (xs : List α) : List Value := xs.flatMap R.f

section
variable {α : Type} (R : Rw α)

theorem Rw.length (xs : List α) : (R.cells xs).length = xs.length * R.sz := by
  unfold Rw.cells
  induction xs with
  | nil => simp
  | cons a xs ih => simp only [List.flatMap_cons, List.length_append, R.len, ih, List.length_cons, Nat.add_mul, Nat.one_mul]; omega
theorem Rw.append (xs ys : List α) : R.cells (xs ++ ys) = R.cells xs ++ R.cells ys := by unfold Rw.cells; simp
theorem Rw.flat_cells (xs : List α) : Flat (R.cells xs) := fun v h => by
  obtain ⟨a, _, h2⟩ := List.mem_flatMap.1 h
  exact R.flat a v h2
theorem Rw.drop : ∀ (xs : List α) (k : Nat), (R.cells xs).drop (k * R.sz) = R.cells (xs.drop k)
  | xs, 0 => by simp
  | [], k + 1 => by simp [Rw.cells]
  | a :: xs, k + 1 => by
    have : R.cells (a :: xs) = R.f a ++ R.cells xs := rfl
    rw [this, Nat.add_mul, Nat.one_mul, Nat.add_comm, ← List.drop_drop, List.drop_left' (R.len a), Rw.drop xs k]; rfl
theorem Rw.take : ∀ (xs : List α) (k : Nat), (R.cells xs).take (k * R.sz) = R.cells (xs.take k)
  | xs, 0 => by simp [Rw.cells]
  | [], k + 1 => by simp [Rw.cells]
  | a :: xs, k + 1 => by
    have : R.cells (a :: xs) = R.f a ++ R.cells xs := rfl
    have h2 : (R.f a ++ R.cells xs).take (R.sz + k * R.sz) = R.f a ++ (R.cells xs).take (k * R.sz) := by
      have := List.take_length_add_append (l₁ := R.f a) (l₂ := R.cells xs) (i := k * R.sz)
      rw [R.len] at this; exact this
    rw [this, Nat.add_mul, Nat.one_mul, Nat.add_comm, h2, Rw.take xs k]; rfl
theorem Rw.window (xs : List α) (p m : Nat) : ((R.cells xs).drop (p * R.sz)).take (m * R.sz) = R.cells ((xs.drop p).take m) := by rw [R.drop, R.take]
theorem Rw.row {xs : List α} {j : Nat} {a : α} (h : xs[j]? = some a) : ((R.cells xs).drop (j * R.sz)).take R.sz = R.f a := by
  have h1 := R.window xs j 1
  rw [Nat.one_mul] at h1
  rw [h1]
  have : (xs.drop j).take 1 = [a] := by
    rw [List.take_one, List.head?_drop, h]; rfl
  rw [this]; simp [Rw.cells]
theorem Rw.cell {xs : List α} {j q : Nat} {a : α} {v : Value} (h : xs[j]? = some a) (hv : (R.f a)[q]? = some v) : (R.cells xs)[j * R.sz + q]? = some v := by
  have h1 := R.row h
  have hq : q < R.sz := by rw [← R.len a]; exact (List.getElem?_eq_some_iff.1 hv).1
  rw [← h1, List.getElem?_take, if_pos hq, List.getElem?_drop] at hv
  exact hv
theorem Rw.set {xs : List α} {j : Nat} (hj : j < xs.length) (a : α) : splice (R.cells xs) (j * R.sz) (R.f a) = R.cells (xs.set j a) := by
  unfold splice
  rw [R.len, R.take, show j * R.sz + R.sz = (j + 1) * R.sz by rw [Nat.add_mul, Nat.one_mul], R.drop, List.set_eq_take_append_cons_drop, if_pos hj]
  have : R.cells (xs.take j ++ a :: xs.drop (j + 1)) = R.cells (xs.take j) ++ (R.f a ++ R.cells (xs.drop (j + 1))) := by rw [R.append]; rfl
  rw [this, List.append_assoc]
theorem Rw.splice (xs ys : List α) (p : Nat) : splice (R.cells xs) (p * R.sz) (R.cells ys) = R.cells (xs.take p ++ ys ++ xs.drop (p + ys.length)) := by
  unfold Vm.splice
  rw [R.length, ← Nat.add_mul, R.take, R.drop, R.append, R.append]
/-- A cell of an element is set. -/
theorem Rw.set_cell {xs : List α} {j q : Nat} {a b : α} {v : Value} (hj : xs[j]? = some a) (hb : (R.f a).set q v = R.f b) (hq : q < R.sz) : (R.cells xs).set (j * R.sz + q) v = R.cells (xs.set j b) := by
  have hlt := (List.getElem?_eq_some_iff.1 hj).1
  rw [← R.set hlt b, ← hb]
  have hrow := R.row hj
  have hl := R.length xs
  have hle : j * R.sz + R.sz ≤ (R.cells xs).length := by
    rw [hl, show j * R.sz + R.sz = (j + 1) * R.sz by rw [Nat.add_mul, Nat.one_mul]]; exact Nat.mul_le_mul_right _ hlt
  apply List.ext_getElem?
  intro i
  unfold Vm.splice
  rw [List.length_set, R.len]
  by_cases h1 : i < j * R.sz
  · rw [List.getElem?_set_ne (by omega), List.append_assoc, List.getElem?_append_left (by simp; omega), List.getElem?_take, if_pos h1]
  · by_cases h2 : i < j * R.sz + R.sz
    · have e : i = j * R.sz + (i - j * R.sz) := by omega
      rw [List.append_assoc, List.getElem?_append_right (by simp; omega), List.getElem?_append_left (by simp [R.len]; omega)]
      have hlen : ((R.cells xs).take (j * R.sz)).length = j * R.sz := by simp; omega
      rw [hlen]
      by_cases h3 : i = j * R.sz + q
      · subst h3
        rw [List.getElem?_set_self (by omega), show j * R.sz + q - j * R.sz = q by omega, List.getElem?_set_self (by rw [R.len]; omega)]
      · rw [List.getElem?_set_ne (by omega), List.getElem?_set_ne (by omega), ← hrow, List.getElem?_take, if_pos (by omega), List.getElem?_drop, ← e]
    · rw [List.getElem?_set_ne (by omega), List.getElem?_append_right (by simp [R.len]; omega), List.getElem?_drop]
      congr 1
      simp [R.len]; omega
theorem Rw.one (xs : List α) : (R.cells xs).all Value.oneCell' = true := by
  rw [List.all_eq_true]
  intro v hv
  have := R.flat_cells xs v hv
  cases v <;> first | rfl | cases this

/-- One integer a row. -/
def intR (k : IntKind) : Rw Int := ⟨fun x => [.int k x], 1, fun _ => rfl, fun _ v h => by simp only [List.mem_singleton] at h; subst h; rfl, by decide⟩
end

section
variable {α : Type} (R : Rw α) {P : Program} {τ : Nat → Option TI} {env : List (Nat × Value)} {V : Heap} {n : Nat}

theorem ev_loadrow {t b p j : Nat} {x : Operand} {ti : TI} {xs : List α} {a : α} (hx : rd env x = some (.pointer (some ⟨b, p, none⟩))) (hp : p = 0 + j * R.sz) (ht : τ t = some ti) (ha : isAggB ti.desc = true) (hs : ti.size = R.sz)
    (hV : (V b).bind cellsOf = some (R.cells xs)) (hj : xs[j]? = some a) : evOp τ env V n (.load t x) = some ⟨.agg (R.f a).toArray, [], 0, [b]⟩ := by
  subst hp
  have hlt := (List.getElem?_eq_some_iff.1 hj).1
  have hle : 0 + j * R.sz + R.sz ≤ (R.cells xs).length := by
    rw [R.length, Nat.zero_add, show j * R.sz + R.sz = (j + 1) * R.sz by rw [Nat.add_mul, Nat.one_mul]]; exact Nat.mul_le_mul_right _ hlt
  have hrow := R.row hj
  simp only [evOp, hx, Option.bind_some, evLoad, ht, hV, ha, if_true, hs]
  rw [if_pos hle, Nat.zero_add, hrow]; rfl

/-- A cell of an element. -/
theorem ev_loadcell {t b p j q : Nat} {x : Operand} {ti : TI} {xs : List α} {a : α} {v : Value} (hx : rd env x = some (.pointer (some ⟨b, p, none⟩))) (hp : p = 0 + j * R.sz + q) (ht : τ t = some ti) (ha : isAggB ti.desc = false)
    (hV : (V b).bind cellsOf = some (R.cells xs)) (hj : xs[j]? = some a) (hv : (R.f a)[q]? = some v) : evOp τ env V n (.load t x) = some ⟨v, [], 0, [b]⟩ := by
  subst hp
  exact ev_load1 hx ht ha hV (by rw [Nat.zero_add]; exact R.cell hj hv)

theorem ev_val {t b p j : Nat} {x : Operand} {ti : TI} {xs : List α} {a : α} {v : Value} (hx : rd env x = some (.pointer (some ⟨b, p, none⟩))) (hp : p = 0 + j * R.sz) (ht : τ t = some ti) (ha : isAggB ti.desc = false)
    (hV : (V b).bind cellsOf = some (R.cells xs)) (hj : xs[j]? = some a) (hv : (R.f a)[0]? = some v) : evOp τ env V n (.load t x) = some ⟨v, [], 0, [b]⟩ :=
  ev_loadcell R (q := 0) hx hp ht ha hV hj hv

def plainB : Value → Value → Bool
  | .int _ _, _ => false
  | _, .int _ _ => false
  | .string _, _ => false
  | _, .string _ => false
  | .nilIface, .nilIface => false
  | _, _ => true
theorem plain_both {a b : Value} (h : plainB a b = true) : bothNil a b = false := by cases a <;> cases b <;> first | rfl | cases h
theorem bin_neq {a b : Value} {t : Nat} {l : Bool} (h : plainB a b = true) : evBin τ .neq t l a b = if bothNil a b then (if l && isIface τ t then some (.bool false) else none) else (evEq τ 50 t a b).map fun b => .bool (!b) := by
  cases a <;> cases b <;> first | rfl | cases h
theorem bin_eql {a b : Value} {t : Nat} {l : Bool} (h : plainB a b = true) : evBin τ .eql t l a b = if bothNil a b then (if l && isIface τ t then some (.bool true) else none) else (evEq τ 50 t a b).map .bool := by
  cases a <;> cases b <;> first | rfl | cases h
theorem ev_neq {t u : Nat} {x y : Operand} {a b : Value} {c : Bool} (hx : rd env x = some a) (hy : rd env y = some b) (hp : plainB a b = true) (h : evEq τ 50 t a b = some c) : evOp τ env V n (.binOp .neq t x y u) = some ⟨.bool (!c), [], 0, []⟩ := by
  simp only [evOp, hx, hy, bin_neq hp, plain_both hp, h]; rfl
theorem ev_eql {t u : Nat} {x y : Operand} {a b : Value} {c : Bool} (hx : rd env x = some a) (hy : rd env y = some b) (hp : plainB a b = true) (h : evEq τ 50 t a b = some c) : evOp τ env V n (.binOp .eql t x y u) = some ⟨.bool c, [], 0, []⟩ := by
  simp only [evOp, hx, hy, bin_eql hp, plain_both hp, h]; rfl

/-- What is appended: rows. -/
theorem news_rows {j p m c : Nat} {zs : List α} (hV : (V j).bind cellsOf = some (R.cells zs)) (hle : p + m ≤ zs.length) : evNews V R.sz (.slice (some ⟨j, 0 + p * R.sz, none⟩) m c) = some (R.cells ((zs.drop p).take m), m, [j]) := by
  have h1 : 0 + p * R.sz + m * R.sz ≤ (R.cells zs).length := by rw [R.length, Nat.zero_add, ← Nat.add_mul]; exact Nat.mul_le_mul_right _ hle
  simp only [evNews, hV]
  rw [if_pos h1, Nat.zero_add, R.window]
theorem news_all {j m c : Nat} {zs : List α} (hV : (V j).bind cellsOf = some (R.cells zs)) (hm : m = zs.length) : evNews V R.sz (.slice (some ⟨j, 0, none⟩) m c) = some (R.cells zs, m, [j]) := by
  have := news_rows (V := V) R (c := c) (p := 0) (m := m) hV (by omega)
  simp only [Nat.zero_mul, Nat.add_zero, List.drop_zero] at this
  rw [this, hm, List.take_length]

theorem ev_append {t e i l cap m : Nat} {x y : Operand} {ti te : TI} {b : Value} {xs ys : List α} {rs : List Nat} (hx : rd env x = some (.slice (some ⟨i, 0, none⟩) l cap)) (hy : rd env y = some b) (ht : τ t = some ti) (hd : ti.desc = .slice e) (he : τ e = some te) (hs : te.size = R.sz)
    (hnews : evNews V R.sz b = some (R.cells ys, m, rs)) (hV : V i = some (.opn (R.cells xs) e R.sz)) (hl : l ≤ xs.length) (hb : (l + m) * te.bytes ≤ 140737488355328) (hb' : l + m ≤ 140737488355328) :
    evOp τ env V n (.call { callee := .builtin .append, args := #[x, y], argTypes := #[t, t] }) = some ⟨.slice (some ⟨n, 0, none⟩) (l + m) 0, [(i, none), (n, some (.opn (R.cells (xs.take l ++ ys)) e R.sz))], 1, i :: rs⟩ := by
  have h1 : 0 < R.sz ∧ (R.cells ys).all Value.oneCell' = true := ⟨R.pos, R.one ys⟩
  have h2 : l * R.sz ≤ (R.cells xs).length := by rw [R.length]; exact Nat.mul_le_mul_right _ hl
  simp only [evOp, List.map_cons, List.map_nil, hx, hy, if_true, evAppend, ht, hd, he, hs, hnews]
  rw [if_pos h1]
  simp only [hb, hb', and_self, if_true, hV]
  rw [if_pos ⟨trivial, trivial, h2⟩, R.take, ← R.append]

/-- Onto a whole one. -/
theorem ev_app {t e i l cap m : Nat} {x y : Operand} {ti te : TI} {b : Value} {xs ys : List α} {rs : List Nat} (hx : rd env x = some (.slice (some ⟨i, 0, none⟩) l cap)) (hy : rd env y = some b) (ht : τ t = some ti) (hd : ti.desc = .slice e) (he : τ e = some te) (hs : te.size = R.sz)
    (hnews : evNews V R.sz b = some (R.cells ys, m, rs)) (hV : V i = some (.opn (R.cells xs) e R.sz)) (hl : l = xs.length) (hb : (l + m) * te.bytes ≤ 140737488355328) (hb' : l + m ≤ 140737488355328) :
    evOp τ env V n (.call { callee := .builtin .append, args := #[x, y], argTypes := #[t, t] }) = some ⟨.slice (some ⟨n, 0, none⟩) (l + m) 0, [(i, none), (n, some (.opn (R.cells (xs ++ ys)) e R.sz))], 1, i :: rs⟩ := by
  rw [ev_append R hx hy ht hd he hs hnews hV (Nat.le_of_eq hl) hb hb', hl, List.take_length]

/-- A cell of an element is written. -/
theorem ev_storecell {t b p j q : Nat} {x y : Operand} {ti : TI} {xs : List α} {a a' : α} {v : Value} {e : TypeId} (hx : rd env x = some (.pointer (some ⟨b, p, none⟩))) (hy : rd env y = some v) (hp : p = 0 + j * R.sz + q) (ht : τ t = some ti) (hs : ti.size = 1) (hV : V b = some (.opn (R.cells xs) e R.sz))
    (hj : xs[j]? = some a) (hf : flatB v = true) (hb : (R.f a).set q v = R.f a') (hq : q < R.sz) : evOp τ env V n (.store t x y) = some ⟨undef, [(b, some (.opn (R.cells (xs.set j a')) e R.sz))], 0, [b]⟩ := by
  subst hp
  have hlt := (List.getElem?_eq_some_iff.1 hj).1
  have hle : 0 + j * R.sz + q + 1 ≤ (R.cells xs).length := by
    have := Nat.mul_le_mul_right R.sz hlt
    rw [R.length]; rw [Nat.succ_mul] at this; omega
  have hc : v.cells = #[v] := by cases v <;> first | rfl | cases hf
  have h1 : v.cells.size = 1 ∧ 0 + j * R.sz + q + 1 ≤ (R.cells xs).length ∧ v.cells.toList.all Value.oneCell' = true := ⟨by rw [hc]; rfl, hle, by rw [hc]; cases v <;> first | rfl | cases hf⟩
  simp only [evOp, hx, hy, evStore, ht, hV, hs]
  rw [if_pos h1, hc]
  simp only [setCells]
  rw [Nat.zero_add, R.set_cell hj hb hq]

/-- An element is written. -/
theorem ev_storerow {t b p j : Nat} {x y : Operand} {ti : TI} {xs : List α} {a' : α} {e : TypeId} (hx : rd env x = some (.pointer (some ⟨b, p, none⟩))) (hy : rd env y = some (.agg (R.f a').toArray)) (hp : p = 0 + j * R.sz) (ht : τ t = some ti) (hs : ti.size = R.sz) (hV : V b = some (.opn (R.cells xs) e R.sz))
    (hj : j < xs.length) : evOp τ env V n (.store t x y) = some ⟨undef, [(b, some (.opn (R.cells (xs.set j a')) e R.sz))], 0, [b]⟩ := by
  subst hp
  have hle : 0 + j * R.sz + R.sz ≤ (R.cells xs).length := by
    have := Nat.mul_le_mul_right R.sz hj
    rw [R.length]; rw [Nat.succ_mul] at this; omega
  have hone : (R.f a').all Value.oneCell' = true := by
    have := R.one [a']
    simpa [Rw.cells] using this
  have h1 : (R.f a').toArray.size = R.sz ∧ 0 + j * R.sz + R.sz ≤ (R.cells xs).length ∧ (R.f a').all Value.oneCell' = true := ⟨by simp [R.len], hle, hone⟩
  simp only [evOp, hx, hy, evStore, ht, hV, hs, Value.cells]
  rw [if_pos h1]
  have hset : setCells (R.cells xs) (0 + j * R.sz) (R.f a') = R.cells (xs.set j a') := by
    rw [setCells_eq _ _ _ (by rw [R.len]; exact hle), Nat.zero_add, R.set hj]
  rw [hset]

/-- A part of an open slice. -/
theorem ev_slice {t e i p len : Nat} {x : Operand} {lo hi : Option Operand} {ti te : TI} {xs : List α} {l h : Nat} (hx : rd env x = some (.slice (some ⟨i, 0 + p * R.sz, none⟩) len 0)) (ht : τ t = some ti) (hd : ti.desc = .slice e) (he : τ e = some te) (hs : te.size = R.sz)
    (hV : V i = some (.opn (R.cells xs) e R.sz)) (hlo : bnd 0 (lo.map (rd env)) = some l) (hhi : bnd len (hi.map (rd env)) = some h) (hlh : l ≤ h) (hh : p + h ≤ xs.length) (hne : l < h ∨ l = 0) :
    evOp τ env V n (.slice t x lo hi none) = some ⟨.slice (some ⟨i, 0 + (p + l) * R.sz, none⟩) (h - l) 0, [], 0, [i]⟩ := by
  have h1 : l ≤ h ∧ 0 + p * R.sz + h * R.sz ≤ (R.cells xs).length ∧ R.sz = R.sz ∧ 0 < R.sz ∧ (l < h ∨ l = 0) :=
    ⟨hlh, by rw [R.length, Nat.zero_add, ← Nat.add_mul]; exact Nat.mul_le_mul_right _ hh, rfl, R.pos, hne⟩
  simp only [evOp, hx, Option.bind_some, evSlice, ht, hd, hlo, hhi, he, hV]
  rw [hs, if_pos h1, Nat.add_mul, Nat.add_assoc]

/-- A look at a whole slice. -/
theorem looks_opn {i m : Nat} {e : TypeId} {xs : List α} (hV : V i = some (.opn (R.cells xs) e R.sz)) (hm : m = xs.length) : Looks V R.sz (.slice (some ⟨i, 0, none⟩) m 0) (R.cells xs) m := by
  have := Looks.opn (V := V) (i := i) (off := 0) (m := m) hV R.pos (by rw [R.length, hm]; omega)
  rw [List.drop_zero, R.take, hm, List.take_length] at this
  rw [hm]; exact this
theorem looks_win {i m : Nat} {xs : List α} (hV : V i = some (.win (R.cells xs) R.sz)) (hm : m = xs.length) : Looks V R.sz (.slice (some ⟨i, 0, none⟩) m 0) (R.cells xs) m := by
  have := Looks.win (V := V) (i := i) (off := 0) (m := m) hV R.pos (by rw [R.length, hm]; omega)
  rw [List.drop_zero, R.take, hm, List.take_length] at this
  rw [hm]; exact this
/-- At a part of one. -/
theorem looks_part {i p m : Nat} {e : TypeId} {xs : List α} (hV : V i = some (.opn (R.cells xs) e R.sz)) (hm : p + m ≤ xs.length) : Looks V R.sz (.slice (some ⟨i, 0 + p * R.sz, none⟩) m 0) (R.cells ((xs.drop p).take m)) m := by
  have := Looks.opn (V := V) (i := i) (off := 0 + p * R.sz) (m := m) hV R.pos (by rw [R.length, Nat.zero_add, ← Nat.add_mul]; exact Nat.mul_le_mul_right _ hm)
  rw [Nat.zero_add] at this ⊢
  rw [R.window] at this
  exact this
theorem looks_prefix {i m : Nat} {e : TypeId} {xs : List α} (hV : V i = some (.opn (R.cells xs) e R.sz)) (hm : m ≤ xs.length) : Looks V R.sz (.slice (some ⟨i, 0, none⟩) m 0) (R.cells (xs.take m)) m := by
  have := looks_part (V := V) R (p := 0) (m := m) hV (by omega)
  simpa using this

theorem looks_front {i m : Nat} {e : TypeId} {xs ys : List α} (hV : V i = some (.opn (R.cells (xs ++ ys)) e R.sz)) (hm : m = xs.length) : Looks V R.sz (.slice (some ⟨i, 0, none⟩) m 0) (R.cells xs) m := by
  have := looks_prefix R hV (m := m) (by rw [hm]; simp)
  rw [hm, List.take_left'] at this
  · rw [hm]; exact this
  · rfl
theorem sigma_new {src : List Src} {ids : List Nat} {i x : Nat} (hin : ∀ j ∈ ownNames src, j < n) (h : ids[i]? = some x) : sigma src n ids (n + i) = some (nameOf x) := by
  unfold sigma
  cases hp : place 0 src (n + i) with
  | some a =>
    have := (place_some hp).2
    rw [Nat.sub_zero] at this
    have := hin _ (own_mem this)
    omega
  | none => simp [h]
theorem sigma_own {src : List Src} {ids : List Nat} {a j : Nat} (hn : (ownNames src).Nodup) (h : src[a]? = some (.own j)) (hni : a ∉ ids := by decide) : sigma src n ids j = some ⟨a, none, 0⟩ := by
  unfold sigma
  rw [place_of hn h, Nat.zero_add]
  simp only [if_neg hni]
theorem rel_slice {σ : Ren} {i j off m m' c : Nat} (h : σ i = some ⟨j, none, 0⟩) (hm : m = m') : VRel σ (.slice (some ⟨i, off, none⟩) m c) (.slice (some ⟨j, off, none⟩) m' c) := by
  have := VRel.slice (n := m) (c := c) (off := off) h rfl
  subst hm
  simpa using this
theorem bnd_nat {d : Nat} (k : Nat) : bnd d (some (some (.int .i64 (k : Int)))) = some k := by
  unfold bnd
  simp
theorem bnd_int {d : Nat} {i : Int} (h : 0 ≤ i) : bnd d (some (some (.int .i64 i))) = some i.toNat := by
  unfold bnd
  simp [h]
theorem rel_ptr {σ : Ren} {i j off : Nat} (h : σ i = some ⟨j, none, 0⟩) : VRel σ (.pointer (some ⟨i, off, none⟩)) (.pointer (some ⟨j, off, none⟩)) := by
  have := VRel.ptr (off := off) h rfl
  simpa using this
theorem ov_opn {α : Type} (R : Rw α) {σ : Ren} {xs ys : List α} {e sz : Nat} (h : xs = ys) : OV σ (.opn (R.cells xs) e sz) (.opn (R.cells ys) e sz) := by rw [h]; exact .opn _ _ (R.flat_cells _).rel
theorem ow_front {α : Type} (R : Rw α) {σ : Ren} {xs ys zs : List α} {e sz : Nat} (h : ys = xs ++ zs) : OW σ (.opn (R.cells xs) e sz) (.opn (R.cells ys) e sz) := by
  rw [h, R.append]; exact .cut _ _ (R.flat_cells _).rel
theorem ov_cells {σ : Ren} {c : List Value} (e : TypeId) (fr : Nat × Nat) (h : c.all flatB = true) : OV σ (.cells c e fr) (.cells c e fr) := .cells _ _ (Flat.rel (List.all_eq_true.1 h))
theorem ov_win {α : Type} (R : Rw α) {σ : Ren} {xs : List α} {sz : Nat} : OV σ (.win (R.cells xs) sz) (.win (R.cells xs) sz) := .win _ (R.flat_cells _).rel
def SeenAll (V : Heap) (args : List Value) (src : List Src) : Prop := ∀ (a : Nat) (v : Value) (m sz : Nat), src[a]? = some (Src.look v m sz) → Seen V args v
theorem sn_nil {args : List Value} : SeenAll V args [] := fun a v m sz h => by simp at h
theorem sn_look {args : List Value} {v : Value} {m sz : Nat} {src : List Src} (h : Seen V args v) (t : SeenAll V args src) : SeenAll V args (.look v m sz :: src) := fun a u m' sz' h' => by
  cases a with
  | zero => simp only [List.getElem?_cons_zero, Option.some.injEq, Src.look.injEq] at h'; rw [← h'.1]; exact h
  | succ a => exact t a u m' sz' (by simpa using h')
theorem sn_own {args : List Value} {i : Nat} {src : List Src} (t : SeenAll V args src) : SeenAll V args (.own i :: src) := fun a u m' sz' h' => by
  cases a with
  | zero => simp at h'
  | succ a => exact t a u m' sz' (by simpa using h')
theorem seen_of {args : List Value} {src : List Src} (h : SeenAll V args src) : ∀ (a : Nat) (v : Value) (m sz : Nat), src[a]? = some (Src.look v m sz) → Seen V args v := h
theorem apart_one {l : List Nat} {i : Nat} (h : ∀ x ∈ l, x ≠ i) : ∀ x ∈ l, x ∉ [i] := fun x hx hm => h x hx (by simpa using hm)
theorem nameOf_lt {x : Nat} (h : x < 1000000) : nameOf x = ⟨x, none, 0⟩ := by unfold nameOf NIL; rw [if_neg (by omega)]
theorem sigma_look {src : List Src} {ids : List Nat} {i x : Nat} (h : ids[i]? = some x) (h0 : ownNames src = [] := by rfl) (hx : x < 1000000 := by decide) : sigma src n ids (n + i) = some ⟨x, none, 0⟩ := by
  rw [← nameOf_lt hx]; exact sigma_new (by rw [h0]; simp) h
theorem sigma_nil {src : List Src} {ids : List Nat} {i : Nat} (h : ids[i]? = some NIL) (h0 : ownNames src = [] := by rfl) : sigma src n ids (n + i) = some nowhere := sigma_new (by rw [h0]; simp) h
theorem sigma_at {src : List Src} {ids : List Nat} {i x : Nat} (hin : ∀ j ∈ ownNames src, j < n) (h : ids[i]? = some x) (hx : x < 1000000 := by decide) : sigma src n ids (n + i) = some ⟨x, none, 0⟩ := by
  rw [← nameOf_lt hx]; exact sigma_new hin h
theorem sigma_none {src : List Src} {ids : List Nat} {i : Nat} (hin : ∀ j ∈ ownNames src, j < n) (h : ids[i]? = some NIL) : sigma src n ids (n + i) = some nowhere := sigma_new hin h
theorem rel_nil {σ : Ren} {i m : Nat} (h : σ i = some nowhere) (hm : m = 0) : VRel σ (.slice (some ⟨i, 0, none⟩) m 0) (.slice none 0 0) := by subst hm; exact .ghost h rfl
end
end Go.Proofs.YtcjfidfealifhaaGreat.Vm

/- Function values; loops that make no block. No program in it. -/
set_option linter.unusedVariables false
set_option linter.unusedSimpArgs false
namespace Go.Proofs.YtcjfidfealifhaaGreat.Vm
open Go

def SubEnv (env0 env : List (Nat × Value)) : Prop := ∀ t v, lkp env0 t = some v → lkp env t = some v
theorem se_nil {env : List (Nat × Value)} : SubEnv [] env := fun t v h => by cases h
theorem se_cons {env0 env : List (Nat × Value)} {t : Nat} {v : Value} (h : lkp env t = some v) (k : SubEnv env0 env) : SubEnv ((t, v) :: env0) env := by
  intro x y hx
  simp only [lkp] at hx
  split at hx
  · rename_i he; subst he; cases hx; exact h
  · exact k x y hx
theorem se_int {env : List (Nat × Value)} {t : Nat} {k : IntKind} {a b : Int} (h : lkp env t = some (.int k a)) (e : a = b) : lkp env t = some (.int k b) := by rw [h, e]

section
variable {P : Program} {τ : Nat → Option TI} {m g : Nat} {Q : Exit → St → Prop} {ops : Array Oper} {l : List Oper} {o : Oper} {env : List (Nat × Value)} {V : Heap} {n : Nat}

/-- A loop that makes no block and turns none. -/
theorem vw_loop_env {c : Code} (I : Nat → List (Nat × Value) → Prop) (k0 : Nat) (h0 : ∃ env0, SubEnv env0 env ∧ I k0 env0)
    (round : ∀ k env0, I k env0 → VW P m g c (then_ (fun s' => s'.heap = V ∧ s'.n = n ∧ ∃ k' env1, k' < k ∧ SubEnv env1 s'.env ∧ I k' env1) Q) ⟨env0, V, n⟩) : VW P m g (.loop c) Q ⟨env, V, n⟩ := by
  obtain ⟨env0, h1, h2⟩ := h0
  refine vw_weaken (env' := env0) (V' := V) h1 (fun _ _ h => h) ?_
  refine vw_loop (fun k s => s.heap = V ∧ s.n = n ∧ ∃ env1, SubEnv env1 s.env ∧ I k env1) k0 ⟨rfl, rfl, env0, fun _ _ h => h, h2⟩ ?_
  rintro k ⟨e, W, n'⟩ ⟨rfl, rfl, env1, h3, h4⟩
  refine vw_weaken (env' := env1) (V' := W) h3 (fun _ _ h => h) ?_
  refine (round k env1 h4).mono ?_
  rintro e2 s2 h5
  cases e2 with
  | normal =>
    obtain ⟨h6, h7, k', env2, h8, h9, h10⟩ := h5
    exact ⟨k', h8, h6, h7, env2, h9, h10⟩
  | _ => exact h5

/-- A call of a function value. -/
theorem vcl_op {F : FuncId} {f : Operand} {args : Array Operand} {ats : Array TypeId} {A C : Array Value} {vb : List Value} {d k : Nat} {v : Value} {L : List (Nat × Option VObj)} (hw : Want ops env o true) (hd : o.dst = some d) (hm : fitsT m (some d) = true)
    (ho : o.op = .call { callee := .value f, args, argTypes := ats }) (hf : rd env f = some (.func (.func F) A C)) (ha : rds env args.toList = some vb) (hF : Callable P F)
    (T : Tri P F (A.toList ++ vb ++ C.toList) n k V (fun u L' => u = v ∧ L' = L)) (K : VL P m g ops Q l ⟨(d, v) :: env, over V L, n + k⟩) : VL P m g ops Q (o :: l) ⟨env, V, n⟩ := by
  refine vl_call (s := ⟨env, V, n⟩) (va := A.toList) (vc := C.toList) (vb := vb) (k := k) (R := fun u L' => u = v ∧ L' = L) hw (by rw [hd]; exact hm) ho (by simpa using hf) ha hF T ?_
  rintro u L' ⟨rfl, rfl⟩
  rw [hd]; exact K

theorem vclr_op {F : FuncId} {f : Operand} {args : Array Operand} {ats : Array TypeId} {A C : Array Value} {vb : List Value} {d : Nat} {v : Value} (hw : Want ops env o true) (hd : o.dst = some d) (hm : fitsT m (some d) = true)
    (ho : o.op = .call { callee := .value f, args, argTypes := ats }) (hf : rd env f = some (.func (.func F) A C)) (ha : rds env args.toList = some vb) (hF : Callable P F)
    (T : Tri P F (A.toList ++ vb ++ C.toList) n 0 V (fun u L' => u = v ∧ L' = [])) (K : VL P m g ops Q l ⟨(d, v) :: env, V, n⟩) : VL P m g ops Q (o :: l) ⟨env, V, n⟩ :=
  vcl_op hw hd hm ho hf ha hF T K

theorem stays_self : ∀ {src : List Src} {os : List VObj} {k : Nat} {W : Heap}, (∀ (a : Nat) (o : VObj), os[a]? = some o → W (k + a) = some o) → Stays W k src os
  | [], _, _, _, _ => trivial
  | .own _ :: r, [], _, _, _ => trivial
  | .look _ _ _ :: r, [], _, _, _ => trivial
  | .own _ :: r, o :: os, k, W, h => ⟨fun _ => by simpa using h 0 o rfl, stays_self (src := r) (os := os) (k := k + 1) fun a p hp => by rw [show k + 1 + a = k + (a + 1) by omega]; exact h (a + 1) p (by simpa using hp)⟩
  | .look _ _ _ :: r, o :: os, k, W, h => stays_self (src := r) (os := os) (k := k + 1) fun a p hp => by rw [show k + 1 + a = k + (a + 1) by omega]; exact h (a + 1) p (by simpa using hp)

theorem oHeap_get : ∀ {os : List VObj} {k a : Nat} {o : VObj}, os[a]? = some o → lkp (oHeap k os) (k + a) = some o
  | [], _, _, _, h => by simp at h
  | p :: os, k, 0, o, h => by
    simp only [List.getElem?_cons_zero, Option.some.injEq] at h; subst h
    simp [oHeap, lkp]
  | p :: os, k, a + 1, o, h => by
    simp only [oHeap, lkp]
    rw [if_neg (by omega), show k + (a + 1) = (k + 1) + a by omega]
    exact oHeap_get (by simpa using h)

theorem ownNames_map (is : List Nat) : ownNames (is.map Src.own) = is := by induction is with
  | nil => rfl
  | cons i r ih => simp [ownNames, ih]
theorem lookNames_owns (is : List Nat) : lookNames (is.map Src.own) = [] := by induction is with
  | nil => rfl
  | cons i r ih => exact ih
theorem lookNames_one {v : Value} {m sz : Nat} {is : List Nat} : lookNames (.look v m sz :: is.map Src.own) = lookNames [.look v m sz] := by
  have h := lookNames_owns is
  cases v with
  | slice a l c => cases a <;> simp [lookNames, h]
  | _ => simp [lookNames, h]
theorem seen_owns {args : List Value} (is : List Nat) : SeenAll V args (is.map Src.own) := fun a v m sz h => by
  rw [List.getElem?_map] at h
  obtain ⟨x, _, hx⟩ := Option.map_eq_some_iff.1 h
  cases hx
theorem rel_func {σ : Ren} {F : FuncId} {c c' : List Value} (h : LRel σ c c') : VRel σ (.func (.func F) #[] c.toArray) (.func (.func F) #[] c'.toArray) :=
  .func rfl (fun i v v' h => by simp at h) (by simpa using h.1) (fun i v v' h1 h2 => h.2 i v v' (by simpa using h1) (by simpa using h2))

/-- The place of the first that is so; -1: there is none. -/
def findI {α : Type} (p : α → Bool) (xs : List α) : Int := match xs.findIdx? p with
  | some j => j
  | none => -1
theorem findI_some {α : Type} {p : α → Bool} {xs : List α} {j : Nat} {a : α} (h : xs[j]? = some a) (ha : p a = true) (hn : (xs.take j).any p = false) : findI p xs = j := by
  have : xs.findIdx? p = some j := by
    rw [List.findIdx?_eq_some_iff_getElem]
    obtain ⟨hj1, hj2⟩ := (List.getElem?_eq_some_iff.1 h)
    refine ⟨hj1, by rw [hj2]; exact ha, fun i hi => ?_⟩
    have hm : xs[i]'(by omega) ∈ xs.take j := by
      rw [List.mem_take_iff_getElem]
      exact ⟨i, by omega, rfl⟩
    have := List.any_eq_false.1 hn _ hm
    simpa using this
  unfold findI; rw [this]
theorem findI_none {α : Type} {p : α → Bool} {xs : List α} (hn : xs.any p = false) : findI p xs = -1 := by
  have : xs.findIdx? p = none := by
    rw [List.findIdx?_eq_none_iff]
    intro x hx
    have := List.any_eq_false.1 hn x hx
    simpa using this
  unfold findI; rw [this]
theorem any_take {α : Type} {p : α → Bool} {xs : List α} {j : Nat} {a : α} (h : xs[j]? = some a) (ha : p a = false) (hn : (xs.take j).any p = false) : (xs.take (j + 1)).any p = false := by
  rw [List.take_add_one, h, List.any_append, hn]; simp [ha]
end
end Go.Proofs.YtcjfidfealifhaaGreat.Vm
namespace Go.Proofs.YtcjfidfealifhaaGreat.Vm
open Go
section
variable {P : Program} {τ : Nat → Option TI} {env : List (Nat × Value)} {V : Heap} {n : Nat}

/-- The empty part of an open slice: a look at nothing. -/
theorem opr_tail {α : Type} (R : Rw α) (hτ : Tab P τ) {o : Oper} {t e i p len : Nat} {x : Operand} {lo hi : Option Operand} {ti te : TI} {xs : List α} {l : Nat} (ho : o.op = .slice t x lo hi none) (hx : rd env x = some (.slice (some ⟨i, 0 + p * R.sz, none⟩) len 0)) (ht : τ t = some ti) (hd : ti.desc = .slice e) (he : τ e = some te) (hs : te.size = R.sz)
    (hV : V i = some (.opn (R.cells xs) e R.sz)) (hlo : bnd 0 (lo.map (rd env)) = some l) (hhi : bnd len (hi.map (rd env)) = some l) (hh : p + l ≤ xs.length) :
    Opr P env V n o ⟨.slice (some ⟨n, 0, none⟩) 0 0, [(n, some .emp)], 1, [i]⟩ := by
  intro ρ w ev hs' hr hn
  obtain ⟨dst, op, type, pos, after, guard⟩ := o
  simp only at ho; subst ho
  have hn0 := hn n (Nat.le_refl _) (by simp)
  have hv := hr _ _ hx
  obtain ⟨h1, h2⟩ := sub_ok hr lo
  obtain ⟨h3, h4⟩ := sub_ok hr hi
  have key : ∀ (s : Slot) (v' : Value), (Instr.sliceAt t (ev x) (lo.map ev) (hi.map ev) none).run P w = .ok v' w → s.gone = true → VRel (extR ρ n s) (.slice (some ⟨n, 0, none⟩) 0 0) v' →
      OpOk P (execOp ev ⟨dst, .slice t x lo hi none, type, pos, after, guard⟩) ρ V w n ⟨.slice (some ⟨n, 0, none⟩) 0 0, [(n, some .emp)], 1, [i]⟩ := by
    intro s v' hrun hg hvr
    obtain ⟨k1, k2⟩ := sim_add (w' := w) (s := s) (o := .emp) hs' hn0 (fun h => by rw [hg] at h; cases h) ⟨rfl, rfl, rfl, Nat.le_refl _⟩ (fun _ _ => rfl) (.inl ⟨hg, rfl, .inl rfl⟩)
    refine ValOk.op (x := Instr.sliceAt t (ev x) (lo.map ev) (hi.map ev) none) ⟨_, w, _, hrun, hvr, ?_, ?_, ?_⟩
    · rw [over_cons, over_nil]; exact k1
    · rw [over_cons, over_nil]; exact k2
    · intro j hj
      simp only [extR]
      rw [if_neg (by simp only at hj; omega)]
  have run : ∀ (aa : Option Addr) (cc : Nat), ev x = .slice aa len cc → l ≤ cc → (Instr.sliceAt t (ev x) (lo.map ev) (hi.map ev) none).run P w = .ok (.slice (if cc = l then aa else aa.map (·.add (l * te.size))) 0 (cc - l)) w := by
    intro aa cc hx' hc
    have hb := bounds_ok (P := P) (w := w) (isS := true) (cap := cc) h1 h2 h3 h4 hlo hhi (Nat.le_refl _) hc
    rw [hx']
    simp only [Instr.sliceAt, Instr.slice, Sem.run_bind, run_underlying' hτ.ok ht, Result.andThen_ok, hd, hb, run_sizeOf' hτ.ok he, Sem.run_pure, Nat.sub_self]
  have hollow : ∀ (b : Addr) (c : Nat), b.spot = none → VRel (extR ρ n ⟨b.block, some (c + 1, 0), b.off⟩) (.slice (some ⟨n, 0, none⟩) 0 0) (.slice (some b) 0 c) := by
    rintro ⟨bb, bo, bs⟩ c hb
    simp only at hb; subst hb
    exact .hollow (extR_self _ _ _) rfl
  obtain ⟨s1, hi1, hat⟩ := hs'.has i _ hV
  generalize hy : ev x = y at hv
  generalize hoff : 0 + p * R.sz = off at hv
  cases hv with
  | slice hi' hc' =>
    exfalso
    rw [hi1] at hi'; cases hi'
    rcases hat with ⟨hg, _, _⟩ | ⟨_, o', _, hor⟩
    · rw [gone_none hc'] at hg; cases hg
    · cases hor with | opn _ hcap => rw [hcap] at hc'; cases hc'
  | oslice hi' hc' hz he' hn' =>
    rename_i e1 k sz s
    rw [hi1] at hi'; cases hi'
    have hle : l ≤ k - e1 := by
      rcases hat with ⟨hg, _, _⟩ | ⟨_, o', hwh, hor⟩
      · rw [gone_pos hc' hz] at hg; cases hg
      · cases hor with
        | opn _ hcap hb0 hl2 hcc hk hz' fr hfr =>
          rw [hc'] at hcap; cases hcap
          rename_i c1 c2 c'
          have h5 : c'.size = c1.length + c2.length := by have := congrArg List.length hcc; simpa using this
          have h6 := hl2.1
          rw [R.length] at h6
          have hep : e1 = p := by
            rw [Nat.zero_add] at hoff
            rw [← hoff] at he'
            exact Nat.eq_of_mul_eq_mul_right R.pos he'
          subst hep
          have h7 : (e1 + l) * R.sz ≤ k * R.sz := by
            have := Nat.mul_le_mul_right R.sz hh
            omega
          have := Nat.le_of_mul_le_mul_right h7 R.pos
          omega
    have hrun := run _ _ hy hle
    split at hrun
    · exact key _ _ hrun (by rfl) (hollow _ _ rfl)
    · exact key _ _ hrun (by rfl) (hollow _ _ (by simp only [add_none]))
  | ghost hi' hc' =>
    have hl0 : l = 0 := by
      rcases bound_ok (P := P) (w := w) (code := BoundsCode.sliceAcap) h3 h4 hhi with ⟨_, h⟩ | _
      · exact h
      · rcases hat with ⟨_, hvd, _⟩ | ⟨hg, _⟩
        · have := void_opn hvd
          have hxl : xs = [] := by
            have := congrArg List.length this
            rw [R.length] at this
            rcases Nat.mul_eq_zero.1 this with h | h
            · exact List.length_eq_zero_iff.1 h
            · have := R.pos; omega
          subst hxl
          simp only [List.length_nil] at hh; omega
        · rw [hi1] at hi'; cases hi'; rw [gone_zero hc'] at hg; cases hg
    subst hl0
    have hrun := run _ _ hy (Nat.le_refl _)
    rw [if_pos rfl] at hrun
    exact key nowhere _ hrun rfl (.ghost (extR_self _ _ _) rfl)
  | hollow hi' hc' =>
    have hl0 : l = 0 := by
      rcases hat with ⟨_, hvd, _⟩ | ⟨hg, _⟩
      · have := void_opn hvd
        have hxl : xs = [] := by
          have := congrArg List.length this
          rw [R.length] at this
          rcases Nat.mul_eq_zero.1 this with h | h
          · exact List.length_eq_zero_iff.1 h
          · have := R.pos; omega
        subst hxl
        simp only [List.length_nil] at hh; omega
      · rw [hi1] at hi'; cases hi'; rw [gone_zero hc'] at hg; cases hg
    subst hl0
    have hrun := run _ _ hy (Nat.zero_le _)
    split at hrun
    · exact key _ _ hrun (by rfl) (hollow _ _ rfl)
    · exact key _ _ hrun (by rfl) (hollow _ _ (by simp only [add_none]))

theorem news_emp {j m sz : Nat} {c : Nat} (hV : V j = some .emp) (hm : m = 0) : evNews V sz (.slice (some ⟨j, 0, none⟩) m c) = some ([], 0, [j]) := by
  subst hm
  simp only [evNews, hV, Option.bind_some, cellsOf]
  rw [if_pos (by simp)]
  simp

/-- append where there is room. -/
theorem appIn_rows {α : Type} (R : Rw α) {t e i l cap m : Nat} {ti te : TI} {b : Value} {xs ys : List α} {rs : List Nat} (ht : τ t = some ti) (hd : ti.desc = .slice e) (he : τ e = some te) (hs : te.size = R.sz) (hnews : evNews V R.sz b = some (R.cells ys, m, rs)) (hm : m = ys.length)
    (hV : V i = some (.opn (R.cells xs) e R.sz)) (hl : l + m ≤ xs.length) :
    evAppendIn τ V t (.slice (some ⟨i, 0, none⟩) l cap) b = some ⟨.slice (some ⟨i, 0, none⟩) (l + m) 0, [(i, some (.opn (R.cells (xs.take l ++ ys ++ xs.drop (l + m))) e R.sz))], 0, i :: rs⟩ := by
  have h1 : 0 < R.sz ∧ (R.cells ys).all Value.oneCell' = true := ⟨R.pos, R.one ys⟩
  have h2 : (l + m) * R.sz ≤ (R.cells xs).length := by rw [R.length]; exact Nat.mul_le_mul_right _ hl
  simp only [evAppendIn, ht, hd, he, hs, hnews]
  rw [if_pos h1]
  simp only [hV]
  rw [if_pos ⟨trivial, trivial, h2⟩, R.splice, hm]

theorem zeros_rows {α : Type} (R : Rw α) (z : α) : ∀ m, zeros (R.f z) m = R.cells (List.replicate m z)
  | 0 => rfl
  | m + 1 => by
    simp only [zeros, zeros_rows R z m, List.replicate_succ]; rfl

theorem ev_clear {α : Type} (R : Rw α) (z : α) {t e i p m c : Nat} {x : Operand} {ti te : TI} {xs : List α} (hx : rd env x = some (.slice (some ⟨i, 0 + p * R.sz, none⟩) m c)) (ht : τ t = some ti) (hd : ti.desc = .slice e) (he : τ e = some te) (hs : te.size = R.sz) (hz : te.zero.cells.toList = R.f z)
    (hV : V i = some (.opn (R.cells xs) e R.sz)) (hh : p + m ≤ xs.length) :
    evOp τ env V n (.call { callee := .builtin .clear, args := #[x], argTypes := #[t] }) = some ⟨undef, [(i, some (.opn (R.cells (xs.take p ++ List.replicate m z ++ xs.drop (p + m))) e R.sz))], 0, [i]⟩ := by
  have h1 : 0 + p * R.sz + m * R.sz ≤ (R.cells xs).length ∧ (R.f z).all Value.oneCell' = true :=
    ⟨by rw [R.length, Nat.zero_add, ← Nat.add_mul]; exact Nat.mul_le_mul_right _ hh, by have := R.one [z]; simpa [Rw.cells] using this⟩
  simp only [evOp, List.map_cons, List.map_nil, hx, evClear, ht, hd, he, hV, hs, hz]
  rw [if_pos h1, zeros_rows, Nat.zero_add, R.splice, List.length_replicate]
end
end Go.Proofs.YtcjfidfealifhaaGreat.Vm

/- A slice that is built, its row told. No program in it. -/
set_option linter.unusedVariables false
set_option linter.unusedSimpArgs false
namespace Go.Proofs.YtcjfidfealifhaaGreat.Vm
open Go
section
variable {P : Program} {τ : Nat → Option TI} {m g : Nat} {Q : Exit → St → Prop} {ops : Array Oper} {l : List Oper} {o : Oper} {env : List (Nat × Value)} {V : Heap} {n : Nat}
end
end Go.Proofs.YtcjfidfealifhaaGreat.Vm

/- Regions entered with just the temporaries that are looked at later. No program in it. -/
set_option linter.unusedVariables false
set_option linter.unusedSimpArgs false
namespace Go.Proofs.YtcjfidfealifhaaGreat.Vm
open Go
section
variable {P : Program} {m g : Nat} {Q : Exit → St → Prop} {ops : Array Oper} {env env0 : List (Nat × Value)} {V : Heap} {n : Nat}
end
end Go.Proofs.YtcjfidfealifhaaGreat.Vm

/- make and copy, by rows. No program in it. -/
set_option linter.unusedVariables false
set_option linter.unusedSimpArgs false
namespace Go.Proofs.YtcjfidfealifhaaGreat.Vm
open Go
section
variable {α : Type} (R : Rw α) {P : Program} {τ : Nat → Option TI} {env : List (Nat × Value)} {V : Heap} {n : Nat}

theorem ev_make (z : α) {t e : Nat} {x y : Operand} {ti te : TI} {l l' : Int} {k : Nat} (hx : rd env x = some (.int .i64 l)) (hy : rd env y = some (.int .i64 l')) (ht : τ t = some ti) (hd : ti.desc = .slice e) (he : τ e = some te) (hs : te.size = R.sz) (hz : te.zero.cells.toList = R.f z)
    (hl : l = k) (hl' : l' = k) (hb : te.bytes * k ≤ 140737488355328) (hb' : k ≤ 140737488355328) :
    evOp τ env V n (.makeSlice t x y) = some ⟨.slice (some ⟨n, 0, none⟩) k 0, [(n, some (.opn (R.cells (List.replicate k z)) e R.sz))], 1, []⟩ := by
  subst hl; subst hl'
  have h1 : 0 ≤ (k : Int) ∧ True ∧ 0 < te.size ∧ (te.bytes : Int) * k ≤ 140737488355328 ∧ (k : Int) ≤ 140737488355328 := ⟨by omega, trivial, hs ▸ R.pos, by rw [← Int.natCast_mul]; omega, by omega⟩
  simp only [evOp, hx, hy, evMakeSlice, ht, hd, he]
  rw [if_pos h1, hz, zeros_rows, Int.toNat_natCast, hs]

theorem first_rows {j q m len c : Nat} {zs : List α} (hV : (V j).bind cellsOf = some (R.cells zs)) (hq : q + m ≤ zs.length) (hm : m ≤ len) :
    evFirst V R.sz m (.slice (some ⟨j, 0 + q * R.sz, none⟩) len c) = some (R.cells ((zs.drop q).take m), [j]) := by
  have h1 : 0 + q * R.sz + m * R.sz ≤ (R.cells zs).length ∧ m ≤ len := ⟨by rw [R.length, Nat.zero_add, ← Nat.add_mul]; exact Nat.mul_le_mul_right _ hq, hm⟩
  simp only [evFirst, hV]
  rw [if_pos h1, Nat.zero_add, R.window]

theorem ev_copy {t u e i p dl c m sl : Nat} {x y : Operand} {ti te : TI} {v : Value} {xs ys : List α} {rs : List Nat} (hx : rd env x = some (.slice (some ⟨i, 0 + p * R.sz, none⟩) dl c)) (hy : rd env y = some v) (ht : τ t = some ti) (hd : ti.desc = .slice e) (he : τ e = some te) (hs : te.size = R.sz)
    (hlv : lenV v = some sl) (hm : min sl dl = m) (hf : evFirst V R.sz m v = some (R.cells ys, rs)) (hV : V i = some (.opn (R.cells xs) e R.sz)) (hys : ys.length = m) (hle : p + m ≤ xs.length) :
    evOp τ env V n (.call { callee := .builtin .copy, args := #[x, y], argTypes := #[t, u] }) = some ⟨.int .i64 (m : Nat), [(i, some (.opn (R.cells (xs.take p ++ ys ++ xs.drop (p + m))) e R.sz))], 0, i :: rs⟩ := by
  subst hm
  have h1 : 0 + p * R.sz + (R.cells ys).length ≤ (R.cells xs).length ∧ (R.cells ys).all Value.oneCell' = true :=
    ⟨by rw [R.length, R.length, Nat.zero_add, ← Nat.add_mul, hys]; exact Nat.mul_le_mul_right _ hle, R.one ys⟩
  simp only [evOp, List.map_cons, List.map_nil, hx, hy, evCopy, ht, hd, he, hlv, hs, hf, hV]
  rw [if_pos h1, Nat.zero_add, R.splice, hys]

end
end Go.Proofs.YtcjfidfealifhaaGreat.Vm

/- Scalar elements of arrays and of open slices are written. No program in it. -/
set_option linter.unusedVariables false
set_option linter.unusedSimpArgs false
namespace Go.Proofs.YtcjfidfealifhaaGreat.Vm
open Go
section
variable {α : Type} (R : Rw α) {P : Program} {τ : Nat → Option TI} {env : List (Nat × Value)} {V : Heap} {n : Nat}
theorem ev_setv {t b p j : Nat} {x y : Operand} {ti : TI} {xs : List α} {a a' : α} {v : Value} {e : TypeId} (hx : rd env x = some (.pointer (some ⟨b, p, none⟩))) (hy : rd env y = some v) (hp : p = 0 + j * R.sz) (ht : τ t = some ti) (hs : ti.size = 1) (hV : V b = some (.opn (R.cells xs) e R.sz))
    (hj : xs[j]? = some a) (hf : flatB v = true) (hb : (R.f a).set 0 v = R.f a') : evOp τ env V n (.store t x y) = some ⟨undef, [(b, some (.opn (R.cells (xs.set j a')) e R.sz))], 0, [b]⟩ :=
  ev_storecell R (q := 0) hx hy hp ht hs hV hj hf hb R.pos
end
end Go.Proofs.YtcjfidfealifhaaGreat.Vm

/- A map from texts to their places. -/
set_option linter.unusedVariables false
set_option linter.unusedSimpArgs false
namespace Go.Proofs.YtcjfidfealifhaaGreat.Vm
open Go
theorem lkp_told {α : Type} {i : Nat} : ∀ {L : List (Nat × α)}, i ∈ L.map (·.1) → lkp L i ≠ none
  | [], h => by simp at h
  | (j, x) :: L, h => by
    simp only [lkp]
    split
    · simp
    · rename_i hne
      refine lkp_told ?_
      simp only [List.map_cons, List.mem_cons] at h
      rcases h with h | h
      · exact (hne h).elim
      · exact h
theorem told_of {L : List (Nat × Option VObj)} : ∀ {src : List Src} {os : List VObj}, (∀ i ∈ ownNames src, i ∈ L.map (·.1)) → Told L src os
  | [], _, _ => by unfold Told; trivial
  | .own i :: r, [], _ => by unfold Told; trivial
  | .look _ _ _ :: r, [], _ => by unfold Told; trivial
  | .own i :: r, o :: os, h => ⟨fun _ => lkp_told (h i (by simp [ownNames])), told_of fun j hj => h j (by simp [ownNames, hj])⟩
  | .look _ _ _ :: r, _ :: os, h => told_of (src := r) (os := os) fun j hj => h j (by simpa [ownNames] using hj)
section
variable {P : Program} {τ : Nat → Option TI} {env : List (Nat × Value)} {V : Heap} {n : Nat}
end
end Go.Proofs.YtcjfidfealifhaaGreat.Vm

/- From what a call asks and gives to a law's row: arguments that are read. No program in it. -/
set_option linter.unusedVariables false
set_option linter.unusedSimpArgs false
namespace Go.Proofs.YtcjfidfealifhaaGreat.Vm
open Go Go.RowKit

section
variable {P : Program} {τ : Nat → Option TI}

theorem below_of_keep {ρ ρ' : Ren} {V V' : Heap} {w w' : World} (h : Keep ρ V w ρ' V' w') (hn : ∀ b, ¬ Blks ρ V b) : Below w.heap.size w w' :=
  ⟨h.os, h.tape, h.output, h.size, fun k hk => h.block k hk (hn k)⟩

/-- A law: whatever is read and not written is as it was. -/
theorem tri_calls {F : FuncId} {args args' : List Value} {n : Nat} {V : Heap} {v : Value} (h : Tri P F args n 0 V (fun u L => u = v ∧ L = [])) {ρ : Ren} {w : World} (hs : Sim ρ V w) (hro : ∀ i o, V i = some o → o.fixed = true)
    (ha : LRel ρ args args') (hv : ∀ ρ u, VRel ρ v u → u = v) : Calls P F args'.toArray w fun e w' => e = .returned v ∧ Below w.heap.size w w' := by
  refine (h ρ w args' (fun i h1 h2 => by omega) hs ha).mono ?_
  rintro e w' ⟨u, L, v', ρ', ⟨rfl, rfl⟩, he, hvr, _, hk, _⟩
  rw [hv _ _ hvr] at he
  refine ⟨he, below_of_keep hk ?_⟩
  rintro b ⟨i, o, s, h1, h2, _⟩
  rw [hro i o h1] at h2; cases h2

theorem rel_bool {b : Bool} : ∀ (ρ : Ren) (u : Value), VRel ρ (.bool b) u → u = .bool b := fun ρ u h => by cases h; rfl

theorem len1 {α : Type} {l : List α} (h : l.length = 1) : ∃ a0, l = [a0] := by
  match l, h with
  | [a0], _ => exact ⟨a0, rfl⟩
theorem len3 {α : Type} {l : List α} (h : l.length = 3) : ∃ a0 a1 a2, l = [a0, a1, a2] := by
  match l, h with
  | [a0, a1, a2], _ => exact ⟨a0, a1, a2, rfl⟩
theorem len4 {α : Type} {l : List α} (h : l.length = 4) : ∃ a0 a1 a2 a3, l = [a0, a1, a2, a3] := by
  match l, h with
  | [a0, a1, a2, a3], _ => exact ⟨a0, a1, a2, a3, rfl⟩
theorem len7 {α : Type} {l : List α} (h : l.length = 7) : ∃ a0 a1 a2 a3 a4 a5 a6, l = [a0, a1, a2, a3, a4, a5, a6] := by
  match l, h with
  | [a0, a1, a2, a3, a4, a5, a6], _ => exact ⟨a0, a1, a2, a3, a4, a5, a6, rfl⟩
theorem len8 {α : Type} {l : List α} (h : l.length = 8) : ∃ a0 a1 a2 a3 a4 a5 a6 a7, l = [a0, a1, a2, a3, a4, a5, a6, a7] := by
  match l, h with
  | [a0, a1, a2, a3, a4, a5, a6, a7], _ => exact ⟨a0, a1, a2, a3, a4, a5, a6, a7, rfl⟩
theorem len9 {α : Type} {l : List α} (h : l.length = 9) : ∃ a0 a1 a2 a3 a4 a5 a6 a7 a8, l = [a0, a1, a2, a3, a4, a5, a6, a7, a8] := by
  match l, h with
  | [a0, a1, a2, a3, a4, a5, a6, a7, a8], _ => exact ⟨a0, a1, a2, a3, a4, a5, a6, a7, a8, rfl⟩
theorem len12 {α : Type} {l : List α} (h : l.length = 12) : ∃ a0 a1 a2 a3 a4 a5 a6 a7 a8 a9 a10 a11, l = [a0, a1, a2, a3, a4, a5, a6, a7, a8, a9, a10, a11] := by
  match l, h with
  | [a0, a1, a2, a3, a4, a5, a6, a7, a8, a9, a10, a11], _ => exact ⟨a0, a1, a2, a3, a4, a5, a6, a7, a8, a9, a10, a11, rfl⟩
theorem okWide_agg {t : TypeId} {fs : Array Field} {r : Reach} {base : Nat} {W : World} {v : Value} {P : Program} (ht : P.underlying t = some (.struct fs)) (h : Value.okWide P W r base t v) : ∃ cs : List Value, v = .agg cs.toArray := by
  unfold Value.okWide at h
  rw [ht] at h
  obtain ⟨cs, rfl, _⟩ := h
  exact ⟨cs.toList, by simp⟩

/-- What a cell of a flat type holds. -/
inductive Leaf where
  | bool
  | int (k : IntKind)
  | str

def LeafOk : Leaf → Value → Prop
  | .bool, v => ∃ b, v = .bool b
  | .int k, v => ∃ n, v = .int k n ∧ (Lit.int k n).wf = true
  | .str, v => ∃ s, v = .string s ∧ s.size ≤ maxLen

def leavesFs (f : Nat → Option (List Leaf)) : Nat → List Field → Option (List Leaf)
  | _, [] => some []
  | off, fd :: fs =>
    if fd.offset = off then
      match f fd.type with
      | some ls => (leavesFs f (off + ls.length) fs).map (ls ++ ·)
      | none => none
    else none

def flat (τ : Nat → Option TI) : Nat → Nat → Option (List Leaf)
  | 0, _ => none
  | d + 1, t =>
    match τ t with
    | none => none
    | some ti =>
      match ti.desc with
      | .bool => some [.bool]
      | .int k => some [.int k]
      | .string => some [.str]
      | .struct fs => match leavesFs (flat τ d) 0 fs.toList with
        | some ls => if ls.length = ti.size then some ls else none
        | none => none
      | _ => none

def RowOk (ls : List Leaf) (cs : List Value) : Prop := cs.length = ls.length ∧ ∀ (i : Nat) l v, ls[i]? = some l → cs[i]? = some v → LeafOk l v

theorem mapM_each {α β : Type} {f : α → Option β} : ∀ {l : List α} {r : List β}, l.mapM f = some r → ∀ a ∈ l, ∃ b, f a = some b
  | [], _, _, a, ha => by cases ha
  | x :: l, r, h, a, ha => by
    simp only [List.mapM_cons, Option.bind_eq_bind, Option.bind_eq_some_iff] at h
    obtain ⟨b, hb, r', hr', _⟩ := h
    rcases List.mem_cons.1 ha with rfl | ha
    · exact ⟨b, hb⟩
    · exact mapM_each hr' a ha

theorem cellsOf_ok (hτ : Tab P τ) {t : Nat} {ti : TI} (h : τ t = some ti) : P.cellsOf t = ti.size := by
  obtain ⟨f, hf, hs, _⟩ := hτ.ok.info t ti h
  simp [Program.cellsOf, hf, hs]

variable {H : Type} {enc : TypeId × Value → H} {w : World} {base : Nat} {spare : Nat → Bool} {held : Bool}

theorem flat_of_trod (hτ : Tab P τ) : ∀ (d : Nat) (t : Nat) (ls : List Leaf) (fuel : Nat) (cs : List Value) (x : DataW H × List MemPlace), flat τ d t = some ls → DataW.trod enc P w base spare held fuel t cs = some x → RowOk ls cs
  | 0, t, ls, fuel, cs, x, h, _ => by cases h
  | d + 1, t, ls, fuel, cs, x, h, hx => by
    simp only [flat] at h
    split at h
    case h_1 => cases h
    rename_i ti ht
    have hu := hτ.ok.under t ti ht
    split at h
    · rename_i hd
      rw [hd] at hu; cases h
      obtain ⟨b, rfl, _⟩ := DataW.trod_bool hu hx
      exact ⟨rfl, fun i l v h1 h2 => by
        cases i with
        | zero => simp only [List.getElem?_cons_zero, Option.some.injEq] at h1 h2; subst h1; subst h2; exact ⟨b, rfl⟩
        | succ i => simp at h1⟩
    · rename_i k hd
      rw [hd] at hu; cases h
      obtain ⟨n, rfl, _, hw⟩ := DataW.trod_int hu hx
      exact ⟨rfl, fun i l v h1 h2 => by
        cases i with
        | zero => simp only [List.getElem?_cons_zero, Option.some.injEq] at h1 h2; subst h1; subst h2; exact ⟨n, rfl, hw⟩
        | succ i => simp at h1⟩
    · rename_i hd
      rw [hd] at hu; cases h
      obtain ⟨s, rfl, hs⟩ := DataW.trod_string hu hx
      exact ⟨rfl, fun i l v h1 h2 => by
        cases i with
        | zero => simp only [List.getElem?_cons_zero, Option.some.injEq] at h1 h2; subst h1; subst h2; exact ⟨s, rfl, hs.2⟩
        | succ i => simp at h1⟩
    · rename_i fs hd
      rw [hd] at hu
      split at h
      case h_2 => cases h
      rename_i ls' hls
      split at h
      case isFalse => cases h
      rename_i hsz
      cases h
      cases fuel with
      | zero => simp [DataW.trod] at hx
      | succ n =>
      have hlen : cs.length = ti.size ∧ ∃ xs, (fs.toList.mapM fun f => DataW.trod enc P w base spare held n f.type ((cs.drop f.offset).take (P.cellsOf f.type))) = some xs := by
        unfold DataW.trod at hx
        rw [hu] at hx
        simp only [Option.map_eq_some_iff] at hx
        split at hx
        · rename_i hl
          obtain ⟨xs, h1, _⟩ := Option.map_eq_some_iff.1 hx
          exact ⟨by rw [hl, cellsOf_ok hτ ht], xs, h1⟩
        · cases hx
      obtain ⟨hl, xs, hxs⟩ := hlen
      have each := mapM_each hxs
      refine ⟨hl.trans hsz.symm, ?_⟩
      have key : ∀ (l : List Field) (off : Nat) (ls : List Leaf), leavesFs (flat τ d) off l = some ls → (∀ f ∈ l, f ∈ fs.toList) → ∀ (i : Nat) lf v, ls[i]? = some lf → cs[off + i]? = some v → LeafOk lf v := by
        intro l
        induction l with
        | nil => intro off ls h1 _ i lf v h2; cases h1; simp at h2
        | cons f l ih =>
          intro off ls h1 hmem i lf v h2 h3
          simp only [leavesFs] at h1
          split at h1
          case isFalse => cases h1
          rename_i ho
          split at h1
          case h_2 => cases h1
          rename_i l1 hl1
          obtain ⟨l2, hl2, rfl⟩ := Option.map_eq_some_iff.1 h1
          obtain ⟨y, hy⟩ := each f (hmem f List.mem_cons_self)
          have hrow := flat_of_trod hτ d f.type l1 n _ y hl1 hy
          by_cases hi : i < l1.length
          · rw [List.getElem?_append_left hi] at h2
            refine hrow.2 i lf v h2 ?_
            have := hrow.1
            simp only [List.length_take, List.length_drop] at this
            rw [List.getElem?_take, if_pos (by omega), List.getElem?_drop, ho]
            exact h3
          · rw [List.getElem?_append_right (by omega)] at h2
            refine ih (off + l1.length) l2 hl2 (fun g hg => hmem g (List.mem_cons_of_mem _ hg)) (i - l1.length) lf v h2 ?_
            rw [show off + l1.length + (i - l1.length) = off + i from by omega]
            exact h3
      intro i l v h1 h2
      exact key fs.toList 0 ls hls (fun f hf => hf) i l v h1 (by simpa using h2)
    · cases h

end
end Go.Proofs.YtcjfidfealifhaaGreat.Vm

/- Short names of the rules; what an operation asks as one equation. No program in it. -/
set_option linter.unusedVariables false
set_option linter.unusedSimpArgs false
namespace Go.Proofs.YtcjfidfealifhaaGreat.Vm
open Go

/-- Is it done? -/
def wantB (ops : Array Oper) (env : List (Nat × Value)) (o : Oper) : Option Bool :=
  match o.guard with
  | none => some true
  | some (j, want) => match (ops[j]?).bind (·.dst) with
    | none => none
    | some d => match lkp env d with
      | some (.bool c) => some (c == want)
      | _ => none
theorem want_of {ops : Array Oper} {env : List (Nat × Value)} {o : Oper} {b : Bool} (h : wantB ops env o = some b) : Want ops env o b := by
  unfold wantB at h
  unfold Want
  split at h
  · rename_i hg; rw [hg]; cases h; rfl
  · rename_i j want hg
    rw [hg]
    split at h
    · cases h
    rename_i d hd
    split at h
    · rename_i c hc; cases h; exact ⟨d, c, hd, hc, rfl⟩
    · cases h

def opQ (τ : Nat → Option TI) (m : Nat) (ops : Array Oper) (env : List (Nat × Value)) (V : Heap) (n : Nat) (o : Oper) : Option (Nat × Value) :=
  match wantB ops env o with
  | some true => match o.dst with
    | some d => match fitsT m (some d) with
      | true => match evOp τ env V n o.op with
        | some ⟨v, [], 0, _⟩ => some (d, v)
        | _ => none
      | false => none
    | none => none
  | _ => none
theorem opQ_spec {τ : Nat → Option TI} {m : Nat} {ops : Array Oper} {env : List (Nat × Value)} {V : Heap} {n : Nat} {o : Oper} {d : Nat} {v : Value} (h : opQ τ m ops env V n o = some (d, v)) :
    Want ops env o true ∧ o.dst = some d ∧ fitsT m (some d) = true ∧ ∃ rs, evOp τ env V n o.op = some ⟨v, [], 0, rs⟩ := by
  unfold opQ at h
  split at h
  case h_2 => cases h
  rename_i h1
  split at h
  case h_2 => cases h
  rename_i d' h2
  split at h
  case h_2 => cases h
  rename_i h3
  split at h
  case h_2 => cases h
  rename_i v' rs h4
  cases h
  exact ⟨want_of h1, h2, h3, rs, h4⟩

def opN (τ : Nat → Option TI) (m : Nat) (ops : Array Oper) (env : List (Nat × Value)) (V : Heap) (n : Nat) (o : Oper) : Option (Nat × Value × Nat × VObj) :=
  match wantB ops env o with
  | some true => match o.dst with
    | some d => match fitsT m (some d) with
      | true => match evOp τ env V n o.op with
        | some ⟨v, [(i, some ob)], 1, _⟩ => some (d, v, i, ob)
        | _ => none
      | false => none
    | none => none
  | _ => none
theorem opN_spec {τ : Nat → Option TI} {m : Nat} {ops : Array Oper} {env : List (Nat × Value)} {V : Heap} {n : Nat} {o : Oper} {d i : Nat} {v : Value} {ob : VObj} (h : opN τ m ops env V n o = some (d, v, i, ob)) :
    Want ops env o true ∧ o.dst = some d ∧ fitsT m (some d) = true ∧ ∃ rs, evOp τ env V n o.op = some ⟨v, [(i, some ob)], 1, rs⟩ := by
  unfold opN at h
  split at h
  case h_2 => cases h
  rename_i h1
  split at h
  case h_2 => cases h
  rename_i d' h2
  split at h
  case h_2 => cases h
  rename_i h3
  split at h
  case h_2 => cases h
  rename_i v' i' ob' rs h4
  cases h
  exact ⟨want_of h1, h2, h3, rs, h4⟩

def opS (τ : Nat → Option TI) (ops : Array Oper) (env : List (Nat × Value)) (V : Heap) (n : Nat) (o : Oper) : Option (Nat × VObj) :=
  match wantB ops env o with
  | some true => match o.dst with
    | none => match evOp τ env V n o.op with
      | some ⟨_, [(i, some ob)], 0, _⟩ => some (i, ob)
      | _ => none
    | some _ => none
  | _ => none
theorem opS_spec {τ : Nat → Option TI} {ops : Array Oper} {env : List (Nat × Value)} {V : Heap} {n : Nat} {o : Oper} {i : Nat} {ob : VObj} (h : opS τ ops env V n o = some (i, ob)) :
    Want ops env o true ∧ o.dst = none ∧ ∃ v rs, evOp τ env V n o.op = some ⟨v, [(i, some ob)], 0, rs⟩ := by
  unfold opS at h
  split at h
  case h_2 => cases h
  rename_i h1
  split at h
  case h_2 => cases h
  rename_i h2
  split at h
  case h_2 => cases h
  rename_i v' i' ob' rs h4
  cases h
  exact ⟨want_of h1, h2, v', rs, h4⟩

/-- A call: where it goes, whom it calls, with what. -/
def opC (m : Nat) (ops : Array Oper) (env : List (Nat × Value)) (o : Oper) : Option (Nat × FuncId × List Value) :=
  match wantB ops env o with
  | some true => match o.dst with
    | some d => match fitsT m (some d) with
      | true => match o.op with
        | .call { callee := .value f, args, argTypes := _ } => match rd env f with
          | some (.func (.func F) ⟨[]⟩ ⟨[]⟩) => match rds env args.toList with
            | some vb => some (d, F, vb)
            | none => none
          | _ => none
        | _ => none
      | false => none
    | none => none
  | _ => none
theorem opC_spec {m : Nat} {ops : Array Oper} {env : List (Nat × Value)} {o : Oper} {d : Nat} {F : FuncId} {vb : List Value} (h : opC m ops env o = some (d, F, vb)) :
    Want ops env o true ∧ o.dst = some d ∧ fitsT m (some d) = true ∧ ∃ f args ats, o.op = .call { callee := .value f, args, argTypes := ats } ∧ rd env f = some (.func (.func F) #[] #[]) ∧ rds env args.toList = some vb := by
  unfold opC at h
  split at h
  case h_2 => cases h
  rename_i h1
  split at h
  case h_2 => cases h
  rename_i d' h2
  split at h
  case h_2 => cases h
  rename_i h3
  split at h
  case h_2 => cases h
  rename_i f args ats h4
  split at h
  case h_2 => cases h
  rename_i F' h5
  split at h
  case h_2 => cases h
  rename_i vb' h6
  cases h
  exact ⟨want_of h1, h2, h3, f, args, ats, h4, h5, h6⟩

def opK (m : Nat) (ops : Array Oper) (env : List (Nat × Value)) (o : Oper) : Option Nat :=
  match wantB ops env o with
  | some false => match o.dst with
    | some d => match fitsT m (some d) with
      | true => some d
      | false => none
    | none => none
  | _ => none
theorem opK_spec {m : Nat} {ops : Array Oper} {env : List (Nat × Value)} {o : Oper} {d : Nat} (h : opK m ops env o = some d) : Want ops env o false ∧ o.dst = some d ∧ fitsT m (some d) = true := by
  unfold opK at h
  split at h
  case h_2 => cases h
  rename_i h1
  split at h
  case h_2 => cases h
  rename_i d' h2
  split at h
  case h_2 => cases h
  rename_i h3
  cases h
  exact ⟨want_of h1, h2, h3⟩

section
variable {P : Program} {τ : Nat → Option TI} {m g : Nat} {Q : Exit → St → Prop} {ops : Array Oper} {l : List Oper} {o : Oper} {env : List (Nat × Value)} {V : Heap} {n : Nat}
theorem vQ (hτ : Tab P τ) {d : Nat} {v : Value} (h : opQ τ m ops env V n o = some (d, v)) (K : VL P m g ops Q l ⟨(d, v) :: env, V, n⟩) : VL P m g ops Q (o :: l) ⟨env, V, n⟩ := by
  obtain ⟨h1, h2, h3, rs, h4⟩ := opQ_spec h
  exact vq_op hτ h1 h2 h3 h4 K
theorem vN (hτ : Tab P τ) {d i : Nat} {v : Value} {ob : VObj} (h : opN τ m ops env V n o = some (d, v, i, ob)) (K : VL P m g ops Q l ⟨(d, v) :: env, upd V i (some ob), n + 1⟩) : VL P m g ops Q (o :: l) ⟨env, V, n⟩ := by
  obtain ⟨h1, h2, h3, rs, h4⟩ := opN_spec h
  exact vn_op hτ h1 h2 h3 h4 K
theorem vS (hτ : Tab P τ) {i : Nat} {ob : VObj} (h : opS τ ops env V n o = some (i, ob)) (K : VL P m g ops Q l ⟨env, upd V i (some ob), n⟩) : VL P m g ops Q (o :: l) ⟨env, V, n⟩ := by
  obtain ⟨h1, h2, v, rs, h4⟩ := opS_spec h
  exact vs_op hτ h1 h2 h4 K
theorem vK {d : Nat} (h : opK m ops env o = some d) (K : VL P m g ops Q l ⟨(d, undef) :: env, V, n⟩) : VL P m g ops Q (o :: l) ⟨env, V, n⟩ := by
  obtain ⟨h1, h2, h3⟩ := opK_spec h
  exact vk_op h1 h2 h3 K
theorem vF {F : FuncId} {vb : List Value} {d : Nat} {v : Value} (h : opC m ops env o = some (d, F, vb)) (hF : Callable P F) (T : Fun P F vb v) (K : VL P m g ops Q l ⟨(d, v) :: env, V, n⟩) : VL P m g ops Q (o :: l) ⟨env, V, n⟩ := by
  obtain ⟨h1, h2, h3, f, args, ats, h4, h5, h6⟩ := opC_spec h
  exact vf_op h1 h2 h3 h4 h5 h6 hF T K
theorem vR {F : FuncId} {vb : List Value} {d : Nat} {v : Value} (h : opC m ops env o = some (d, F, vb)) (hF : Callable P F) (T : Tri P F vb n 0 V (fun u L => u = v ∧ L = [])) (K : VL P m g ops Q l ⟨(d, v) :: env, V, n⟩) : VL P m g ops Q (o :: l) ⟨env, V, n⟩ := by
  obtain ⟨h1, h2, h3, f, args, ats, h4, h5, h6⟩ := opC_spec h
  exact vr_op h1 h2 h3 h4 h5 h6 hF T K
theorem vT {F : FuncId} {vb : List Value} {d k : Nat} {v : Value} {L : List (Nat × Option VObj)} (h : opC m ops env o = some (d, F, vb)) (hF : Callable P F) (T : Tri P F vb n k V (fun u L' => u = v ∧ L' = L)) (K : VL P m g ops Q l ⟨(d, v) :: env, over V L, n + k⟩) : VL P m g ops Q (o :: l) ⟨env, V, n⟩ := by
  obtain ⟨h1, h2, h3, f, args, ats, h4, h5, h6⟩ := opC_spec h
  exact vt_op h1 h2 h3 h4 h5 h6 hF T K
theorem wsq {x y : Code} {s : St} (h : VW P m g x (then_ (VW P m g y Q) Q) s) : VW P m g (.seq x y) Q s := vw_seq h
theorem wrg {id : Nat} {s : St} (h : VL P m g ops Q ops.toList s) : VW P m g (.region id ops false) Q s := vw_region h
theorem qth {N : St → Prop} {s : St} (h : N s) : then_ N Q .normal s := h
theorem vnl (h : Q .normal ⟨env, V, n⟩) : VL P m g ops Q [] ⟨env, V, n⟩ := v_nil h
theorem wbk {id : Nat} {c : Code} {s : St} (h : VW P m g c (inBlock id Q) s) : VW P m g (.block id c) Q s := vw_block h
end
end Go.Proofs.YtcjfidfealifhaaGreat.Vm

/- Slices among a law's arguments: they are read. No program in it. -/
set_option linter.unusedVariables false
set_option linter.unusedSimpArgs false
namespace Go.Proofs.YtcjfidfealifhaaGreat.Vm
open Go Go.RowKit

section
variable {P : Program} {τ : Nat → Option TI} {H : Type} {enc : TypeId × Value → H} {w : World} {base : Nat} {spare : Nat → Bool} {held : Bool}

/-- The cells that a slice shows: rows of leaves. -/
def RowsOk (ls : List Leaf) (len : Nat) (cs : List Value) : Prop := cs.length = len * ls.length ∧ ∀ i, i < len → RowOk ls ((cs.drop (i * ls.length)).take ls.length)

theorem okWide_slice {t e : TypeId} {r : Reach} {b : Nat} {a : Addr} {len cap : Nat} (ht : P.underlying t = some (.slice e)) (h : Value.okWide P w r b t (.slice (some a) len cap)) :
    a.spot = none ∧ ∃ c el fr, w.heap[a.block]? = some (.cells c el fr) := by
  unfold Value.okWide at h
  rw [ht] at h
  simp only [Cell.okWide, Cell.ok, ht, World.has] at h
  obtain ⟨_, _, _, h1, row, cells, h2, _⟩ := h
  refine ⟨h1, ?_⟩
  unfold World.shape? at h2
  split at h2
  · rename_i c el fr hc; exact ⟨c, el, fr, hc⟩
  · cases h2

theorem cells_at {b off : Nat} {c : Array Value} {el : TypeId} {fr : Nat × Nat} (hb : w.heap[b]? = some (.cells c el fr)) {k n : Nat} {cs : List Value} (h : w.cells? base ((⟨b, off, none⟩ : Addr).add k) n = some cs) :
    (c.toList.drop (off + k)).take n = cs := by
  obtain ⟨_, hl, hc⟩ := World.cells?_some h
  have e : ∀ j, ((⟨b, off, none⟩ : Addr).add k).add j = ⟨b, off + k + j, none⟩ := by
    intro j
    unfold Addr.add
    split <;> split <;> simp_all <;> omega
  have each : ∀ i, i < n → c[off + k + i]? = cs[i]? := by
    intro i hi
    have := hc i hi
    rw [e i] at this
    simpa [World.cell?, hb] using this
  apply List.ext_getElem?
  intro i
  by_cases hi : i < n
  · rw [List.getElem?_take, if_pos hi, List.getElem?_drop, ← each i hi]; simp
  · rw [List.getElem?_take, if_neg hi, List.getElem?_eq_none (by omega)]

theorem slice_of_trod (hτ : Tab P τ) {t e : TypeId} {te : TI} {d : Nat} {ls : List Leaf} {fuel : Nat} {v : Value} {r : Reach} {b : Nat} {x : DataW H × List MemPlace} (ht : P.underlying t = some (.slice e)) (he : τ e = some te) (hls : flat τ d e = some ls)
    (hsz : ls.length = te.size) (hval : Value.okWide P w r b t v) (h : DataW.trod enc P w base spare held fuel t [v] = some x) :
    v = .slice none 0 0 ∨ ∃ (bl off len cap : Nat) (cs : List Value) (c : Array Value) (el : TypeId) (fr : Nat × Nat), v = .slice (some ⟨bl, off, none⟩) len cap ∧ len ≤ cap ∧ cap ≤ maxLen ∧ w.heap[bl]? = some (.cells c el fr) ∧
      (c.toList.drop off).take cs.length = cs ∧ RowsOk ls len cs ∧ ∃ es rs, x.1 = .slice es rs ∧ es.length = len := by
  rcases DataW.trod_slice ht h with ⟨h0, _⟩ | ⟨a, len, cap, elems, rest, n, _, h1, hxx, hb, hl, hm, hlen, hel, _, _⟩
  · left; simpa using h0
  right
  obtain rfl : v = .slice (some a) len cap := by simpa using h1
  obtain ⟨hspot, c, el, fr, hc⟩ := okWide_slice ht hval
  obtain ⟨bl, off, spot⟩ := a
  simp only at hspot hc
  subst hspot
  have hce : P.cellsOf e = ls.length := by rw [cellsOf_ok hτ he, hsz]
  have each : ∀ i, i < len → ∃ cs, (c.toList.drop (off + i * ls.length)).take ls.length = cs ∧ cs.length = ls.length ∧ RowOk ls cs := by
    intro i hi
    have := hel i hi
    obtain ⟨y, hy⟩ : ∃ y, elems[i]? = some y := ⟨elems[i]'(by omega), by simp⟩
    rw [hy, hce, Option.bind_eq_some_iff] at this
    obtain ⟨cs, h2, h3⟩ := this
    refine ⟨cs, cells_at hc h2, (World.cells?_some h2).2.1, flat_of_trod hτ d e ls n cs y hls h3⟩
  refine ⟨bl, off, len, cap, (c.toList.drop off).take (len * ls.length), c, el, fr, rfl, hl, hm, hc, ?_, ?_, _, _, by rw [hxx], by simpa using hlen⟩
  · rw [List.length_take, List.take_eq_take_iff.2]
    simp only [List.length_drop]; omega
  · have hlen : ((c.toList.drop off).take (len * ls.length)).length = len * ls.length := by
      rw [List.length_take]
      cases len with
      | zero => simp
      | succ k =>
        obtain ⟨cs, h1, h2, _⟩ := each k (by omega)
        have h3 : ls.length ≤ (c.toList.drop (off + k * ls.length)).length := by
          rw [← h1, List.length_take] at h2; omega
        have : (k + 1) * ls.length = k * ls.length + ls.length := by rw [Nat.add_mul, Nat.one_mul]
        simp only [List.length_drop] at h3 ⊢
        by_cases hz : ls.length = 0
        · rw [hz]; omega
        · omega
    refine ⟨hlen, fun i hi => ?_⟩
    obtain ⟨cs, h1, h2, h3⟩ := each i hi
    have hle : i * ls.length + ls.length ≤ len * ls.length := by
      have : (i + 1) * ls.length ≤ len * ls.length := Nat.mul_le_mul_right _ hi
      rw [Nat.add_mul, Nat.one_mul] at this; exact this
    have : (((c.toList.drop off).take (len * ls.length)).drop (i * ls.length)).take ls.length = cs := by
      rw [List.drop_take, List.take_take, List.drop_drop, ← h1]
      congr 1
      omega
    rw [this]; exact h3

theorem slice_bound {es rs : List (DataW H)} {ts : List TypeId} {ds : List (DataW H)} {j : Nat} {t e : TypeId} {len by_ : Nat} (hsz : (DataW.weightsEach P ts ds).all (· ≤ reachBytes) = true) (ht : ts[j]? = some t) (hd : ds[j]? = some (.slice es rs)) (hu : P.underlying t = some (.slice e)) (hl : es.length = len) (hb : P.bytesOf e = by_) :
    len * by_ ≤ 140737488351232 := by
  have h1 := sized_slice hsz ht hd hu
  rw [hb, hl] at h1
  have h2 : len * by_ ≤ (len + rs.length) * by_ := Nat.mul_le_mul_right _ (Nat.le_add_right _ _)
  exact Nat.le_trans h2 h1

/-- Rows, as a list. -/
theorem rows_list {α : Type} (R : Rw α) {Q : α → Prop} {ls : List Leaf} {len : Nat} {cs : List Value} (hl : ls.length = R.sz) (hrow : ∀ c, RowOk ls c → ∃ a, c = R.f a ∧ Q a) (h : RowsOk ls len cs) : ∃ xs, cs = R.cells xs ∧ xs.length = len ∧ ∀ x ∈ xs, Q x := by
  induction len generalizing cs with
  | zero =>
    refine ⟨[], ?_, rfl, fun x hx => by cases hx⟩
    have := h.1
    rw [Nat.zero_mul] at this
    exact List.length_eq_zero_iff.1 this
  | succ k ih =>
    obtain ⟨a, ha, hq⟩ := hrow _ (h.2 0 (by omega))
    rw [Nat.zero_mul, List.drop_zero] at ha
    have h1 : RowsOk ls k (cs.drop ls.length) := by
      refine ⟨by rw [List.length_drop, h.1, Nat.add_mul, Nat.one_mul]; omega, fun i hi => ?_⟩
      have := h.2 (i + 1) (by omega)
      rw [List.drop_drop]
      rwa [Nat.add_mul, Nat.one_mul, Nat.add_comm] at this
    obtain ⟨xs, e1, e2, e3⟩ := ih h1
    refine ⟨a :: xs, ?_, by simp [e2], fun x hx => ?_⟩
    · have : R.cells (a :: xs) = R.f a ++ R.cells xs := rfl
      rw [this, ← ha, ← e1, List.take_append_drop]
    · rcases List.mem_cons.1 hx with rfl | hx
      · exact hq
      · exact e3 x hx

/-- A slice among the arguments: where it lies (none: it is nil), its cells, and how many an element has. -/
structure Win where
  at_ : Option (Nat × Nat × Nat)
  cs : List Value
  sz : Nat

def WinOk (w : World) (x : Win) : Prop := Flat x.cs ∧ 0 < x.sz ∧ match x.at_ with
  | none => x.cs = []
  | some (b, o, cap) => ∃ c el fr, w.heap[b]? = some (.cells c el fr) ∧ (c.toList.drop o).take x.cs.length = x.cs

def Wins (w : World) (L : List Win) : Prop := ∀ x ∈ L, WinOk w x
theorem win_nil : Wins w [] := fun x h => by cases h
theorem win_cons {x : Win} {L : List Win} (h : WinOk w x) (t : Wins w L) : Wins w (x :: L) := fun y hy => by
  rcases List.mem_cons.1 hy with rfl | hy
  · exact h
  · exact t y hy
theorem win_at {b o cap sz : Nat} {cs : List Value} {c : Array Value} {el : TypeId} {fr : Nat × Nat} (hz : 0 < sz) (h1 : w.heap[b]? = some (.cells c el fr)) (h2 : (c.toList.drop o).take cs.length = cs) (h3 : Flat cs) : WinOk w ⟨some (b, o, cap), cs, sz⟩ := ⟨h3, hz, c, el, fr, h1, h2⟩
theorem win_none {sz : Nat} (hz : 0 < sz) : WinOk w ⟨none, [], sz⟩ := ⟨fun v h => (by cases h), hz, rfl⟩

def winSlot (x : Win) : Slot := match x.at_ with
  | none => nowhere
  | some (b, o, cap) => ⟨b, some (cap, x.sz), o⟩

def renOf (L : List Win) : Ren := fun i => (L[i]?).map winSlot
def wObjs (l : List (List Value × Nat)) : List VObj := l.map fun x => .win x.1 x.2

theorem sim_wins {L : List Win} (h : Wins w L) (hB : BaseW w) : Sim (renOf L) (lkp (oHeap 0 (wObjs (L.map fun x => (x.cs, x.sz))))) w := by
  have hobj : ∀ i o, lkp (oHeap 0 (wObjs (L.map fun x => (x.cs, x.sz)))) i = some o → ∃ x, L[i]? = some x ∧ o = .win x.cs x.sz := by
    intro i o hi
    obtain ⟨_, h1⟩ := lkp_oHeap hi
    rw [Nat.sub_zero, wObjs, List.map_map, List.getElem?_map] at h1
    obtain ⟨x, hx, rfl⟩ := Option.map_eq_some_iff.1 h1
    exact ⟨x, hx, rfl⟩
  constructor
  · intro i o hi
    obtain ⟨x, hx, rfl⟩ := hobj i o hi
    obtain ⟨hf, hz, ha⟩ := h x (List.mem_of_getElem? hx)
    refine ⟨winSlot x, by unfold renOf; rw [hx]; rfl, ?_⟩
    obtain ⟨at_, cs, sz⟩ := x
    cases at_ with
    | none =>
      simp only at ha; subst ha
      exact .inl ⟨rfl, rfl, .inl rfl⟩
    | some p =>
      obtain ⟨b, o, cap⟩ := p
      obtain ⟨c, el, fr, h2, h3⟩ := ha
      refine .inr ⟨gone_pos rfl hz, _, h2, .win el fr rfl hz ?_⟩
      simp only [winSlot]
      simp only at h3
      rw [h3]; exact hf.rel
  · intro i j o p s t _ hi hj _ _ _ _ hfx
    obtain ⟨x, _, rfl⟩ := hobj i o hi
    obtain ⟨y, _, rfl⟩ := hobj j p hj
    cases hfx
  · exact .of hB fun i o hi => by obtain ⟨x, _, rfl⟩ := hobj i o hi; rfl

theorem wins_fixed {l : List (List Value × Nat)} : ∀ i o, lkp (oHeap 0 (wObjs l)) i = some o → o.fixed = true := fun i o h => by
  obtain ⟨_, h1⟩ := lkp_oHeap h
  rw [wObjs, List.getElem?_map] at h1
  obtain ⟨x, _, rfl⟩ := Option.map_eq_some_iff.1 h1; rfl

/-- A slice's name. -/
theorem rel_at {L : List Win} {i b o cap n : Nat} {cs : List Value} {sz : Nat} (h : L[i]? = some ⟨some (b, o, cap), cs, sz⟩) (hz : 0 < sz) (hn : n ≤ cap) : VRel (renOf L) (.slice (some ⟨i, 0, none⟩) n 0) (.slice (some ⟨b, o, none⟩) n cap) := by
  have := VRel.oslice (ρ := renOf L) (i := i) (off := 0) (n := n) (e := 0) (k := cap) (sz := sz) (s := ⟨b, some (cap, sz), o⟩) (by unfold renOf; rw [h]; rfl) rfl hz (by simp) (by omega)
  simpa using this
theorem rel_none {L : List Win} {i : Nat} {cs : List Value} {sz : Nat} (h : L[i]? = some ⟨none, cs, sz⟩) : VRel (renOf L) (.slice (some ⟨i, 0, none⟩) 0 0) (.slice none 0 0) := .ghost (s := nowhere) (by unfold renOf; rw [h]; rfl) rfl

theorem law_calls {F : FuncId} {args args' : List Value} {n : Nat} {v : Value} {L : List Win} (h : Tri P F args n 0 (lkp (oHeap 0 (wObjs (L.map fun x => (x.cs, x.sz))))) (fun u L => u = v ∧ L = [])) (hw : Wins w L) (hB : BaseW w)
    (ha : LRel (renOf L) args args') (hv : ∀ ρ u, VRel ρ v u → u = v) : Calls P F args'.toArray w fun e w' => e = .returned v ∧ Below w.heap.size w w' :=
  tri_calls h (sim_wins hw hB) wins_fixed ha hv

def owns (n : Nat) : List Src := (List.range n).map Src.own

theorem owns_get {n a : Nat} {s : Src} (h : (owns n)[a]? = some s) : s = .own a ∧ a < n := by
  unfold owns at h
  rw [List.getElem?_map] at h
  obtain ⟨x, hx, rfl⟩ := Option.map_eq_some_iff.1 h
  have := (List.getElem?_eq_some_iff.1 hx)
  obtain ⟨h1, h2⟩ := this
  simp only [List.getElem_range] at h2
  subst h2
  exact ⟨rfl, by simpa using h1⟩

theorem owns_R (n : Nat) : ownR (owns n) = idn n := by
  funext a
  unfold ownR idn
  by_cases ha : a < n
  · rw [if_pos ha]
    have : (owns n)[a]? = some (.own a) := by unfold owns; simp [ha]
    rw [this]
  · rw [if_neg ha]
    have : (owns n)[a]? = none := List.getElem?_eq_none (by unfold owns; simp; omega)
    rw [this]

theorem law_of_vw {m : Nat} (hτ : Tab P τ) {F : FuncId} {fn : Func} {c : Code} {args : List Value} {v : Value} (hf : P.funcs[F]? = some fn) (hb : fn.body = some c) (hm : fn.ntmps = m) (hlen : args.length ≤ m) (K : Nat) (l : List (List Value × Nat)) (hK : l.length = K)
    (hl : ∀ x ∈ l, Flat x.1) (ha : LRel (idn K) args args) (hv : VRel no v v)
    (h : VW P m K c (fun e s => (e = .normal ∨ e = .ret) ∧ evResults τ s fn.results.toList = some v) ⟨argEnv 0 args, lkp (oHeap 0 (wObjs l)), K⟩) : Tri P F args K 0 (lkp (oHeap 0 (wObjs l))) (fun u L => u = v ∧ L = []) := by
  have hget : ∀ (a : Nat) (o : VObj), (wObjs l)[a]? = some o → ∃ x, x ∈ l ∧ o = .win x.1 x.2 ∧ a < K ∧ lkp (oHeap 0 (wObjs l)) a = some o := by
    intro a o h
    have hlt := (List.getElem?_eq_some_iff.1 h).1
    have hfind : ∀ (os : List VObj) (k a : Nat) (o : VObj), os[a]? = some o → lkp (oHeap k os) (k + a) = some o := by
      intro os
      induction os with
      | nil => intro k a o h; simp at h
      | cons p os ih =>
        intro k a o h
        simp only [oHeap, lkp]
        cases a with
        | zero => simp only [List.getElem?_cons_zero, Option.some.injEq] at h; subst h; simp
        | succ a =>
          rw [if_neg (by omega), show k + (a + 1) = (k + 1) + a by omega]
          exact ih (k + 1) a o (by simpa using h)
    have h2 := hfind _ 0 a o h
    rw [Nat.zero_add] at h2
    rw [wObjs, List.getElem?_map] at h
    obtain ⟨x, hx, rfl⟩ := Option.map_eq_some_iff.1 h
    exact ⟨x, List.mem_of_getElem? hx, rfl, by simpa [wObjs, hK] using hlt, h2⟩
  refine tri_of_vw hτ hf hb hm hlen K (owns K) (wObjs l) (by simp [wObjs, hK]) ⟨fun a o h => ?_, by simp [owns, wObjs, hK], fun a b i h1 h2 => ?_, fun a b i j m sz off n c o h1 => ?_⟩ ⟨rfl, fun i x y h1 h2 => .val (by rw [owns_R]; exact ha.2 i x y h1 h2)⟩ (fun a v m sz h => ?_) ?_
  · obtain ⟨x, h1, rfl, h3, h4⟩ := hget a o h
    exact ⟨.own a, by unfold owns; simp [h3], .win x.1 x.2, h4, .win x.2 (hl x h1).rel⟩
  · have e1 := (owns_get h1).1; have e2 := (owns_get h2).1; cases e1; cases e2; rfl
  · cases (owns_get h1).1
  · cases (owns_get h).1
  · refine h.mono ?_
    rintro e s ⟨h1, h2⟩
    exact ⟨h1, v, [], no, v, ⟨rfl, rfl⟩, h2, hv, ⟨fun j t h => (by cases h), fun j t h => (by cases h), fun i j t u h => (by cases h), fun i o h => (by cases h), fun a o i ha ho => by
      obtain ⟨x, _, rfl, _⟩ := hget a o ha; cases ho⟩⟩

end
end Go.Proofs.YtcjfidfealifhaaGreat.Vm
namespace Go.Proofs.YtcjfidfealifhaaGreat.Vm
open Go
/-- What settles a test, in one. -/
theorem sl_ : (∀ {p : Prop} [Decidable p], (decide p = true) = p) ∧ (∀ {p : Prop} {x : Decidable p}, decide p = false ↔ ¬p) ∧ (∀ {a b : Bool}, (!a) = b ↔ a = !b) ∧ ((!true) = false) ∧ ((!false) = true) ∧
    (∀ {α : Type} [BEq α] [LawfulBEq α] {a b : α}, (a != b) = true ↔ a ≠ b) ∧ (∀ {α : Type} [BEq α] [LawfulBEq α] {a b : α}, (a != b) = false ↔ a = b) ∧ (∀ {α : Type} [BEq α] [LawfulBEq α] {a b : α}, (a == b) = true ↔ a = b) ∧
    (∀ {α : Type} [BEq α] [LawfulBEq α] {a b : α}, (a == b) = false ↔ a ≠ b) ∧ (∀ {α : Type} (a b : α), (a ≠ b) = ¬a = b) ∧ (∀ {α : Type} [BEq α] [ReflBEq α] (a : α), (a == a) = true) ∧ (∀ {α : Type} [BEq α] [LawfulBEq α] (a : α), (a != a) = false) ∧
    (∀ (a b : Bool), ((a && b) = true) = (a = true ∧ b = true)) ∧ (∀ {x y : Bool}, (x && y) = false ↔ x = false ∨ y = false) ∧ (∀ (a b : Bool), ((a || b) = true) = (a = true ∨ b = true)) ∧ (∀ {x y : Bool}, (x || y) = false ↔ x = false ∧ y = false) ∧
    (∀ (p : Prop), (p ∧ p) = p) ∧ (∀ (p : Prop), (p ∧ True) = p) ∧ (∀ (p : Prop), (True ∧ p) = p) ∧ ((false = true) = False) ∧ ((true = false) = False) ∧ ((¬False) = True) ∧ ((¬True) = False) :=
  ⟨decide_eq_true_eq, decide_eq_false_iff_not, Bool.not_eq_eq_eq_not, Bool.not_true, Bool.not_false, bne_iff_ne, bne_eq_false_iff_eq, beq_iff_eq, beq_eq_false_iff_ne, ne_eq, beq_self_eq_true, bne_self_eq_false, Bool.and_eq_true, Bool.and_eq_false_iff, Bool.or_eq_true, Bool.or_eq_false_iff, and_self, and_true, true_and, Bool.false_eq_true, Bool.true_eq_false, not_false_eq_true, not_true_eq_false⟩
section
variable {P : Program} {τ : Nat → Option TI} {m g : Nat} {Q : Exit → St → Prop} {ops : Array Oper} {l : List Oper} {o1 o2 o3 o4 : Oper} {env : List (Nat × Value)} {V : Heap} {n d1 d2 d3 d4 : Nat} {v1 v2 v3 v4 : Value}
theorem vQ2 (hτ : Tab P τ) (h1 : opQ τ m ops env V n o1 = some (d1, v1)) (h2 : opQ τ m ops ((d1, v1) :: env) V n o2 = some (d2, v2)) (K : VL P m g ops Q l ⟨(d2, v2) :: (d1, v1) :: env, V, n⟩) : VL P m g ops Q (o1 :: o2 :: l) ⟨env, V, n⟩ := vQ hτ h1 (vQ hτ h2 K)
theorem vQ3 (hτ : Tab P τ) (h1 : opQ τ m ops env V n o1 = some (d1, v1)) (h2 : opQ τ m ops ((d1, v1) :: env) V n o2 = some (d2, v2)) (h3 : opQ τ m ops ((d2, v2) :: (d1, v1) :: env) V n o3 = some (d3, v3)) (K : VL P m g ops Q l ⟨(d3, v3) :: (d2, v2) :: (d1, v1) :: env, V, n⟩) : VL P m g ops Q (o1 :: o2 :: o3 :: l) ⟨env, V, n⟩ := vQ hτ h1 (vQ hτ h2 (vQ hτ h3 K))
theorem vQ4 (hτ : Tab P τ) (h1 : opQ τ m ops env V n o1 = some (d1, v1)) (h2 : opQ τ m ops ((d1, v1) :: env) V n o2 = some (d2, v2)) (h3 : opQ τ m ops ((d2, v2) :: (d1, v1) :: env) V n o3 = some (d3, v3)) (h4 : opQ τ m ops ((d3, v3) :: (d2, v2) :: (d1, v1) :: env) V n o4 = some (d4, v4))
    (K : VL P m g ops Q l ⟨(d4, v4) :: (d3, v3) :: (d2, v2) :: (d1, v1) :: env, V, n⟩) : VL P m g ops Q (o1 :: o2 :: o3 :: o4 :: l) ⟨env, V, n⟩ := vQ hτ h1 (vQ hτ h2 (vQ hτ h3 (vQ hτ h4 K)))
theorem vK2 (h1 : opK m ops (env) o1 = some d1) (h2 : opK m ops ((d1, undef) :: env) o2 = some d2) (K : VL P m g ops Q l ⟨(d2, undef) :: (d1, undef) :: env, V, n⟩) : VL P m g ops Q (o1 :: o2 :: l) ⟨env, V, n⟩ := vK h1 (vK h2 K)
theorem vK3 (h1 : opK m ops (env) o1 = some d1) (h2 : opK m ops ((d1, undef) :: env) o2 = some d2) (h3 : opK m ops ((d2, undef) :: (d1, undef) :: env) o3 = some d3) (K : VL P m g ops Q l ⟨(d3, undef) :: (d2, undef) :: (d1, undef) :: env, V, n⟩) : VL P m g ops Q (o1 :: o2 :: o3 :: l) ⟨env, V, n⟩ := vK h1 (vK h2 (vK h3 K))
theorem vK4 (h1 : opK m ops (env) o1 = some d1) (h2 : opK m ops ((d1, undef) :: env) o2 = some d2) (h3 : opK m ops ((d2, undef) :: (d1, undef) :: env) o3 = some d3) (h4 : opK m ops ((d3, undef) :: (d2, undef) :: (d1, undef) :: env) o4 = some d4) (K : VL P m g ops Q l ⟨(d4, undef) :: (d3, undef) :: (d2, undef) :: (d1, undef) :: env, V, n⟩) : VL P m g ops Q (o1 :: o2 :: o3 :: o4 :: l) ⟨env, V, n⟩ := vK h1 (vK h2 (vK h3 (vK h4 K)))
end
end Go.Proofs.YtcjfidfealifhaaGreat.Vm
namespace Go.Proofs.YtcjfidfealifhaaGreat
set_option linter.unusedVariables false
set_option linter.unusedSimpArgs false
abbrev Bs := List UInt8
def byt (x : Int) (j : Nat) : UInt8 := UInt8.ofNat (x.toNat / 256 ^ j % 256)
def numL (x : Int) : Bs := if x < 1 then [0] else if x < 256 then [1, byt x 0] else if x < 65536 then [2, byt x 1, byt x 0] else if x < 16777216 then [3, byt x 2, byt x 1, byt x 0] else [4, byt x 3, byt x 2, byt x 1, byt x 0]
def okN (x : Int) : Bool := decide (0 ≤ x) && decide (x ≤ 1073741823)
theorem okN_iff {x : Int} : okN x = true ↔ 0 ≤ x ∧ x ≤ 1073741823 := by unfold okN; simp
def be (l : Bs) : Int := l.foldl (fun x b => x * 256 + (b.toNat : Int)) 0
def txtL (t : Bs) : Bs := numL t.length ++ t
def numsL (xs : List Int) : Bs := xs.flatMap numL
structure Codec (α : Type) where
  kind : α → Int
  nums : α → List Int
  text : α → Bs
  make : Int → List Int → Bs → α
  cnt : Int → Nat
  hasT : Int → Bool
  may : α → Bool
  okK : ∀ a, may a = true → okN (kind a) = true
  okX : ∀ a, may a = true → ∀ x ∈ nums a, okN x = true
  okC : ∀ a, (nums a).length = cnt (kind a)
  okT : ∀ a, may a = true → (text a).length ≤ 65536
  noT : ∀ a, may a = true → hasT (kind a) = false → text a = []
  back : ∀ a, may a = true → make (kind a) (nums a) (text a) = a
  mkK : ∀ k xs t, xs.length = cnt k → (hasT k = true ∨ t = []) → kind (make k xs t) = k ∧ nums (make k xs t) = xs ∧ text (make k xs t) = t
section
variable {α : Type} (C : Codec α)
def Codec.put (a : α) : Bs := numL (C.kind a) ++ numsL (C.nums a) ++ (if C.hasT (C.kind a) = true then txtL (C.text a) else [])
end
end Go.Proofs.YtcjfidfealifhaaGreat
