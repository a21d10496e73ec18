/- Contracts of functions that look at slices of their caller's, read or turn its objects, or make new ones. No program in it. -/
import Derived.Test.YticaicdopfpknaaVmN
import Derived.Test.YticaicdopfpknaaVmU
import Derived.Test.YticaicdopfpknaaVmO
set_option linter.unusedVariables false
set_option linter.unusedSimpArgs false
namespace Go.Proofs.Yticaicdopfpknaa.Vm
open Go

def ownNames : List Src → List Nat
  | [] => []
  | .own i :: r => i :: ownNames r
  | .look _ _ _ :: r => ownNames r
def lookNames : List Src → List Nat
  | [] => []
  | .own _ :: r => lookNames r
  | .look (.slice (some a) _ _) _ _ :: r => a.block :: lookNames r
  | .look _ _ _ :: r => lookNames r

/-- Where an own name stands. -/
def place : Nat → List Src → Nat → Option Nat
  | _, [], _ => none
  | k, .own i :: r, j => if j = i then some k else place (k + 1) r j
  | k, .look _ _ _ :: r, j => place (k + 1) r j

theorem place_some : ∀ {l : List Src} {k j a : Nat}, place k l j = some a → k ≤ a ∧ l[a - k]? = some (.own j)
  | [], _, _, _, h => by cases h
  | .own i :: r, k, j, a, h => by
    simp only [place] at h
    split at h
    · rename_i he; subst he; cases h; exact ⟨Nat.le_refl _, by simp⟩
    · obtain ⟨h1, h2⟩ := place_some h
      exact ⟨by omega, by rw [show a - k = (a - (k + 1)) + 1 by omega, List.getElem?_cons_succ]; exact h2⟩
  | .look _ _ _ :: r, k, j, a, h => by
    simp only [place] at h
    obtain ⟨h1, h2⟩ := place_some h
    exact ⟨by omega, by rw [show a - k = (a - (k + 1)) + 1 by omega, List.getElem?_cons_succ]; exact h2⟩

theorem own_mem : ∀ {l : List Src} {a i : Nat}, l[a]? = some (.own i) → i ∈ ownNames l
  | [], _, _, h => by simp at h
  | s :: r, 0, i, h => by
    simp only [List.getElem?_cons_zero, Option.some.injEq] at h; subst h
    exact List.mem_cons_self
  | s :: r, a + 1, i, h => by
    have := own_mem (l := r) (a := a) (by simpa using h)
    cases s with
    | own j => exact List.mem_cons_of_mem _ this
    | look _ _ _ => exact this

theorem look_mem : ∀ {l : List Src} {a i off n c m sz : Nat}, l[a]? = some (.look (.slice (some ⟨i, off, none⟩) n c) m sz) → i ∈ lookNames l
  | [], _, _, _, _, _, _, _, h => by simp at h
  | s :: r, 0, i, off, n, c, m, sz, h => by
    simp only [List.getElem?_cons_zero, Option.some.injEq] at h; subst h
    exact List.mem_cons_self
  | s :: r, a + 1, i, off, n, c, m, sz, h => by
    have := look_mem (l := r) (a := a) (by simpa using h)
    match s with
    | .own j => exact this
    | .look (.slice (some _) _ _) _ _ => exact List.mem_cons_of_mem _ this
    | .look (.slice none _ _) _ _ => exact this
    | .look (.bool _) _ _ => exact this
    | .look (.int _ _) _ _ => exact this
    | .look (.float _ _) _ _ => exact this
    | .look (.complex _ _ _) _ _ => exact this
    | .look (.string _) _ _ => exact this
    | .look (.pointer _) _ _ => exact this
    | .look (.map _) _ _ => exact this
    | .look (.chan _) _ _ => exact this
    | .look .nilFunc _ _ => exact this
    | .look (.func _ _ _) _ _ => exact this
    | .look .nilIface _ _ => exact this
    | .look (.iface _ _) _ _ => exact this
    | .look (.agg _) _ _ => exact this
    | .look (.tuple _) _ _ => exact this

theorem own_inj : ∀ {l : List Src} (hn : (ownNames l).Nodup) {a b i : Nat}, l[a]? = some (.own i) → l[b]? = some (.own i) → a = b
  | [], _, _, _, _, h, _ => by simp at h
  | s :: r, hn, a, b, i, ha, hb => by
    have hr : (ownNames r).Nodup := by
      cases s with
      | own j => exact (List.nodup_cons.1 hn).2
      | look _ _ _ => exact hn
    cases a with
    | zero =>
      simp only [List.getElem?_cons_zero, Option.some.injEq] at ha; subst ha
      cases b with
      | zero => rfl
      | succ b => exact ((List.nodup_cons.1 hn).1 (own_mem (by simpa using hb))).elim
    | succ a =>
      cases b with
      | zero =>
        simp only [List.getElem?_cons_zero, Option.some.injEq] at hb; subst hb
        exact ((List.nodup_cons.1 hn).1 (own_mem (by simpa using ha))).elim
      | succ b => exact congrArg Nat.succ (own_inj hr (by simpa using ha) (by simpa using hb))

theorem place_of : ∀ {l : List Src} {k a j : Nat}, (ownNames l).Nodup → l[a]? = some (.own j) → place k l j = some (k + a)
  | [], _, _, _, _, h => by simp at h
  | .own i :: r, k, a, j, hn, h => by
    simp only [place]
    cases a with
    | zero => simp only [List.getElem?_cons_zero, Option.some.injEq, Src.own.injEq] at h; rw [if_pos h.symm]; rfl
    | succ a =>
      simp only [List.getElem?_cons_succ] at h
      have hne : j ≠ i := fun e => by subst e; exact (List.nodup_cons.1 hn).1 (own_mem h)
      rw [if_neg hne, place_of (List.nodup_cons.1 hn).2 h]
      congr 1; omega
  | .look _ _ _ :: r, k, a, j, hn, h => by
    simp only [place]
    cases a with
    | zero => simp at h
    | succ a =>
      simp only [List.getElem?_cons_succ] at h
      rw [place_of (l := r) hn h]
      congr 1; omega

/-- What a body begins with, one by one. -/
inductive EList (V : Heap) (src0 : List Src) : List Src → List VObj → Prop
  | nil : EList V src0 [] []
  | own {i : Nat} {o o1 : VObj} {r : List Src} {os : List VObj} (hV : V i = some o1) (hov : OV (ownR src0) o o1) (t : EList V src0 r os) : EList V src0 (.own i :: r) (o :: os)
  | look {v : Value} {m sz : Nat} {c : List Value} {r : List Src} {os : List VObj} (hl : Looks V sz v c m) (hf : Flat c) (t : EList V src0 r os) : EList V src0 (.look v m sz :: r) (.win c sz :: os)

theorem elist_len {V : Heap} {src0 r : List Src} {os : List VObj} (h : EList V src0 r os) : r.length = os.length := by
  induction h with
  | nil => rfl
  | own _ _ _ ih => simp [ih]
  | look _ _ _ ih => simp [ih]

theorem elist_get {V : Heap} {src0 r : List Src} {os : List VObj} (h : EList V src0 r os) : ∀ (a : Nat) (o : VObj), os[a]? = some o → ∃ s, r[a]? = some s ∧ match s with
    | .own i => ∃ o1, V i = some o1 ∧ OV (ownR src0) o o1
    | .look v m sz => ∃ c, o = .win c sz ∧ Looks V sz v c m ∧ Flat c := by
  induction h with
  | nil => intro a o h; simp at h
  | own hV hov _ ih =>
    intro a o h
    cases a with
    | zero => simp only [List.getElem?_cons_zero, Option.some.injEq] at h; subst h; exact ⟨_, rfl, _, hV, hov⟩
    | succ a => exact ih a o (by simpa using h)
  | look hl hf _ ih =>
    intro a o h
    cases a with
    | zero => simp only [List.getElem?_cons_zero, Option.some.injEq] at h; subst h; exact ⟨_, rfl, _, rfl, hl, hf⟩
    | succ a => exact ih a o (by simpa using h)

theorem enter_of {V : Heap} {src : List Src} {os : List VObj} (h : EList V src src os) (hn : (ownNames src).Nodup) (hd : ∀ i ∈ lookNames src, i ∉ ownNames src) : Enter V src os :=
  ⟨elist_get h, elist_len h, fun _ _ _ ha hb => own_inj hn ha hb, fun _ _ _ _ _ _ _ _ _ _ ha hb _ _ e => hd _ (look_mem ha) (e ▸ own_mem hb)⟩

/-- The contract's names, as the body has them: those that came in, and new ones. -/
def sigma (src : List Src) (n : Nat) (ids : List Nat) : Ren := fun j => match place 0 src j with
  | some a => if a ∈ ids then none else some ⟨a, none, 0⟩
  | none => if n ≤ j then (ids[j - n]?).map nameOf else none

/-- What comes out. -/
def OutPart (σ : Ren) (L : List (Nat × Option VObj)) (V : Heap) : Prop := ∀ j o, lkp L j = some (some o) → o.fixed = false ∧ ∃ t, σ j = some t ∧ ((t.gone = true ∧ o.void = true) ∨ (t.gone = false ∧ ∃ o', V t.blk = some o' ∧ OW σ o o'))
theorem op_nil {σ : Ren} {V : Heap} : OutPart σ [] V := fun j o h => by cases h
theorem op_cons {σ : Ren} {V : Heap} {j : Nat} {o o' : VObj} {t : Slot} {L : List (Nat × Option VObj)} (h1 : σ j = some t) (hg : t.gone = false) (h2 : V t.blk = some o') (h3 : OV σ o o') (hf : o.fixed = false) (k : OutPart σ L V) : OutPart σ ((j, some o) :: L) V := by
  intro i p h
  simp only [lkp] at h
  split at h
  · rename_i he; subst he; cases h; exact ⟨hf, t, h1, .inr ⟨hg, o', h2, .same h3⟩⟩
  · exact k i p h
theorem op_cut {σ : Ren} {V : Heap} {j : Nat} {o o' : VObj} {t : Slot} {L : List (Nat × Option VObj)} (h1 : σ j = some t) (hg : t.gone = false) (h2 : V t.blk = some o') (h3 : OW σ o o') (hf : o.fixed = false) (k : OutPart σ L V) : OutPart σ ((j, some o) :: L) V := by
  intro i p h
  simp only [lkp] at h
  split at h
  · rename_i he; subst he; cases h; exact ⟨hf, t, h1, .inr ⟨hg, o', h2, h3⟩⟩
  · exact k i p h
theorem op_void {σ : Ren} {V : Heap} {j : Nat} {o : VObj} {t : Slot} {L : List (Nat × Option VObj)} (h1 : σ j = some t) (hg : t.gone = true) (h2 : o.void = true) (hf : o.fixed = false) (k : OutPart σ L V) : OutPart σ ((j, some o) :: L) V := by
  intro i p h
  simp only [lkp] at h
  split at h
  · rename_i he; subst he; cases h; exact ⟨hf, t, h1, .inl ⟨hg, h2⟩⟩
  · exact k i p h
theorem op_drop {σ : Ren} {V : Heap} {j : Nat} {L : List (Nat × Option VObj)} (k : OutPart σ L V) : OutPart σ ((j, none) :: L) V := by
  intro i p h
  simp only [lkp] at h
  split at h
  · cases h
  · exact k i p h

/-- Own objects that are turned are told. -/
def Told (L : List (Nat × Option VObj)) : List Src → List VObj → Prop
  | .own i :: r, o :: os => (o.fixed = false → lkp L i ≠ none) ∧ Told L r os
  | .look _ _ _ :: r, _ :: os => Told L r os
  | _, _ => True

theorem told_get {L : List (Nat × Option VObj)} : ∀ {src : List Src} {os : List VObj}, Told L src os → ∀ (a : Nat) (o : VObj) (i : Nat), os[a]? = some o → o.fixed = false → src[a]? = some (.own i) → lkp L i ≠ none
  | [], _, _, a, o, i, _, _, h => by simp at h
  | s :: r, [], _, a, o, i, h, _, _ => by simp at h
  | s :: r, p :: os, ht, a, o, i, h1, h2, h3 => by
    cases s with
    | own j =>
      cases a with
      | zero => simp only [List.getElem?_cons_zero, Option.some.injEq, Src.own.injEq] at h1 h3; subst h1; subst h3; exact ht.1 h2
      | succ a => exact told_get ht.2 a o i (by simpa using h1) h2 (by simpa using h3)
    | look _ _ _ =>
      cases a with
      | zero => simp at h3
      | succ a => exact told_get (src := r) (os := os) ht a o i (by simpa using h1) h2 (by simpa using h3)

/-- What is to be shown at a function's end. -/
def OutOk (τ : Nat → Option TI) (fn : Func) (n k K : Nat) (src : List Src) (os : List VObj) (R : Value → List (Nat × Option VObj) → Prop) (e : Exit) (s : St) : Prop :=
  (e = .normal ∨ e = .ret) ∧ ∃ v L ids vr, R v L ∧ ids.length = k ∧ (ids.filter (· != NIL)).Nodup ∧ evResults τ s fn.results.toList = some vr ∧ VRel (sigma src n ids) v vr ∧ OutPart (sigma src n ids) L s.heap ∧ Told L src os

theorem out_mk {τ : Nat → Option TI} {fn : Func} {n k K : Nat} {src : List Src} {os : List VObj} {R : Value → List (Nat × Option VObj) → Prop} {e : Exit} {s : St} (ids : List Nat) {v vr : Value} {L : List (Nat × Option VObj)} (he : e = .normal ∨ e = .ret) (hR : R v L) (hr : evResults τ s fn.results.toList = some vr)
    (hv : VRel (sigma src n ids) v vr) (ho : OutPart (sigma src n ids) L s.heap) (ht : Told L src os) (hk : ids.length = k := by rfl) (hn : (ids.filter (· != NIL)).Nodup := by decide) : OutOk τ fn n k K src os R e s :=
  ⟨he, v, L, ids, vr, hR, hk, hn, hr, hv, ho, ht⟩

section
variable {P : Program} {τ : Nat → Option TI} {m : Nat}

theorem sigma_fit {src : List Src} {os : List VObj} {n k K : Nat} {ids : List Nat} {L : List (Nat × Option VObj)} {s : St} (hK : src.length = K) (hn : (ownNames src).Nodup) (hin : ∀ i ∈ ownNames src, i < n) (hidl : ids.length = k) (hnd : (ids.filter (· != NIL)).Nodup)
    (hout : OutPart (sigma src n ids) L s.heap) (hall : Told L src os) : Fit n k src os (sigma src n ids) L s := by
  have hσ : ∀ j t, sigma src n ids j = some t → (t.cap = some (0, 0) ∨ (t.cap = none ∧ t.base = 0)) ∧ ((t.gone = false ∧ src[t.blk]? = some (.own j) ∧ t.blk ∉ ids) ∨ (n ≤ j ∧ ∃ x, ids[j - n]? = some x ∧ t = nameOf x)) := by
    intro j t h
    unfold sigma at h
    split at h
    · rename_i a hx
      split at h
      · cases h
      · rename_i hni
        cases h
        have := (place_some hx).2
        rw [Nat.sub_zero] at this
        exact ⟨.inr ⟨rfl, rfl⟩, .inl ⟨rfl, this, hni⟩⟩
    · split at h
      · obtain ⟨x, hx, rfl⟩ := Option.map_eq_some_iff.1 h
        exact ⟨nameOf_plain x, .inr ⟨‹_›, x, hx, rfl⟩⟩
      · cases h
  refine ⟨fun j t h => (hσ j t h).1, fun j t h => ?_, fun i j t u hi hj htg hug e => ?_, hout, told_get hall⟩
  · rcases (hσ j t h).2 with ⟨h1, h2, _⟩ | ⟨h1, x, h2, _⟩
    · exact .inr ⟨h1, h2⟩
    · have := (List.getElem?_eq_some_iff.1 h2).1
      exact .inl ⟨h1, by omega⟩
  · rcases (hσ i t hi).2 with ⟨_, g1, g0⟩ | ⟨g1, x, g2, rfl⟩ <;> rcases (hσ j u hj).2 with ⟨_, k1, k0⟩ | ⟨k1, y, k2, rfl⟩
    · rw [e, k1] at g1; cases g1; rfl
    · rw [(nameOf_real hug).2] at e
      exact (g0 (by rw [e]; exact List.mem_of_getElem? k2)).elim
    · rw [(nameOf_real htg).2] at e
      exact (k0 (by rw [← e]; exact List.mem_of_getElem? g2)).elim
    · rw [(nameOf_real htg).2, (nameOf_real hug).2] at e
      simp only at e; subst e
      have := ids_inj hnd g2 k2 (nameOf_real htg).1
      omega

theorem call_of_vw (hτ : Tab P τ) {F : FuncId} {fn : Func} {c : Code} {args argsI : List Value} {n k K : Nat} {V : Heap} {R : Value → List (Nat × Option VObj) → Prop} (hf : P.funcs[F]? = some fn) (hb : fn.body = some c) (hm : fn.ntmps = m) (hlen : argsI.length ≤ m)
    (src : List Src) (os : List VObj) (hK : src.length = K) (he : EList V src src os) (hn : (ownNames src).Nodup) (hd : ∀ i ∈ lookNames src, i ∉ ownNames src) (hin : ∀ i ∈ ownNames src, i < n)
    (ha : AList src argsI args) (hs : ∀ (a : Nat) (v : Value) (m sz : Nat), src[a]? = some (Src.look v m sz) → Seen V args v)
    (h : VW P m K c (OutOk τ fn n k K src os R) ⟨argEnv 0 argsI, lkp (oHeap 0 os), K⟩) : Tri P F args n k V R := by
  refine tri_of_vw hτ hf hb hm hlen K src os (elist_len he ▸ hK) (enter_of he hn hd) ha hs (h.mono ?_)
  rintro e s ⟨h1, v, L, ids, vr, hR, hidl, hnd, hres, hvr, hout, hall⟩
  exact ⟨h1, v, L, sigma src n ids, vr, hR, hres, hvr, sigma_fit hK hn hin hidl hnd hout hall⟩

theorem tri_drop {F : FuncId} {args : List Value} {n k : Nat} {V : Heap} {v : Value} (h : Tri P F args n k V (fun u L => u = v ∧ over V L = V)) : Tri P F args n k V (fun u L => u = v ∧ L = []) := by
  intro ρ w args' hl hs ha
  refine (h ρ w args' hl hs ha).mono ?_
  rintro e w' ⟨u, L, v', ρ', ⟨rfl, hL⟩, r⟩
  exact ⟨u, [], v', ρ', ⟨rfl, rfl⟩, by rw [hL] at r; exact r⟩

/-- What is read is as it was. -/
def Stays (V : Heap) : Nat → List Src → List VObj → Prop
  | k, .own _ :: r, o :: os => (o.fixed = false → V k = some o) ∧ Stays V (k + 1) r os
  | k, .look _ _ _ :: r, _ :: os => Stays V (k + 1) r os
  | _, _, _ => True

theorem stays_get {V : Heap} : ∀ {src : List Src} {os : List VObj} {k : Nat}, Stays V k src os → ∀ (a : Nat) (o : VObj) (i : Nat), os[a]? = some o → o.fixed = false → src[a]? = some (.own i) → V (k + a) = some o
  | [], _, _, _, a, o, i, _, _, h => by simp at h
  | s :: r, [], _, _, a, o, i, h, _, _ => by simp at h
  | s :: r, p :: os, k, ht, a, o, i, h1, h2, h3 => by
    cases s with
    | own j =>
      cases a with
      | zero => simp only [List.getElem?_cons_zero, Option.some.injEq] at h1; subst h1; exact ht.1 h2
      | succ a =>
        have := stays_get ht.2 a o i (by simpa using h1) h2 (by simpa using h3)
        rw [show k + (a + 1) = k + 1 + a by omega]; exact this
    | look _ _ _ =>
      cases a with
      | zero => simp at h3
      | succ a =>
        have := stays_get (src := r) (os := os) (k := k + 1) ht a o i (by simpa using h1) h2 (by simpa using h3)
        rw [show k + (a + 1) = k + 1 + a by omega]; exact this

def backs (V : Heap) : List Src → List (Nat × Option VObj)
  | [] => []
  | .own i :: r => match V i with
    | some o => if o.fixed then backs V r else (i, some o) :: backs V r
    | none => backs V r
  | .look _ _ _ :: r => backs V r

theorem lkp_backs {V : Heap} : ∀ {src : List Src} {j : Nat} {x : Option VObj}, lkp (backs V src) j = some x → ∃ (a : Nat) (o : VObj), src[a]? = some (.own j) ∧ V j = some o ∧ o.fixed = false ∧ x = some o
  | [], j, x, h => by cases h
  | .own i :: r, j, x, h => by
    have rest : lkp (backs V r) j = some x → ∃ (a : Nat) (o : VObj), (Src.own i :: r)[a]? = some (.own j) ∧ V j = some o ∧ o.fixed = false ∧ x = some o := fun h => by
      obtain ⟨a, o, h1, h2⟩ := lkp_backs h
      exact ⟨a + 1, o, by simpa using h1, h2⟩
    simp only [backs] at h
    split at h
    · rename_i o hV
      split at h
      · exact rest h
      · rename_i hf
        simp only [lkp] at h
        split at h
        · rename_i he; subst he; cases h; exact ⟨0, o, rfl, hV, by simpa using hf, rfl⟩
        · exact rest h
    · exact rest h
  | .look _ _ _ :: r, j, x, h => by
    obtain ⟨a, o, h1, h2⟩ := lkp_backs (src := r) h
    exact ⟨a + 1, o, by simpa using h1, h2⟩

theorem lkp_backs_ne {V : Heap} {o : VObj} : ∀ {src : List Src} {a j : Nat}, src[a]? = some (.own j) → V j = some o → o.fixed = false → lkp (backs V src) j ≠ none
  | [], a, j, h, _, _ => by simp at h
  | s :: r, a, j, h, hV, hf => by
    have step : ∀ (l : List (Nat × Option VObj)) (x : Nat × Option VObj), lkp l j ≠ none → lkp (x :: l) j ≠ none := by
      intro l x hl
      simp only [lkp]
      split
      · simp
      · exact hl
    cases a with
    | zero =>
      simp only [List.getElem?_cons_zero, Option.some.injEq] at h; subst h
      simp only [backs, hV, hf, Bool.false_eq_true, if_false, lkp, if_true]
      simp
    | succ a =>
      have ih := lkp_backs_ne (src := r) (a := a) (by simpa using h) hV hf
      cases s with
      | own i =>
        simp only [backs]
        split
        · split
          · exact ih
          · exact step _ _ ih
        · exact ih
      | look _ _ _ => exact ih

/-- Names back. -/
theorem vrel_inv {σ τ : Ren} (h : ∀ a s, τ a = some s → s = ⟨s.blk, none, 0⟩ ∧ σ s.blk = some ⟨a, none, 0⟩) {x y : Value} (hv : VRel τ x y) : VRel σ y x := by
  induction hv with
  | bool b => exact .bool b
  | int k n => exact .int k n
  | string s => exact .string s
  | nilPtr => exact .nilPtr
  | ptr hi hg =>
    obtain ⟨h1, h2⟩ := h _ _ hi
    rw [h1]
    simp only [Nat.zero_add]
    simpa using VRel.ptr h2
  | nilSlice => exact .nilSlice
  | slice hi hc =>
    obtain ⟨h1, h2⟩ := h _ _ hi
    rw [h1]
    simp only [Nat.zero_add]
    simpa using VRel.slice h2 rfl
  | oslice hi hc => rw [(h _ _ hi).1] at hc; cases hc
  | ghost hi hc => rw [(h _ _ hi).1] at hc; cases hc
  | hollow hi hc => rw [(h _ _ hi).1] at hc; cases hc
  | nilMap => exact .nilMap
  | map hi hg =>
    obtain ⟨h1, h2⟩ := h _ _ hi
    exact .map h2
  | nilFunc => exact .nilFunc
  | func h1 _ h3 _ ih1 ih2 => exact .func h1.symm (fun i v v' a b => ih1 i v' v b a) h3.symm (fun i v v' a b => ih2 i v' v b a)
  | nilIface => exact .nilIface
  | iface t _ ih => exact .iface t ih
  | agg h1 _ ih => exact .agg h1.symm (fun i v v' a b => ih i v' v b a)
  | tuple h1 _ ih => exact .tuple h1.symm (fun i v v' a b => ih i v' v b a)

theorem ov_inv {σ τ : Ren} (h : ∀ a s, τ a = some s → s = ⟨s.blk, none, 0⟩ ∧ σ s.blk = some ⟨a, none, 0⟩) {x y : VObj} (hv : OV τ x y) : OV σ y x := by
  have hl : ∀ {a b : List Value}, LRel τ a b → LRel σ b a := fun k => ⟨k.1.symm, fun i v v' h1 h2 => vrel_inv h (k.2 i v' v h2 h1)⟩
  cases hv with
  | cells e fr k => exact .cells e fr (hl k)
  | opn e sz k => exact .opn e sz (hl k)
  | ro k => exact .ro (hl k)
  | win sz k => exact .win sz (hl k)
  | emp => exact .emp
  | map h1 h2 h3 => exact .map (hl h1) (hl h2) h3.symm

/-- A function that reads. What it gives bears no name. -/
theorem reads_of_vw (hτ : Tab P τ) {F : FuncId} {fn : Func} {c : Code} {args argsI : List Value} {n K : Nat} {V : Heap} {v : Value} (hf : P.funcs[F]? = some fn) (hb : fn.body = some c) (hm : fn.ntmps = m) (hlen : argsI.length ≤ m)
    (src : List Src) (os : List VObj) (hK : src.length = K) (he : EList V src src os) (hn : (ownNames src).Nodup) (hd : ∀ i ∈ lookNames src, i ∉ ownNames src)
    (ha : AList src argsI args) (hs : ∀ (a : Nat) (v : Value) (m sz : Nat), src[a]? = some (Src.look v m sz) → Seen V args v) (hv : VRel no v v)
    (h : VW P m K c (fun e s => ((e = .normal ∨ e = .ret) ∧ evResults τ s fn.results.toList = some v) ∧ Stays s.heap 0 src os) ⟨argEnv 0 argsI, lkp (oHeap 0 os), K⟩) : Tri P F args n 0 V (fun u L => u = v ∧ L = []) := by
  refine tri_drop ?_
  refine tri_of_vw hτ hf hb hm hlen K src os (elist_len he ▸ hK) (enter_of he hn hd) ha hs (h.mono ?_)
  rintro e s ⟨⟨h1, h2⟩, h3⟩
  let σ : Ren := fun j => (place 0 src j).map (⟨·, none, 0⟩)
  have hσ : ∀ j t, σ j = some t → src[t.blk]? = some (.own j) ∧ t = ⟨t.blk, none, 0⟩ := by
    intro j t h
    obtain ⟨a, hx, rfl⟩ := Option.map_eq_some_iff.1 h
    have := (place_some hx).2
    exact ⟨by simpa using this, rfl⟩
  have hov : ∀ {o o1 : VObj}, OV (ownR src) o o1 → OV σ o1 o := fun k => ov_inv (fun a s ha => by
    obtain ⟨h1, h2⟩ := ownR_some ha
    exact ⟨h2, by simp only [σ, place_of hn h1, Nat.zero_add]; rfl⟩) k
  refine ⟨h1, v, backs V src, σ, v, ⟨rfl, ?_⟩, h2, hv.mono (fun _ _ h => by cases h), ⟨fun j t h => by rw [(hσ j t h).2]; exact .inr ⟨rfl, rfl⟩, fun j t h => .inr ⟨by rw [(hσ j t h).2]; rfl, (hσ j t h).1⟩, fun i j t u hi hj _ _ e => ?_, fun i o hi => ?_, fun a o i hao ho hi => ?_⟩⟩
  · funext j
    unfold over
    cases hx : lkp (backs V src) j with
    | none => rfl
    | some x =>
      obtain ⟨a, o, g1, g2, _, rfl⟩ := lkp_backs hx
      exact g2.symm
  · have g1 := (hσ i t hi).1
    have g2 := (hσ j u hj).1
    rw [e, g2] at g1; cases g1; rfl
  · obtain ⟨a, o', g1, g2, g3, g4⟩ := lkp_backs hi
    cases g4
    have hlt : a < os.length := elist_len he ▸ (List.getElem?_eq_some_iff.1 g1).1
    obtain ⟨sr, p1, p2⟩ := elist_get he a os[a] (by simp [hlt])
    rw [g1] at p1; cases p1
    obtain ⟨o1, p3, p4⟩ := p2
    rw [g2] at p3; cases p3
    have hfx : os[a].fixed = false := p4.fixed ▸ g3
    have hst := stays_get h3 a os[a] i (by simp [hlt]) hfx g1
    rw [Nat.zero_add] at hst
    refine ⟨g3, ⟨a, none, 0⟩, by simp only [σ, place_of hn g1, Nat.zero_add]; rfl, .inr ⟨rfl, os[a], hst, .same (hov p4)⟩⟩
  · obtain ⟨sr, p1, p2⟩ := elist_get he a o hao
    rw [hi] at p1; cases p1
    obtain ⟨o1, p3, p4⟩ := p2
    exact lkp_backs_ne hi p3 (p4.fixed.trans ho)

/-- A call of a function that reads objects. -/
theorem vr_op {g : Nat} {Q : Exit → St → Prop} {ops : Array Oper} {l : List Oper} {o : Oper} {env : List (Nat × Value)} {V : Heap} {n : Nat} {F : FuncId} {f : Operand} {args : Array Operand} {ats : Array TypeId} {vb : List Value} {d : Nat} {v : Value} (hw : Want ops env o true) (hd : o.dst = some d)
    (hm : fitsT m (some d) = true) (ho : o.op = .call { callee := .value f, args, argTypes := ats }) (hf : rd env f = some (.func (.func F) #[] #[])) (ha : rds env args.toList = some vb) (hF : Callable P F)
    (T : Tri P F vb n 0 V (fun u L => u = v ∧ L = [])) (K : VL P m g ops Q l ⟨(d, v) :: env, V, n⟩) : VL P m g ops Q (o :: l) ⟨env, V, n⟩ := by
  refine vl_call (s := ⟨env, V, n⟩) (va := []) (vc := []) (vb := vb) (k := 0) (R := fun u L => u = v ∧ L = []) hw (by rw [hd]; exact hm) ho hf ha hF (by simpa using T) ?_
  rintro u L ⟨rfl, rfl⟩
  rw [hd]; exact K

theorem dr_op {g : Nat} {Q : Exit → St → Prop} {ops : Array Oper} {l : List Oper} {o : Oper} {env : List (Nat × Value)} {V : Heap} {n : Nat} {s0 : St} {done : List Item} {F : FuncId} {f : Operand} {args : Array Operand} {ats : Array TypeId} {vb : List Value} {d : Nat} {v : Value}
    (hw : Want ops (cut (o.looksAt ops) env) o true) (hd : o.dst = some d) (ho : o.op = .call { callee := .value f, args, argTypes := ats }) (hf : rd (cut (o.looksAt ops) env) f = some (.func (.func F) #[] #[])) (ha : rds (cut (o.looksAt ops) env) args.toList = some vb) (hF : Callable P F)
    (T : Tri P F vb n 0 (only (vb.flatMap at_) V) (fun u L => u = v ∧ L = [])) (K : VD P m g ops Q s0 (⟨done.length, some d, o.looksAt ops, v, [], n, 0, vb.flatMap at_⟩ :: done) l ⟨(d, v) :: env, V, n⟩) : VD P m g ops Q s0 done (o :: l) ⟨env, V, n⟩ := by
  refine vd_at fun hoi => ?_
  have := does_call (P := P) (m := m) (V := V) (n := n) (k := 0) (rs := vb.flatMap at_) (v := v) (L := []) (va := []) (vc := []) (vb := vb) hoi hw ho hf ha hF (by simpa using T)
  rw [hd] at this
  refine vd_step ?_ ?_ ?_ K
  · exact this
  · funext t; rfl
  · rfl

/-- A call of a function that turns objects. -/
theorem vt_op {g : Nat} {Q : Exit → St → Prop} {ops : Array Oper} {l : List Oper} {o : Oper} {env : List (Nat × Value)} {V : Heap} {n k : Nat} {F : FuncId} {f : Operand} {args : Array Operand} {ats : Array TypeId} {vb : List Value} {d : Nat} {v : Value} {L : List (Nat × Option VObj)} (hw : Want ops env o true)
    (hd : o.dst = some d) (hm : fitsT m (some d) = true) (ho : o.op = .call { callee := .value f, args, argTypes := ats }) (hf : rd env f = some (.func (.func F) #[] #[])) (ha : rds env args.toList = some vb) (hF : Callable P F)
    (T : Tri P F vb n k V (fun u L' => u = v ∧ L' = L)) (K : VL P m g ops Q l ⟨(d, v) :: env, over V L, n + k⟩) : VL P m g ops Q (o :: l) ⟨env, V, n⟩ := by
  refine vl_call (s := ⟨env, V, n⟩) (va := []) (vc := []) (vb := vb) (k := k) (R := fun u L' => u = v ∧ L' = L) hw (by rw [hd]; exact hm) ho hf ha hF (by simpa using T) ?_
  rintro u L' ⟨rfl, rfl⟩
  rw [hd]; exact K

theorem dt_op {g : Nat} {Q : Exit → St → Prop} {ops : Array Oper} {l : List Oper} {o : Oper} {env : List (Nat × Value)} {V : Heap} {n k : Nat} {s0 : St} {done : List Item} {F : FuncId} {f : Operand} {args : Array Operand} {ats : Array TypeId} {vb : List Value} {d : Nat} {v : Value} {L : List (Nat × Option VObj)}
    (rs : List Nat) (hw : Want ops (cut (o.looksAt ops) env) o true) (hd : o.dst = some d) (ho : o.op = .call { callee := .value f, args, argTypes := ats }) (hf : rd (cut (o.looksAt ops) env) f = some (.func (.func F) #[] #[])) (ha : rds (cut (o.looksAt ops) env) args.toList = some vb)
    (hF : Callable P F) (T : Tri P F vb n k (only rs V) (fun u L' => u = v ∧ L' = L)) (K : VD P m g ops Q s0 (⟨done.length, some d, o.looksAt ops, v, L, n, k, rs⟩ :: done) l ⟨(d, v) :: env, over V L, n + k⟩) : VD P m g ops Q s0 done (o :: l) ⟨env, V, n⟩ := by
  refine vd_at fun hoi => ?_
  have := does_call (P := P) (m := m) (V := V) (n := n) (k := k) (rs := rs) (v := v) (L := L) (va := []) (vc := []) (vb := vb) hoi hw ho hf ha hF (by simpa using T)
  rw [hd] at this
  refine vd_step ?_ ?_ ?_ K
  · exact this
  · funext t; rfl
  · rfl
end
end Go.Proofs.Yticaicdopfpknaa.Vm
