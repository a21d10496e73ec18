/- Contracts of functions that read objects of their caller's. No program in it. -/
import Derived.Test.YtjiajajifgfmjaaVmN
import Derived.Test.YtjiajajifgfmjaaVmU
set_option linter.unusedVariables false
set_option linter.unusedSimpArgs false
namespace Go.Proofs.Ytjiajajifgfmjaa.Vm
open Go

def iota (is : List Nat) : Ren := fun a => (is[a]?).map (⟨·, none, 0⟩)
def idx : Nat → List Nat → Nat → Option Nat
  | _, [], _ => none
  | k, i :: r, j => if j = i then some k else idx (k + 1) r j
def oHeap : Nat → List VObj → List (Nat × VObj)
  | _, [] => []
  | k, o :: r => (k, o) :: oHeap (k + 1) r
def back (is : List Nat) (os : List VObj) : List (Nat × Option VObj) := (is.zip os).map fun p => (p.1, some p.2)

theorem idx_some : ∀ {l : List Nat} {k j a : Nat}, idx k l j = some a → k ≤ a ∧ l[a - k]? = some j
  | [], _, _, _, h => by cases h
  | i :: r, k, j, a, h => by
    simp only [idx] at h
    split at h
    · rename_i he; subst he; cases h; exact ⟨Nat.le_refl _, by simp⟩
    · obtain ⟨h1, h2⟩ := idx_some h
      exact ⟨by omega, by rw [show a - k = (a - (k + 1)) + 1 by omega, List.getElem?_cons_succ]; exact h2⟩

theorem idx_of : ∀ {l : List Nat} {k j a : Nat}, l.Nodup → l[a]? = some j → idx k l j = some (k + a)
  | [], _, _, _, _, h => by simp at h
  | i :: r, k, j, a, hn, h => by
    simp only [idx]
    cases a with
    | zero => simp only [List.getElem?_cons_zero, Option.some.injEq] at h; rw [if_pos h.symm]; rfl
    | succ a =>
      simp only [List.getElem?_cons_succ] at h
      have hne : j ≠ i := fun e => by
        subst e
        exact (List.nodup_cons.1 hn).1 (List.mem_of_getElem? h)
      rw [if_neg hne, idx_of (List.nodup_cons.1 hn).2 h]
      congr 1; omega

theorem lkp_oHeap : ∀ {l : List VObj} {k i : Nat} {o : VObj}, lkp (oHeap k l) i = some o → k ≤ i ∧ l[i - k]? = some o
  | [], k, i, o, h => by cases h
  | c :: r, k, i, o, h => by
    simp only [oHeap, lkp] at h
    split at h
    · rename_i he; subst he; cases h; exact ⟨Nat.le_refl _, by simp⟩
    · obtain ⟨h1, h2⟩ := lkp_oHeap h
      exact ⟨by omega, by rw [show i - k = (i - (k + 1)) + 1 by omega, List.getElem?_cons_succ]; exact h2⟩

theorem lkp_back : ∀ {is : List Nat} {os : List VObj} {j : Nat} {x : Option VObj}, lkp (back is os) j = some x → ∃ (a : Nat) (o : VObj), is[a]? = some j ∧ os[a]? = some o ∧ x = some o
  | [], _, _, _, h => by simp [back, lkp] at h
  | i :: is, [], _, _, h => by simp [back, lkp] at h
  | i :: is, o :: os, j, x, h => by
    simp only [back, List.zip_cons_cons, List.map_cons, lkp] at h
    split at h
    · rename_i he; subst he; cases h; exact ⟨0, o, rfl, rfl, rfl⟩
    · obtain ⟨a, o', h1, h2, h3⟩ := lkp_back (is := is) (os := os) h
      exact ⟨a + 1, o', h1, h2, h3⟩

theorem lkp_back_ne : ∀ {is : List Nat} {os : List VObj} {a j : Nat}, is[a]? = some j → os.length = is.length → lkp (back is os) j ≠ none
  | [], _, _, _, h, _ => by simp at h
  | i :: is, [], _, _, _, h => by simp at h
  | i :: is, o :: os, a, j, h, hl => by
    simp only [back, List.zip_cons_cons, List.map_cons, lkp]
    split
    · simp
    · rename_i hne
      cases a with
      | zero => simp only [List.getElem?_cons_zero, Option.some.injEq] at h; exact (hne h.symm).elim
      | succ a => exact lkp_back_ne (is := is) (os := os) (by simpa using h) (by simpa using hl)

section
variable {P : Program} {τ : Nat → Option TI} {m : Nat}

theorem tri_drop {F : FuncId} {args : List Value} {n k : Nat} {V : Heap} {v : Value} (h : Tri P F args n k V (fun u L => u = v ∧ over V L = V)) : Tri P F args n k V (fun u L => u = v ∧ L = []) := by
  intro ρ w args' hl hs ha
  refine (h ρ w args' hl hs ha).mono ?_
  rintro e w' ⟨u, L, v', ρ', ⟨rfl, hL⟩, r⟩
  exact ⟨u, [], v', ρ', ⟨rfl, rfl⟩, by rw [hL] at r; exact r⟩

theorem read_of_vw (hτ : Tab P τ) {F : FuncId} {fn : Func} {c : Code} {args argsI : List Value} {n K : Nat} {V : Heap} {v : Value} (hf : P.funcs[F]? = some fn) (hb : fn.body = some c) (hm : fn.ntmps = m) (hlen : argsI.length ≤ m)
    (is : List Nat) (os : List VObj) (hK : is.length = K) (hn : is.Nodup) (hl : os.length = is.length) (hV : ∀ (a : Nat) (o : VObj), os[a]? = some o → ∃ i, is[a]? = some i ∧ V i = some o) (hov : ∀ o ∈ os, ∀ ρ, OV ρ o o) (hfx : ∀ o ∈ os, o.fixed = false)
    (ha : LRel (iota is) argsI args) (hv : VRel no v v)
    (h : VW P m K c (fun e s => ((e = .normal ∨ e = .ret) ∧ evResults τ s fn.results.toList = some v) ∧ ∀ (a : Nat) (o : VObj), os[a]? = some o → s.heap a = some o) ⟨argEnv 0 argsI, lkp (oHeap 0 os), K⟩) : Tri P F args n 0 V (fun u L => u = v ∧ L = []) := by
  refine tri_drop ?_
  have hio : ∀ a s, iota is a = some s → is[a]? = some s.blk ∧ s.cap = none ∧ s.base = 0 := by
    intro a s h
    obtain ⟨i, hi, rfl⟩ := Option.map_eq_some_iff.1 h
    exact ⟨hi, rfl, rfl⟩
  refine tri_of_vw hτ hf hb hm hlen K (iota is) (fun a s h => ?_) (fun a b s t h1 h2 e => ?_) (oHeap 0 os) (fun a o h => ?_) ha (h.mono ?_)
  · obtain ⟨h1, h2⟩ := hio a s h
    exact ⟨hK ▸ (List.getElem?_eq_some_iff.1 h1).1, h2⟩
  · obtain ⟨h1, _⟩ := hio a s h1
    obtain ⟨h2, _⟩ := hio b t h2
    rw [← e] at h2
    obtain ⟨p1, q1⟩ := List.getElem?_eq_some_iff.1 h1
    obtain ⟨p2, q2⟩ := List.getElem?_eq_some_iff.1 h2
    exact (List.getElem_inj hn).1 (q1.trans q2.symm)
  · obtain ⟨_, h2⟩ := lkp_oHeap h
    rw [Nat.sub_zero] at h2
    obtain ⟨i, h3, h4⟩ := hV a o h2
    exact ⟨⟨i, none, 0⟩, o, by simp [iota, h3], h4, hov o (List.mem_of_getElem? h2) _⟩
  · rintro e s ⟨⟨h1, h2⟩, h3⟩
    let σ : Ren := fun j => (idx 0 is j).map (⟨·, none, 0⟩)
    have hσ : ∀ j t, σ j = some t → is[t.blk]? = some j ∧ t.cap = none ∧ t.base = 0 := by
      intro j t h
      obtain ⟨a, hx, rfl⟩ := Option.map_eq_some_iff.1 h
      have := (idx_some hx).2
      exact ⟨by simpa using this, rfl, rfl⟩
    refine ⟨h1, v, back is os, σ, v, ⟨rfl, ?_⟩, h2, hv.mono (fun _ _ h => by cases h), ⟨fun j t h => (hσ j t h).2, fun j t h => .inr ?_, fun i j t u hi hj e => ?_, fun i o hi => ?_, fun a o u hao ho hu => ?_⟩⟩
    · funext j
      unfold over
      cases hx : lkp (back is os) j with
      | none => rfl
      | some x =>
        obtain ⟨a, o, g1, g2, rfl⟩ := lkp_back hx
        obtain ⟨i, g3, g4⟩ := hV a o g2
        rw [g1] at g3; cases g3
        exact g4.symm
    · have := (hσ j t h).1
      exact ⟨hK ▸ (List.getElem?_eq_some_iff.1 this).1, ⟨j, none, 0⟩, by simp [iota, this], rfl⟩
    · have g1 := (hσ i t hi).1
      have g2 := (hσ j u hj).1
      rw [e, g2] at g1; cases g1; rfl
    · obtain ⟨a, o', g1, g2, g3⟩ := lkp_back hi
      cases g3
      refine ⟨hfx o (List.mem_of_getElem? g2), ⟨a, none, 0⟩, o, ?_, h3 a o g2, hov o (List.mem_of_getElem? g2) _⟩
      simp only [σ, idx_of hn g1, Nat.zero_add]; rfl
    · obtain ⟨g1, _⟩ := hio a u hu
      exact lkp_back_ne g1 hl

/-- A call of a function that reads objects. -/
theorem vr_op {g : Nat} {Q : Exit → St → Prop} {ops : Array Oper} {l : List Oper} {o : Oper} {env : List (Nat × Value)} {V : Heap} {n : Nat} {F : FuncId} {f : Operand} {args : Array Operand} {ats : Array TypeId} {vb : List Value} {d : Nat} {v : Value} (hw : Want ops env o true) (hd : o.dst = some d)
    (hm : fitsT m (some d) = true) (ho : o.op = .call { callee := .value f, args, argTypes := ats }) (hf : rd env f = some (.func (.func F) #[] #[])) (ha : rds env args.toList = some vb) (hF : Callable P F)
    (T : Tri P F vb n 0 V (fun u L => u = v ∧ L = [])) (K : VL P m g ops Q l ⟨(d, v) :: env, V, n⟩) : VL P m g ops Q (o :: l) ⟨env, V, n⟩ := by
  refine vl_call (s := ⟨env, V, n⟩) (va := []) (vc := []) (vb := vb) (k := 0) (R := fun u L => u = v ∧ L = []) hw (by rw [hd]; exact hm) ho hf ha hF (by simpa using T) ?_
  rintro u L ⟨rfl, rfl⟩
  rw [hd]; exact K

theorem dr_op {g : Nat} {Q : Exit → St → Prop} {ops : Array Oper} {l : List Oper} {o : Oper} {env : List (Nat × Value)} {V : Heap} {n : Nat} {s0 : St} {done : List Item} {F : FuncId} {f : Operand} {args : Array Operand} {ats : Array TypeId} {vb : List Value} {d : Nat} {v : Value}
    (hw : Want ops (cut (o.looksAt ops) env) o true) (hd : o.dst = some d) (ho : o.op = .call { callee := .value f, args, argTypes := ats }) (hf : rd (cut (o.looksAt ops) env) f = some (.func (.func F) #[] #[])) (ha : rds (cut (o.looksAt ops) env) args.toList = some vb) (hF : Callable P F)
    (T : Tri P F vb n 0 (only (vb.flatMap at_) V) (fun u L => u = v ∧ L = [])) (K : VD P m g ops Q s0 (⟨done.length, some d, o.looksAt ops, v, [], n, 0, vb.flatMap at_⟩ :: done) l ⟨(d, v) :: env, V, n⟩) : VD P m g ops Q s0 done (o :: l) ⟨env, V, n⟩ := by
  refine vd_at fun hoi => ?_
  have := does_call (P := P) (m := m) (V := V) (n := n) (k := 0) (rs := vb.flatMap at_) (v := v) (L := []) (va := []) (vc := []) (vb := vb) hoi hw ho hf ha hF (by simpa using T)
  rw [hd] at this
  refine vd_step ?_ ?_ ?_ K
  · exact this
  · funext t; rfl
  · rfl
end
end Go.Proofs.Ytjiajajifgfmjaa.Vm
