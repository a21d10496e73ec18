/- A reader that answers with a pointer into what it was handed. -/
import Derived.Test.YtcjfidfealifhaaVg1
namespace Go.Proofs.Ytcjfidfealifhaa.Vm
open Go
set_option linter.unusedVariables false
section
variable {P : Program} {τ : Nat → Option TI} {m : Nat}
/-- A function that reads. What it gives may bear names of objects that it was handed. -/
theorem readsp_of_vw (hτ : Tab P τ) {F : FuncId} {fn : Func} {c : Code} {args argsI : List Value} {n K : Nat} {V : Heap} {v vI : Value} (hf : P.funcs[F]? = some fn) (hb : fn.body = some c) (hm : fn.ntmps = m) (hlen : argsI.length ≤ m)
    (src : List Src) (os : List VObj) (hK : src.length = K) (he : EList V src src os) (hn : (ownNames src).Nodup) (hd : ∀ i ∈ lookNames src, i ∉ ownNames src)
    (ha : AList src argsI args) (hs : ∀ (a : Nat) (v : Value) (m sz : Nat), src[a]? = some (Src.look v m sz) → Seen V args v) (hv : ∀ σ : Ren, (∀ (a i : Nat), src[a]? = some (.own i) → σ i = some ⟨a, none, 0⟩) → VRel σ v vI)
    (h : VW P m K c (fun e s => ((e = .normal ∨ e = .ret) ∧ evResults τ s fn.results.toList = some vI) ∧ Stays s.heap 0 src os) ⟨argEnv 0 argsI, lkp (oHeap 0 os), K⟩) : Tri P F args n 0 V (fun u L => u = v ∧ L = []) := by
  refine tri_drop ?_
  refine tri_of_vw hτ hf hb hm hlen K src os (elist_len he ▸ hK) (enter_of he hn hd) ha hs (h.mono ?_)
  rintro e s ⟨⟨h1, h2⟩, h3⟩
  let σ : Ren := fun j => (place 0 src j).map (⟨·, none, 0⟩)
  have hσ : ∀ j t, σ j = some t → src[t.blk]? = some (.own j) ∧ t = ⟨t.blk, none, 0⟩ := by
    intro j t h
    obtain ⟨a, hx, rfl⟩ := Option.map_eq_some_iff.1 h
    have := (place_some hx).2
    exact ⟨by simpa using this, rfl⟩
  have hov : ∀ {o o1 : VObj}, OV (ownR src) o o1 → OV σ o1 o := fun k => ov_inv (fun a s ha => by
    obtain ⟨h1, h2⟩ := ownR_some ha
    exact ⟨h2, by simp only [σ, place_of hn h1, Nat.zero_add]; rfl⟩) k
  refine ⟨h1, v, backs V src, σ, vI, ⟨rfl, ?_⟩, h2, hv σ (fun a i h => by simp only [σ, place_of hn h, Nat.zero_add]; rfl), ⟨fun j t h => by rw [(hσ j t h).2]; exact .inr ⟨rfl, rfl⟩, fun j t h => .inr ⟨by rw [(hσ j t h).2]; rfl, (hσ j t h).1⟩, fun i j t u hi hj _ _ e => ?_, fun i o hi => ?_, fun a o i hao ho hi => ?_⟩⟩
  · funext j
    unfold over
    cases hx : lkp (backs V src) j with
    | none => rfl
    | some x =>
      obtain ⟨a, o, g1, g2, _, rfl⟩ := lkp_backs hx
      exact g2.symm
  · have g1 := (hσ i t hi).1
    have g2 := (hσ j u hj).1
    rw [e, g2] at g1; cases g1; rfl
  · obtain ⟨a, o', g1, g2, g3, g4⟩ := lkp_backs hi
    cases g4
    have hlt : a < os.length := elist_len he ▸ (List.getElem?_eq_some_iff.1 g1).1
    obtain ⟨sr, p1, p2⟩ := elist_get he a os[a] (by simp [hlt])
    rw [g1] at p1; cases p1
    obtain ⟨o1, p3, p4⟩ := p2
    rw [g2] at p3; cases p3
    have hfx : os[a].fixed = false := p4.fixed ▸ g3
    have hst := stays_get h3 a os[a] i (by simp [hlt]) hfx g1
    rw [Nat.zero_add] at hst
    refine ⟨g3, ⟨a, none, 0⟩, by simp only [σ, place_of hn g1, Nat.zero_add]; rfl, .inr ⟨rfl, os[a], hst, .same (hov p4)⟩⟩
  · obtain ⟨sr, p1, p2⟩ := elist_get he a o hao
    rw [hi] at p1; cases p1
    obtain ⟨o1, p3, p4⟩ := p2
    exact lkp_backs_ne hi p3 (p4.fixed.trans ho)

end
end Go.Proofs.Ytcjfidfealifhaa.Vm
