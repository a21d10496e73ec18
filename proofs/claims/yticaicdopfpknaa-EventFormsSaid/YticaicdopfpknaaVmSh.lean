/- Short names of the rules; what an operation asks as one equation. No program in it. -/
import Derived.Test.YticaicdopfpknaaVmFn
import Derived.Test.YticaicdopfpknaaVmX
set_option linter.unusedVariables false
set_option linter.unusedSimpArgs false
namespace Go.Proofs.Yticaicdopfpknaa.Vm
open Go

/-- Is it done? -/
def wantB (ops : Array Oper) (env : List (Nat × Value)) (o : Oper) : Option Bool :=
  match o.guard with
  | none => some true
  | some (j, want) => match (ops[j]?).bind (·.dst) with
    | none => none
    | some d => match lkp env d with
      | some (.bool c) => some (c == want)
      | _ => none
theorem want_of {ops : Array Oper} {env : List (Nat × Value)} {o : Oper} {b : Bool} (h : wantB ops env o = some b) : Want ops env o b := by
  unfold wantB at h
  unfold Want
  split at h
  · rename_i hg; rw [hg]; cases h; rfl
  · rename_i j want hg
    rw [hg]
    split at h
    · cases h
    rename_i d hd
    split at h
    · rename_i c hc; cases h; exact ⟨d, c, hd, hc, rfl⟩
    · cases h

def opQ (τ : Nat → Option TI) (m : Nat) (ops : Array Oper) (env : List (Nat × Value)) (V : Heap) (n : Nat) (o : Oper) : Option (Nat × Value) :=
  match wantB ops env o with
  | some true => match o.dst with
    | some d => match fitsT m (some d) with
      | true => match evOp τ env V n o.op with
        | some ⟨v, [], 0, _⟩ => some (d, v)
        | _ => none
      | false => none
    | none => none
  | _ => none
theorem opQ_spec {τ : Nat → Option TI} {m : Nat} {ops : Array Oper} {env : List (Nat × Value)} {V : Heap} {n : Nat} {o : Oper} {d : Nat} {v : Value} (h : opQ τ m ops env V n o = some (d, v)) :
    Want ops env o true ∧ o.dst = some d ∧ fitsT m (some d) = true ∧ ∃ rs, evOp τ env V n o.op = some ⟨v, [], 0, rs⟩ := by
  unfold opQ at h
  split at h
  case h_2 => cases h
  rename_i h1
  split at h
  case h_2 => cases h
  rename_i d' h2
  split at h
  case h_2 => cases h
  rename_i h3
  split at h
  case h_2 => cases h
  rename_i v' rs h4
  cases h
  exact ⟨want_of h1, h2, h3, rs, h4⟩

def opN (τ : Nat → Option TI) (m : Nat) (ops : Array Oper) (env : List (Nat × Value)) (V : Heap) (n : Nat) (o : Oper) : Option (Nat × Value × Nat × VObj) :=
  match wantB ops env o with
  | some true => match o.dst with
    | some d => match fitsT m (some d) with
      | true => match evOp τ env V n o.op with
        | some ⟨v, [(i, some ob)], 1, _⟩ => some (d, v, i, ob)
        | _ => none
      | false => none
    | none => none
  | _ => none
theorem opN_spec {τ : Nat → Option TI} {m : Nat} {ops : Array Oper} {env : List (Nat × Value)} {V : Heap} {n : Nat} {o : Oper} {d i : Nat} {v : Value} {ob : VObj} (h : opN τ m ops env V n o = some (d, v, i, ob)) :
    Want ops env o true ∧ o.dst = some d ∧ fitsT m (some d) = true ∧ ∃ rs, evOp τ env V n o.op = some ⟨v, [(i, some ob)], 1, rs⟩ := by
  unfold opN at h
  split at h
  case h_2 => cases h
  rename_i h1
  split at h
  case h_2 => cases h
  rename_i d' h2
  split at h
  case h_2 => cases h
  rename_i h3
  split at h
  case h_2 => cases h
  rename_i v' i' ob' rs h4
  cases h
  exact ⟨want_of h1, h2, h3, rs, h4⟩

def opS (τ : Nat → Option TI) (ops : Array Oper) (env : List (Nat × Value)) (V : Heap) (n : Nat) (o : Oper) : Option (Nat × VObj) :=
  match wantB ops env o with
  | some true => match o.dst with
    | none => match evOp τ env V n o.op with
      | some ⟨_, [(i, some ob)], 0, _⟩ => some (i, ob)
      | _ => none
    | some _ => none
  | _ => none
theorem opS_spec {τ : Nat → Option TI} {ops : Array Oper} {env : List (Nat × Value)} {V : Heap} {n : Nat} {o : Oper} {i : Nat} {ob : VObj} (h : opS τ ops env V n o = some (i, ob)) :
    Want ops env o true ∧ o.dst = none ∧ ∃ v rs, evOp τ env V n o.op = some ⟨v, [(i, some ob)], 0, rs⟩ := by
  unfold opS at h
  split at h
  case h_2 => cases h
  rename_i h1
  split at h
  case h_2 => cases h
  rename_i h2
  split at h
  case h_2 => cases h
  rename_i v' i' ob' rs h4
  cases h
  exact ⟨want_of h1, h2, v', rs, h4⟩

/-- A call: where it goes, whom it calls, with what. -/
def opC (m : Nat) (ops : Array Oper) (env : List (Nat × Value)) (o : Oper) : Option (Nat × FuncId × List Value) :=
  match wantB ops env o with
  | some true => match o.dst with
    | some d => match fitsT m (some d) with
      | true => match o.op with
        | .call { callee := .value f, args, argTypes := _ } => match rd env f with
          | some (.func (.func F) ⟨[]⟩ ⟨[]⟩) => match rds env args.toList with
            | some vb => some (d, F, vb)
            | none => none
          | _ => none
        | _ => none
      | false => none
    | none => none
  | _ => none
theorem opC_spec {m : Nat} {ops : Array Oper} {env : List (Nat × Value)} {o : Oper} {d : Nat} {F : FuncId} {vb : List Value} (h : opC m ops env o = some (d, F, vb)) :
    Want ops env o true ∧ o.dst = some d ∧ fitsT m (some d) = true ∧ ∃ f args ats, o.op = .call { callee := .value f, args, argTypes := ats } ∧ rd env f = some (.func (.func F) #[] #[]) ∧ rds env args.toList = some vb := by
  unfold opC at h
  split at h
  case h_2 => cases h
  rename_i h1
  split at h
  case h_2 => cases h
  rename_i d' h2
  split at h
  case h_2 => cases h
  rename_i h3
  split at h
  case h_2 => cases h
  rename_i f args ats h4
  split at h
  case h_2 => cases h
  rename_i F' h5
  split at h
  case h_2 => cases h
  rename_i vb' h6
  cases h
  exact ⟨want_of h1, h2, h3, f, args, ats, h4, h5, h6⟩

def opK (m : Nat) (ops : Array Oper) (env : List (Nat × Value)) (o : Oper) : Option Nat :=
  match wantB ops env o with
  | some false => match o.dst with
    | some d => match fitsT m (some d) with
      | true => some d
      | false => none
    | none => none
  | _ => none
theorem opK_spec {m : Nat} {ops : Array Oper} {env : List (Nat × Value)} {o : Oper} {d : Nat} (h : opK m ops env o = some d) : Want ops env o false ∧ o.dst = some d ∧ fitsT m (some d) = true := by
  unfold opK at h
  split at h
  case h_2 => cases h
  rename_i h1
  split at h
  case h_2 => cases h
  rename_i d' h2
  split at h
  case h_2 => cases h
  rename_i h3
  cases h
  exact ⟨want_of h1, h2, h3⟩

section
variable {P : Program} {τ : Nat → Option TI} {m g : Nat} {Q : Exit → St → Prop} {ops : Array Oper} {l : List Oper} {o : Oper} {env : List (Nat × Value)} {V : Heap} {n : Nat}
theorem vQ (hτ : Tab P τ) {d : Nat} {v : Value} (h : opQ τ m ops env V n o = some (d, v)) (K : VL P m g ops Q l ⟨(d, v) :: env, V, n⟩) : VL P m g ops Q (o :: l) ⟨env, V, n⟩ := by
  obtain ⟨h1, h2, h3, rs, h4⟩ := opQ_spec h
  exact vq_op hτ h1 h2 h3 h4 K
theorem vN (hτ : Tab P τ) {d i : Nat} {v : Value} {ob : VObj} (h : opN τ m ops env V n o = some (d, v, i, ob)) (K : VL P m g ops Q l ⟨(d, v) :: env, upd V i (some ob), n + 1⟩) : VL P m g ops Q (o :: l) ⟨env, V, n⟩ := by
  obtain ⟨h1, h2, h3, rs, h4⟩ := opN_spec h
  exact vn_op hτ h1 h2 h3 h4 K
theorem vS (hτ : Tab P τ) {i : Nat} {ob : VObj} (h : opS τ ops env V n o = some (i, ob)) (K : VL P m g ops Q l ⟨env, upd V i (some ob), n⟩) : VL P m g ops Q (o :: l) ⟨env, V, n⟩ := by
  obtain ⟨h1, h2, v, rs, h4⟩ := opS_spec h
  exact vs_op hτ h1 h2 h4 K
theorem vK {d : Nat} (h : opK m ops env o = some d) (K : VL P m g ops Q l ⟨(d, undef) :: env, V, n⟩) : VL P m g ops Q (o :: l) ⟨env, V, n⟩ := by
  obtain ⟨h1, h2, h3⟩ := opK_spec h
  exact vk_op h1 h2 h3 K
theorem vF {F : FuncId} {vb : List Value} {d : Nat} {v : Value} (h : opC m ops env o = some (d, F, vb)) (hF : Callable P F) (T : Fun P F vb v) (K : VL P m g ops Q l ⟨(d, v) :: env, V, n⟩) : VL P m g ops Q (o :: l) ⟨env, V, n⟩ := by
  obtain ⟨h1, h2, h3, f, args, ats, h4, h5, h6⟩ := opC_spec h
  exact vf_op h1 h2 h3 h4 h5 h6 hF T K
theorem vR {F : FuncId} {vb : List Value} {d : Nat} {v : Value} (h : opC m ops env o = some (d, F, vb)) (hF : Callable P F) (T : Tri P F vb n 0 V (fun u L => u = v ∧ L = [])) (K : VL P m g ops Q l ⟨(d, v) :: env, V, n⟩) : VL P m g ops Q (o :: l) ⟨env, V, n⟩ := by
  obtain ⟨h1, h2, h3, f, args, ats, h4, h5, h6⟩ := opC_spec h
  exact vr_op h1 h2 h3 h4 h5 h6 hF T K
theorem vT {F : FuncId} {vb : List Value} {d k : Nat} {v : Value} {L : List (Nat × Option VObj)} (h : opC m ops env o = some (d, F, vb)) (hF : Callable P F) (T : Tri P F vb n k V (fun u L' => u = v ∧ L' = L)) (K : VL P m g ops Q l ⟨(d, v) :: env, over V L, n + k⟩) : VL P m g ops Q (o :: l) ⟨env, V, n⟩ := by
  obtain ⟨h1, h2, h3, f, args, ats, h4, h5, h6⟩ := opC_spec h
  exact vt_op h1 h2 h3 h4 h5 h6 hF T K
theorem w1 {x y : Code} {s : St} (h : VW P m g x (then_ (VW P m g y Q) Q) s) : VW P m g (.seq x y) Q s := vw_seq h
theorem w2 {id : Nat} {s : St} (h : VL P m g ops Q ops.toList s) : VW P m g (.region id ops false) Q s := vw_region h
theorem w3 {N : St → Prop} {s : St} (h : N s) : then_ N Q .normal s := h
theorem w4 (h : Q .normal ⟨env, V, n⟩) : VL P m g ops Q [] ⟨env, V, n⟩ := v_nil h
theorem w5 {id : Nat} {c : Code} {s : St} (h : VW P m g c (inBlock id Q) s) : VW P m g (.block id c) Q s := vw_block h
end
end Go.Proofs.Yticaicdopfpknaa.Vm
