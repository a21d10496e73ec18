/- Operations that compute, compare, read, make and write, over a small heap of names. No program in it. -/
import Derived.Test.YticaicdopfpknaaVmE
import Derived.Laws.StructEq
set_option linter.unusedVariables false
set_option linter.unusedSimpArgs false
namespace Go.Proofs.Yticaicdopfpknaa.Vm
open Go

/-- Numbers. -/
def evInt (op : BinOp) (k : IntKind) (a b : Int) : Option Value :=
  match op with
  | .add => some (.int k (k.wrap (a + b)))
  | .sub => some (.int k (k.wrap (a - b)))
  | .mul => some (.int k (k.wrap (a * b)))
  | .quo => if b = 0 then none else some (.int k (k.wrap (a.tdiv b)))
  | .rem => if b = 0 then none else some (.int k (a.tmod b))
  | .and => some (.int k (bits .and k a b))
  | .or => some (.int k (bits .or k a b))
  | .xor => some (.int k (bits .xor k a b))
  | .andNot => some (.int k (bits .andNot k a b))
  | .eql => some (.bool (a == b))
  | .neq => some (.bool (a != b))
  | .lss => some (.bool (decide (a < b)))
  | .leq => some (.bool (decide (a ≤ b)))
  | .gtr => some (.bool (decide (b < a)))
  | .geq => some (.bool (decide (b ≤ a)))
  | _ => none

def evStr (op : BinOp) (a b : ByteArray) : Option Value :=
  match op with
  | .add => if a.size + b.size ≤ 4611686018427387904 then some (.string (a ++ b)) else none
  | .eql => some (.bool (a == b))
  | .neq => some (.bool (!(a == b)))
  | .lss => some (.bool (Op.bytesLess a.data.toList b.data.toList))
  | .leq => some (.bool (Op.bytesLess a.data.toList b.data.toList || a == b))
  | .gtr => some (.bool (!(Op.bytesLess a.data.toList b.data.toList || a == b)))
  | .geq => some (.bool (!(Op.bytesLess a.data.toList b.data.toList)))
  | _ => none

def evPart (τ : Nat → Option TI) (t : Nat) (cs : List Value) (off : Nat) : Option Value :=
  match τ t with
  | some ti => if isAggB ti.desc then some (.agg ((cs.drop off).take ti.size).toArray) else cs[off]?
  | none => none

def evEqFields (τ : Nat → Option TI) (eq : Nat → Value → Value → Option Bool) : List Field → List Value → List Value → Option Bool
  | [], _, _ => some true
  | f :: fs, xs, ys =>
    match evPart τ f.type xs f.offset, evPart τ f.type ys f.offset with
    | some a, some b =>
      match eq f.type a b, evEqFields τ eq fs xs ys with
      | some p, some q => if f.name = "_" then none else some (p && q)
      | _, _ => none
    | _, _ => none

def evEq (τ : Nat → Option TI) : Nat → Nat → Value → Value → Option Bool
  | 0, _, _, _ => none
  | d + 1, t, x, y =>
    match τ t with
    | none => none
    | some ti =>
      match ti.desc, x, y with
      | .bool, .bool a, .bool b => some (a == b)
      | .int _, .int k a, .int k' b => if k = k' then some (a == b) else none
      | .string, .string a, .string b => some (a == b)
      | .pointer _, .pointer none, .pointer b => some b.isNone
      | .pointer _, .pointer (some _), .pointer none => some false
      | .interface _, .nilIface, .iface _ _ => some false
      | .interface _, .iface _ _, .nilIface => some false
      | .interface _, .iface tx vx, .iface ty vy =>
        if tx = ty then (match τ tx with
          | some tj => if tj.cmp then evEq τ d tx vx vy else none
          | none => none)
        else some false
      | .map _ _, .map none, .map b => some b.isNone
      | .map _ _, .map (some _), .map none => some false
      | .func _ _ _, .nilFunc, .nilFunc => some true
      | .func _ _ _, .nilFunc, .func _ _ _ => some false
      | .func _ _ _, .func _ _ _, .nilFunc => some false
      | .struct fs, .agg xs, .agg ys => if ti.eqOk then evEqFields τ (evEq τ d) fs.toList xs.toList ys.toList else none
      | _, _, _ => none

/-- The cell ahead: both nil, and neither of them the literal. -/
def bothNil : Value → Value → Bool
  | .nilIface, .nilIface => true
  | _, _ => false

def isIface (τ : Nat → Option TI) (t : Nat) : Bool :=
  match τ t with
  | some ti => (match ti.desc with
    | .interface _ => true
    | _ => false)
  | none => false

def evBin (τ : Nat → Option TI) (op : BinOp) (t : Nat) (lit : Bool) (x y : Value) : Option Value :=
  match op, x, y with
  | .shl, .int k a, .int _ b => if b < 0 then none else some (.int k (k.wrap (a * 2 ^ (min b.toNat k.bits))))
  | .shr, .int k a, .int _ b => if b < 0 then none else some (.int k (a.fdiv (2 ^ (min b.toNat k.bits))))
  | op, .int k a, .int k' b => if k = k' then evInt op k a b else none
  | op, .string a, .string b => evStr op a b
  | .eql, x, y => if bothNil x y then (if lit && isIface τ t then some (.bool true) else none) else (evEq τ 50 t x y).map .bool
  | .neq, x, y => if bothNil x y then (if lit && isIface τ t then some (.bool false) else none) else (evEq τ 50 t x y).map fun b => .bool (!b)
  | _, _, _ => none

def evUn (op : UnOp) (x : Value) : Option Value :=
  match op, x with
  | .neg, .int k n => some (.int k (k.wrap (0 - n)))
  | .not, .bool b => some (.bool (!b))
  | .xor, .int k n => some (.int k (bits .xor k (if k.signed then -1 else k.max) n))
  | _, _ => none

section
variable {P : Program} {τ : Nat → Option TI} {ρ : Ren} {V : Heap} {w : World}

theorem evInt_ok {op : BinOp} {k : IntKind} {a b : Int} {v : Value} (h : evInt op k a b = some v) :
    (match op with
      | .add | .sub | .mul => Op.intArith op k a b
      | .quo | .rem => Op.intDiv op k a b
      | .and | .or | .xor | .andNot => Op.intBits op k a b
      | _ => Op.intCmp op a b).run P w = .ok v w ∧ VRel ρ v v := by
  cases op <;> simp only [evInt, reduceCtorEq] at h
  all_goals first
    | (split at h
       · cases h
       · rename_i hb; cases h; exact ⟨by simp [Op.intDiv, hb], .int _ _⟩)
    | (cases h; exact ⟨by simp [Op.intArith, intBits_and, intBits_or, intBits_xor, intBits_andNot, Op.intCmp, Int.not_lt, Int.not_le], by constructor⟩)

theorem toList_data (a : ByteArray) : a.toList = a.data.toList := ByteArray.toList_eq a

theorem evStr_ok {op : BinOp} {a b : ByteArray} {v : Value} (h : evStr op a b = some v) : (Op.stringOp op a b).run P w = .ok v w ∧ VRel ρ v v := by
  cases op <;> simp only [evStr, reduceCtorEq] at h
  all_goals first
    | (split at h
       · rename_i hs
         cases h
         refine ⟨?_, .string _⟩
         have : ¬ (((a.size + b.size : Nat) : Int) > IntKind.i64.max) := by
           have : IntKind.i64.max = 9223372036854775807 := by decide
           omega
         simp only [Op.stringOp, if_neg this, Sem.run_pure]
       · cases h)
    | (cases h; exact ⟨by simp [Op.stringOp, beq_toListBytes, toList_data], by constructor⟩)

theorem evPart_ok (hτ : TyOk P τ) {t : Nat} {cs cs' : List Value} {off : Nat} {v : Value} (hc : LRel ρ cs cs') (h : evPart τ t cs off = some v) :
    ∃ v', (part t cs'.toArray off).run P w = .ok v' w ∧ VRel ρ v v' := by
  unfold evPart at h
  split at h
  case h_2 => cases h
  rename_i ti ht
  simp only [part, Sem.run_bind, run_isAgg' hτ ht, Result.andThen_ok]
  split at h
  · rename_i ha
    cases h
    rw [if_pos ha]
    refine ⟨.agg ((cs'.drop off).take ti.size).toArray, ?_, vrel_agg (lrel_take (lrel_drop hc off) _)⟩
    simp only [run_sizeOf' hτ ht, Sem.run_bind, Result.andThen_ok, Sem.run_pure]
    congr 2
    simp [List.extract_eq_take_drop]
  · rename_i ha
    rw [if_neg ha]
    obtain ⟨v', hv, hr⟩ := lrel_get hc h
    exact ⟨v', by simp [hv], hr⟩

theorem run_eqFields {eq : Nat → Value → Value → Option Bool} {d : Nat} (hτ : TyOk P τ)
    (ih : ∀ t x y x' y' b, VRel ρ x x' → VRel ρ y y' → eq t x y = some b → (Op.equalIn d t x' y').run P w = .ok b w) :
    ∀ (fs : List Field) (xs xs' ys ys' : List Value) (b : Bool), LRel ρ xs xs' → LRel ρ ys ys' → evEqFields τ eq fs xs ys = some b →
      (Op.eqFields d xs'.toArray ys'.toArray fs).run P w = .ok b w
  | [], xs, xs', ys, ys', b, _, _, h => by cases h; rfl
  | f :: fs, xs, xs', ys, ys', b, hx, hy, h => by
    simp only [evEqFields] at h
    split at h
    case h_2 => cases h
    rename_i a c h1 h2
    split at h
    case h_2 => cases h
    rename_i p q h3 h4
    split at h
    case isTrue => cases h
    rename_i hn
    cases h
    obtain ⟨a', ha, hra⟩ := evPart_ok (w := w) hτ hx h1
    obtain ⟨c', hc, hrc⟩ := evPart_ok (w := w) hτ hy h2
    simp only [Op.eqFields, ne_eq, hn, not_false_eq_true, if_true, Sem.run_bind, ha, hc, Result.andThen_ok, ih _ _ _ _ _ _ hra hrc h3]
    have := run_eqFields hτ ih fs xs xs' ys ys' q hx hy h4
    cases p
    · simp
    · simpa using this

set_option maxHeartbeats 4000000 in
theorem evEq_ok (hτ : TyOk P τ) : ∀ (e d t : Nat) (x y x' y' : Value) (b : Bool), VRel ρ x x' → VRel ρ y y' → evEq τ e t x y = some b →
    (Op.equalIn (d + e) t x' y').run P w = .ok b w
  | 0, d, t, x, y, x', y', b, _, _, h => by cases h
  | e + 1, d, t, x, y, x', y', b, hx, hy, h => by
    simp only [evEq] at h
    split at h
    case h_1 => cases h
    rename_i ti ht
    have hu := run_underlying' hτ ht w
    rw [show d + (e + 1) = (d + e) + 1 from rfl]
    split at h
    · rename_i h1; cases hx; cases hy; cases h; simp [Op.equalIn, hu, h1]
    · rename_i h1; cases hx; cases hy
      split at h
      · rename_i hk; subst hk; cases h; simp [Op.equalIn, hu, h1]
      · cases h
    · rename_i h1; cases hx; cases hy; cases h; simp [Op.equalIn, hu, h1]
    · rename_i h1; cases hx; cases hy <;> (cases h; simp [Op.equalIn, hu, h1])
    · rename_i h1; cases hx; cases hy; cases h; simp [Op.equalIn, hu, h1]
    · rename_i h1; cases hx; cases hy; cases h; simp [Op.equalIn, hu, h1]
    · rename_i h1; cases hx; cases hy; cases h; simp [Op.equalIn, hu, h1]
    · rename_i h1
      cases hx with | iface tx hvx => cases hy with | iface ty hvy =>
      split at h
      · rename_i htt; subst htt
        split at h
        · rename_i tj htj
          split at h
          · rename_i hcmp
            obtain ⟨f, hf, _⟩ := run_typeInfo' hτ htj w
            have hfc := hτ.cmp _ _ htj hcmp
            obtain ⟨f', hf', hc'⟩ := hfc
            have : f = f' := by
              have h2 := hf
              simp only [typeInfo, Sem.run_bind, run_program, Result.andThen_ok, hf', Sem.run_pure, Result.ok.injEq, and_true] at h2
              exact h2.symm
            subst this
            simp [Op.equalIn, hu, h1, hf, hc', evEq_ok hτ e d _ _ _ _ _ b hvx hvy h]
          · cases h
        · cases h
      · rename_i htt; cases h; simp [Op.equalIn, hu, h1, htt]
    · rename_i h1; cases hx; cases hy <;> (cases h; simp [Op.equalIn, hu, h1])
    · rename_i h1; cases hx; cases hy; cases h; simp [Op.equalIn, hu, h1]
    · rename_i h1; cases hx; cases hy; cases h; simp [Op.equalIn, hu, h1]
    · rename_i h1; cases hx; cases hy; cases h; simp [Op.equalIn, hu, h1]
    · rename_i h1; cases hx; cases hy; cases h; simp [Op.equalIn, hu, h1]
    · rename_i h1
      split at h
      · rename_i hok
        obtain ⟨xs', rfl, hxs⟩ := vrel_agg_inv hx
        obtain ⟨ys', rfl, hys⟩ := vrel_agg_inv hy
        have hun := hτ.under t ti ht
        rw [h1] at hun
        have hfs : P.underlying t = some (.struct (P.fieldsOf t)) := by simp only [Program.fieldsOf, hun]
        have hfe := Option.some.inj (hfs.symm.trans hun)
        rw [run_equalIn_struct w (d + e) t xs' ys' hfs (hτ.eqOk t ti ht hok).1, TypeDesc.struct.inj hfe]
        have := run_eqFields (w := w) (d := d + e) hτ (fun t x y x' y' b h1 h2 h3 => evEq_ok hτ e d t x y x' y' b h1 h2 h3) _ _ _ _ _ b hxs hys h
        simpa using this
      · cases h
    · cases h

end
end Go.Proofs.Yticaicdopfpknaa.Vm
