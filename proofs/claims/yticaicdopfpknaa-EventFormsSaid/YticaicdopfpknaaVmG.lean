/- Each operation as a function on a small heap of names; it is what the run does. No program in it. -/
import Derived.Test.YticaicdopfpknaaVmF
set_option linter.unusedVariables false
set_option linter.unusedSimpArgs false
namespace Go.Proofs.Yticaicdopfpknaa.Vm
open Go

/-- What comes of an operation: its value; what it turned; how many names are new; the names that it looked at. -/
structure Res where
  v : Value
  L : List (Nat × Option VObj)
  k : Nat
  reads : List Nat

def rv (v : Value) : Res := ⟨v, [], 0, []⟩

/-- The run does as was told. -/
def OpOk (P : Program) (x : Sem Next) (ρ : Ren) (V : Heap) (w : World) (n : Nat) (r : Res) : Prop :=
  ∃ v' w' ρ', (x.run P w = .ok (.value v') w' ∨ (x.run P w = .ok .skip w' ∧ v' = undef)) ∧ VRel ρ' r.v v' ∧ Sim ρ' (over V r.L) w' ∧ Keep ρ V w ρ' (over V r.L) w' ∧
    ∀ i, ¬ (n ≤ i ∧ i < n + r.k) → ρ' i = ρ i

def ValOk (P : Program) (x : Sem Value) (ρ : Ren) (V : Heap) (w : World) (n : Nat) (r : Res) : Prop :=
  ∃ v' w' ρ', x.run P w = .ok v' w' ∧ VRel ρ' r.v v' ∧ Sim ρ' (over V r.L) w' ∧ Keep ρ V w ρ' (over V r.L) w' ∧ ∀ i, ¬ (n ≤ i ∧ i < n + r.k) → ρ' i = ρ i

section
variable {P : Program} {τ : Nat → Option TI} {ρ : Ren} {V : Heap} {w : World} {n : Nat}

theorem ValOk.op {x : Sem Value} {r : Res} (h : ValOk P x ρ V w n r) : OpOk P (do pure (.value (← x))) ρ V w n r := by
  obtain ⟨v', w', ρ', h1, r⟩ := h
  exact ⟨v', w', ρ', .inl (by simp [h1]), r⟩

/-- An operation that only reads. -/
theorem ValOk.quiet {x : Sem Value} {v v' : Value} {reads : List Nat} (hs : Sim ρ V w) (h : x.run P w = .ok v' w) (hv : VRel ρ v v') : ValOk P x ρ V w n ⟨v, [], 0, reads⟩ :=
  ⟨v', w, ρ, h, hv, hs, .refl _ _ _, fun _ _ => rfl⟩

theorem OpOk.quiet {x : Sem Next} {v v' : Value} {reads : List Nat} (hs : Sim ρ V w) (h : x.run P w = .ok (.value v') w) (hv : VRel ρ v v') : OpOk P x ρ V w n ⟨v, [], 0, reads⟩ :=
  ⟨v', w, ρ, .inl h, hv, hs, .refl _ _ _, fun _ _ => rfl⟩

/-- A new block. -/
theorem ValOk.new {x : Sem Value} {o : VObj} {o' : Obj} {cap : Option (Nat × Nat)} {w' : World} {v v' : Value} (hs : Sim ρ V w) (hn : ρ n = none) (hc : (⟨w.heap.size, cap, 0⟩ : Slot).gone = false) (hw : Grew o' w w')
    (h : x.run P w = .ok v' w') (hr : ORel (extR ρ n ⟨w.heap.size, cap, 0⟩) ⟨w.heap.size, cap, 0⟩ o o') (hv : VRel (extR ρ n ⟨w.heap.size, cap, 0⟩) v v') :
    ValOk P x ρ V w n ⟨v, [(n, some o)], 1, []⟩ := by
  obtain ⟨h1, h2⟩ := sim_new hs hn hc hw hr
  refine ⟨v', w', _, h, hv, ?_, ?_, ?_⟩
  · rw [over_cons, over_nil]; exact h1
  · rw [over_cons, over_nil]; exact h2
  · intro i hi
    simp only [extR]
    rw [if_neg (by simp only at hi; omega)]

/-- A new name of nothing. -/
theorem ValOk.void {x : Sem Value} {o : VObj} {v v' : Value} {rs : List Nat} (hs : Sim ρ V w) (hn : ρ n = none) (ho : o.void = true) (h : x.run P w = .ok v' w) (hv : VRel (extR ρ n nowhere) v v') : ValOk P x ρ V w n ⟨v, [(n, some o)], 1, rs⟩ := by
  obtain ⟨h1, h2⟩ := sim_void hs hn ho
  refine ⟨v', w, _, h, hv, ?_, ?_, ?_⟩
  · rw [over_cons, over_nil]; exact h1
  · rw [over_cons, over_nil]; exact h2
  · intro i hi
    simp only [extR]
    rw [if_neg (by simp only at hi; omega)]

theorem extR_self (ρ : Ren) (i : Nat) (s : Slot) : extR ρ i s i = some s := by simp [extR]

theorem newVar_ok (hs : Sim ρ V w) (hn : ρ n = none) (t : TypeId) {v v' : Value} (hv : VRel ρ v v') :
    ValOk P (do pure (.pointer (some (← newVar t v')))) ρ V w n ⟨.pointer (some ⟨n, 0, none⟩), [(n, some (.cells v.cells.toList t (0, 0)))], 1, []⟩ := by
  refine ValOk.new (o' := .cells v'.cells t (0, 0)) (cap := none) (w' := { w with heap := w.heap.push (.cells v'.cells t) }) (v' := .pointer (some ⟨w.heap.size, 0, none⟩)) hs hn rfl ⟨rfl, rfl, rfl, rfl⟩ (by simp [newVar, newRow]) (.cells t (0, 0) rfl rfl ((vrel_cells hv).mono (Ext.extR hn _))) ?_
  exact .ptr (extR_self _ _ _)

/-- Parts, filled in. -/
def evFill (place : Nat → Option (Nat × Nat)) : List (Nat × Option Value) → List Value → Option (List Value)
  | [], c => some c
  | (i, x) :: r, c =>
    match place i, x with
    | some (off, size), some v => if v.cells.size = size ∧ off + size ≤ c.length then evFill place r (splice c off v.cells.toList) else none
    | _, _ => none

theorem setAll_splice : ∀ (vs : List Value) (c : Array Value) (off : Nat), off + vs.length ≤ c.size →
    (vs.toArray.zipIdx.foldl (fun cs (x : Value × Nat) => cs.setIfInBounds (off + x.2) x.1) c).toList = splice c.toList off vs := by
  have key : ∀ (vs : List Value) (c : Array Value) (off j : Nat), off + j + vs.length ≤ c.size →
      ((vs.zipIdx j).foldl (fun cs (x : Value × Nat) => cs.setIfInBounds (off + x.2) x.1) c).toList = splice c.toList (off + j) vs := by
    intro vs
    induction vs with
    | nil => intro c off j _; simp [splice_nil]
    | cons v vs ih =>
      intro c off j h
      simp only [List.length_cons] at h
      simp only [List.zipIdx_cons, List.foldl_cons]
      rw [ih _ _ (j + 1) (by simp; omega), splice_cons _ _ _ _ (by simp; omega)]
      simp [Nat.add_assoc]
  intro vs c off h
  have := key vs c off 0 (by omega)
  simpa [← Array.foldl_toList] using this

theorem fill_ok {place : Nat → Option (Nat × Nat)} : ∀ (ps : List (Nat × Option Value)) (ps' : List (Nat × Value)) (c : List Value) (c' : Array Value) (out : List Value),
    ps.length = ps'.length → (∀ (i : Nat) p q, ps[i]? = some p → ps'[i]? = some q → p.1 = q.1 ∧ ∀ v, p.2 = some v → VRel ρ v q.2) → LRel ρ c c'.toList → evFill place ps c = some out →
    ∃ out', Instr.fill place c' ps' = some out' ∧ LRel ρ out out'.toList
  | [], [], c, c', out, _, _, hc, h => by cases h; exact ⟨c', rfl, hc⟩
  | [], _ :: _, _, _, _, hl, _, _, _ => by simp at hl
  | _ :: _, [], _, _, _, hl, _, _, _ => by simp at hl
  | (i, x) :: ps, (j, y) :: ps', c, c', out, hl, hp, hc, h => by
    obtain ⟨he, hv⟩ := hp 0 _ _ rfl rfl
    simp only at he; subst he
    simp only [evFill] at h
    split at h
    case h_2 => cases h
    rename_i _ _ off size v hpl
    split at h
    case isFalse => cases h
    rename_i hsz
    have hvr := hv v rfl
    have hcl := vrel_cells hvr
    have hs1 : y.cells.size = size := by have := hcl.1; simp only [Array.length_toList] at this; omega
    have hs2 : c.length = c'.size := by have := hc.1; simpa using this
    have hfold := setAll_splice y.cells.toList c' off (by simp; omega)
    simp only [Array.toArray_toList] at hfold
    have := fill_ok (place := place) ps ps' (splice c off v.cells.toList) (y.cells.zipIdx.foldl (fun cs (x : Value × Nat) => cs.setIfInBounds (off + x.2) x.1) c') out (by simpa using hl)
      (fun i p q h1 h2 => hp (i + 1) p q (by simpa using h1) (by simpa using h2)) (by rw [hfold]; exact lrel_splice hc hcl off) h
    obtain ⟨out', ho, hr⟩ := this
    refine ⟨out', ?_, hr⟩
    simp only [Instr.fill, hpl]
    rw [if_neg (by simp [hs1]; omega)]
    exact ho

/-- The fields' places. -/
def evPlaces (τ : Nat → Option TI) : List Field → Option (List (Nat × Nat))
  | [] => some []
  | f :: fs => match τ f.type, evPlaces τ fs with
    | some ti, some r => some ((f.offset, ti.size) :: r)
    | _, _ => none

theorem evPlaces_ok (hτ : TyOk P τ) (w : World) : ∀ (fs : List Field) (ps : List (Nat × Nat)), evPlaces τ fs = some ps →
    (fs.mapM (fun f => do pure (f.offset, ← sizeOf f.type) : Field → Sem (Nat × Nat))).run P w = .ok ps w
  | [], ps, h => by cases h; simp
  | f :: fs, ps, h => by
    simp only [evPlaces] at h
    split at h
    case h_2 => cases h
    rename_i ti r h1 h2
    cases h
    have := evPlaces_ok hτ w fs r h2
    simp only [List.mapM_cons, Sem.run_bind, run_sizeOf' hτ h1, Result.andThen_ok, Sem.run_pure, this]

def evBuild (τ : Nat → Option TI) (t : Nat) (ps : List (Nat × Option Value)) : Option Value :=
  match τ t with
  | none => none
  | some ti =>
    match ti.desc with
    | .struct fs => match evPlaces τ fs.toList with
      | some pl => (evFill (pl[·]?) ps ti.zero.cells.toList).map fun c => .agg c.toArray
      | none => none
    | .array _ e => match τ e with
      | some te => (evFill (fun i => some (i * te.size, te.size)) ps ti.zero.cells.toList).map fun c => .agg c.toArray
      | none => none
    | _ => none

theorem evBuild_ok (hτ : TyOk P τ) {t : Nat} {ps : List (Nat × Option Value)} {ps' : List (Nat × Value)} {v : Value} (hl : ps.length = ps'.length)
    (hp : ∀ (i : Nat) p q, ps[i]? = some p → ps'[i]? = some q → p.1 = q.1 ∧ ∀ v, p.2 = some v → VRel ρ v q.2) (h : evBuild τ t ps = some v) :
    ∃ v', (Instr.build t ps'.toArray).run P w = .ok v' w ∧ VRel ρ v v' := by
  unfold evBuild at h
  split at h
  case h_1 => cases h
  rename_i ti ht
  have hz := vrel_cells (hτ.zero t ti ht ρ)
  split at h
  · rename_i fs hd
    split at h
    case h_2 => cases h
    rename_i pl hpl
    simp only [Option.map_eq_some_iff] at h
    obtain ⟨c, hc, rfl⟩ := h
    obtain ⟨out', ho, hr⟩ := fill_ok ps ps' ti.zero.cells.toList ti.zero.cells c hl hp hz hc
    refine ⟨.agg out', ?_, by simpa using vrel_agg hr⟩
    have hmap : (fs.mapM (fun f => do pure (f.offset, ← sizeOf f.type) : Field → Sem (Nat × Nat))).run P w = .ok pl.toArray w := by
      rw [Array.mapM_eq_mapM_toList, Sem.run_map, evPlaces_ok hτ w fs.toList pl hpl]; rfl
    simp only [Instr.build, Sem.run_bind, run_zeroValue' hτ ht, run_underlying' hτ ht, Result.andThen_ok, hd, hmap]
    have : (fun (x : Nat) => pl.toArray[x]?) = (fun (x : Nat) => pl[x]?) := by funext x; simp
    simp only [this, ho, Sem.run_pure]
  · rename_i k e hd
    split at h
    case h_2 => cases h
    rename_i te hte
    simp only [Option.map_eq_some_iff] at h
    obtain ⟨c, hc, rfl⟩ := h
    obtain ⟨out', ho, hr⟩ := fill_ok ps ps' ti.zero.cells.toList ti.zero.cells c hl hp hz hc
    refine ⟨.agg out', ?_, by simpa using vrel_agg hr⟩
    simp only [Instr.build, Sem.run_bind, run_zeroValue' hτ ht, run_underlying' hτ ht, Result.andThen_ok, hd, run_sizeOf' hτ hte, ho, Sem.run_pure]
  · cases h

/-- So many zeros. -/
def zeros (z : List Value) : Nat → List Value
  | 0 => []
  | n + 1 => z ++ zeros z n

theorem zeros_length (z : List Value) (n : Nat) : (zeros z n).length = n * z.length := by
  induction n with
  | zero => simp [zeros]
  | succ n ih => simp [zeros, ih, Nat.succ_mul, Nat.add_comm]

theorem zeros_get (z : List Value) : ∀ (n i : Nat), i < n * z.length → (zeros z n)[i]? = z[i % z.length]?
  | 0, i, h => by omega
  | n + 1, i, h => by
    simp only [zeros]
    by_cases hi : i < z.length
    · rw [List.getElem?_append_left hi, Nat.mod_eq_of_lt hi]
    · have hm : i % z.length = (i - z.length) % z.length := Nat.mod_eq_sub_mod (by omega)
      rw [List.getElem?_append_right (by omega), zeros_get z n (i - z.length) (by rw [Nat.add_mul] at h; omega), hm]

theorem zeros_range (z : Array Value) (n : Nat) : ((Array.range (n * z.size)).map (z[· % z.size]!)) = (zeros z.toList n).toArray := by
  apply Array.ext'
  apply List.ext_getElem?
  intro i
  by_cases hi : i < n * z.size
  · have hz : 0 < z.size := Nat.pos_of_ne_zero (fun e => by simp [e] at hi)
    have hm : i % z.size < z.size := Nat.mod_lt _ hz
    have := zeros_get z.toList n i (by simpa using hi)
    simp only [Array.length_toList] at this
    simp only [Array.toList_map, Array.toList_range, List.getElem?_map, List.getElem?_range hi, Option.map_some, this]
    simp [hm]
  · rw [List.getElem?_eq_none (by simp; omega), List.getElem?_eq_none (by simp [zeros_length]; omega)]

theorem lrel_zeros {z z' : List Value} (h : LRel ρ z z') : ∀ n, LRel ρ (zeros z n) (zeros z' n)
  | 0 => lrel_nil
  | n + 1 => lrel_append h (lrel_zeros h n)

def evBuildSlice (τ : Nat → Option TI) (n t len : Nat) (ps : List (Nat × Option Value)) : Option Res :=
  match τ t with
  | none => none
  | some ti =>
    match ti.desc with
    | .slice e => match τ e with
      | some te =>
        if len * te.size ≤ 16777216 ∧ 0 < te.size then
          (evFill (fun i => some (i * te.size, te.size)) ps (zeros te.zero.cells.toList len)).map fun c => ⟨.slice (some ⟨n, 0, none⟩) len 0, [(n, some (.opn c e te.size))], 1, []⟩
        else none
      | none => none
    | _ => none

theorem evFill_length {place : Nat → Option (Nat × Nat)} : ∀ (ps : List (Nat × Option Value)) (c out : List Value), evFill place ps c = some out → out.length = c.length
  | [], c, out, h => by cases h; rfl
  | (i, x) :: ps, c, out, h => by
    simp only [evFill] at h
    split at h
    · rename_i off size v h1
      split at h
      · rename_i hc
        rw [evFill_length ps _ _ h, splice_length _ _ _ (by simp; omega)]
      · cases h
    · cases h

theorem evBuildSlice_ok (hτ : TyOk P τ) (hzs : ∀ t ti, τ t = some ti → ti.zero.cells.size = ti.size) (hs : Sim ρ V w) (hn : ρ n = none) {t len : Nat} {ps : List (Nat × Option Value)} {ps' : List (Nat × Value)} {r : Res}
    (hl : ps.length = ps'.length) (hp : ∀ (i : Nat) p q, ps[i]? = some p → ps'[i]? = some q → p.1 = q.1 ∧ ∀ v, p.2 = some v → VRel ρ v q.2) (h : evBuildSlice τ n t len ps = some r) :
    ValOk P (Instr.buildSlice t len ps'.toArray) ρ V w n r := by
  unfold evBuildSlice at h
  split at h
  case h_1 => cases h
  rename_i ti ht
  split at h
  case h_2 => cases h
  rename_i e hd
  split at h
  case h_2 => cases h
  rename_i te hte
  split at h
  case isFalse => cases h
  rename_i hbig
  obtain ⟨hbig, hpos⟩ := hbig
  simp only [Option.map_eq_some_iff] at h
  obtain ⟨c, hc, rfl⟩ := h
  have hz := vrel_cells (hτ.zero e te hte ρ)
  have hsz := hzs e te hte
  obtain ⟨out', ho, hr⟩ := fill_ok ps ps' (zeros te.zero.cells.toList len) (zeros te.zero.cells.toList len).toArray c hl hp (by simpa using lrel_zeros hz len) hc
  have hlen : out'.size = len * te.size := by
    have h1 := hr.1
    rw [evFill_length _ _ _ hc, zeros_length] at h1
    simp only [Array.length_toList, hsz] at h1
    exact h1.symm
  refine ValOk.new (o' := .cells out' e (0, 0)) (cap := some (len, te.size)) (w' := { w with heap := w.heap.push (.cells out' e) }) (v' := .slice (some ⟨w.heap.size, 0, none⟩) len len) hs hn (gone_pos rfl hpos) ⟨rfl, rfl, rfl, rfl⟩ ?_
    (.opn (c1 := out'.toList) (c2 := []) (k := len) e rfl rfl (hr.mono (Ext.extR hn _)) (by simp) hlen hpos (0, 0) (.inr rfl))
    (by simpa using VRel.oslice (ρ := extR ρ n ⟨w.heap.size, some (len, te.size), 0⟩) (i := n) (off := 0) (n := len) (e := 0) (k := len) (sz := te.size) (s := ⟨w.heap.size, some (len, te.size), 0⟩) (extR_self _ _ _) rfl hpos (by simp) (by omega))
  have hzr := zeros_range te.zero.cells len
  rw [hsz] at hzr
  simp only [Instr.buildSlice, Sem.run_bind, run_underlying' hτ ht, Result.andThen_ok, hd, run_sizeOf' hτ hte]
  rw [if_neg (by omega)]
  by_cases h0 : len * te.size = 0
  · simp only [h0, Sem.run_bind, if_true, Sem.run_pure, Result.andThen_ok]
    have hnil : (zeros te.zero.cells.toList len).toArray = #[] := by
      have := zeros_length te.zero.cells.toList len
      simp only [Array.length_toList, hsz, h0] at this
      simp [List.length_eq_zero_iff.1 this]
    rw [hnil] at ho
    have h00 : Array.range 0 = #[] := rfl
    simp [h00, ho, newRow]
  · simp only [if_neg h0, Sem.run_bind, run_zeroValue' hτ hte, Sem.run_pure, Result.andThen_ok, hsz, hzr, ho]
    simp [newRow]

end
end Go.Proofs.Yticaicdopfpknaa.Vm
