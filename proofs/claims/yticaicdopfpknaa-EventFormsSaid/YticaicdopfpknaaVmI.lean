/- The remaining plain operations, and all of them as one function. No program in it. -/
import Derived.Test.YticaicdopfpknaaVmH
set_option linter.unusedVariables false
set_option linter.unusedSimpArgs false
namespace Go.Proofs.Yticaicdopfpknaa.Vm
open Go

def evField (τ : Nat → Option TI) (t f : Nat) (x : Value) : Option Value :=
  match τ t with
  | none => none
  | some ti =>
    match ti.desc, x with
    | .struct fs, .agg cs => match fs[f]? with
      | some fd => evPart τ fd.type cs.toList fd.offset
      | none => none
    | _, _ => none

def evFieldAddr (τ : Nat → Option TI) (t f : Nat) (x : Value) : Option Value :=
  match τ t with
  | none => none
  | some ti =>
    match ti.desc, x with
    | .struct fs, .pointer (some ⟨i, off, none⟩) => match fs[f]? with
      | some fd => match τ fd.type with
        | some tf => if tf.size = 0 then none else some (.pointer (some ⟨i, off + fd.offset, none⟩))
        | none => none
      | none => none
    | _, _ => none

def evIndexAddr (τ : Nat → Option TI) (t : Nat) (x ix : Value) : Option Value :=
  match τ t with
  | none => none
  | some ti =>
    match ti.desc, x, ix with
    | .slice e, .slice (some ⟨i, off, none⟩) len _, .int _ j => match τ e with
      | some te => if 0 ≤ j ∧ j < (len : Int) then some (.pointer (some ⟨i, off + j.toNat * te.size, none⟩)) else none
      | none => none
    | .array len e, .pointer (some ⟨i, off, none⟩), .int _ j => match τ e with
      | some te => if 0 ≤ j ∧ j < (len : Int) then some (.pointer (some ⟨i, off + j.toNat * te.size, none⟩)) else none
      | none => none
    | _, _, _ => none

def evIndex (τ : Nat → Option TI) (t : Nat) (x ix : Value) : Option Value :=
  match τ t with
  | none => none
  | some ti =>
    match ti.desc, x, ix with
    | .array len e, .agg cs, .int _ j => match τ e with
      | some te => if 0 ≤ j ∧ j < (len : Int) then evPart τ e cs.toList (j.toNat * te.size) else none
      | none => none
    | .string, .string s, .int _ j => if 0 ≤ j ∧ j < (s.size : Int) then some (.int .u8 ((s.data.toList.getD j.toNat 0).toNat : Int)) else none
    | _, _, _ => none

def evExtract (x : Value) (ix : Nat) : Option Value :=
  match x with
  | .tuple vs => vs[ix]?
  | _ => none

def asBytes : List Value → Option (List UInt8)
  | [] => some []
  | .int .u8 n :: r => (asBytes r).map (UInt8.ofNat n.toNat :: ·)
  | _ => none

def evConvert (τ : Nat → Option TI) (V : Heap) (src dst : Nat) (x : Value) : Option Res :=
  match τ src, τ dst with
  | some ts, some td =>
    match ts.desc, td.desc, x with
    | .int _, .int k, .int _ n => some (rv (.int k (k.wrap n)))
    | .string, .string, .string s => some (rv (.string s))
    | .slice e, .string, .slice none 0 0 => match τ e with
      | some te => (match te.desc with
        | .int .u8 => some (rv (.string .empty))
        | _ => none)
      | none => none
    | .slice e, .string, .slice (some ⟨i, off, none⟩) len _ =>
      match τ e, (V i).bind cellsOf with
      | some te, some c => (match te.desc with
        | .int .u8 => if off + len ≤ c.length then (asBytes ((c.drop off).take len)).map fun l => ⟨.string ⟨l.toArray⟩, [], 0, [i]⟩ else none
        | _ => none)
      | _, _ => none
    | _, _, _ => none
  | _, _ => none

def evLen (τ : Nat → Option TI) (V : Heap) (t : Nat) (x : Value) : Option Res :=
  match τ t with
  | none => none
  | some ti =>
    match ti.desc, x with
    | .string, .string s => some (rv (.int .i64 s.size))
    | .slice _, .slice _ m _ => some (rv (.int .i64 m))
    | .map _ _, .map none => some (rv (.int .i64 0))
    | .map _ _, .map (some i) => match V i with
      | some (.map es _) => some ⟨.int .i64 es.length, [], 0, [i]⟩
      | _ => none
    | .array m _, _ => some (rv (.int .i64 m))
    | _, _ => none

def evMin : List Value → Option Value
  | [.int k x, .int k' y] => if k = k' then some (.int k (if y < x then y else x)) else none
  | [.int k x, .int k' y, .int k'' z] => if k = k' ∧ k = k'' then some (.int k (if z < (if y < x then y else x) then z else (if y < x then y else x))) else none
  | _ => none

def evMax : List Value → Option Value
  | [.int k x, .int k' y] => if k = k' then some (.int k (if x < y then y else x)) else none
  | _ => none

def evAssert (τ : Nat → Option TI) (x : Value) (asserted : Nat) (ok : Bool) : Option Value :=
  match τ asserted with
  | none => none
  | some ti =>
    match ti.desc, x with
    | .interface _, _ => none
    | _, .nilIface => if ok then some (.tuple #[ti.zero, .bool false]) else none
    | _, .iface t v => if t = asserted then some (if ok then .tuple #[v, .bool true] else v) else (if ok then some (.tuple #[ti.zero, .bool false]) else none)
    | _, _ => none

section
variable {P : Program} {τ : Nat → Option TI} {ρ : Ren} {V : Heap} {w : World} {n : Nat}

theorem evField_ok (hτ : TyOk P τ) {t f : Nat} {x x' v : Value} (hx : VRel ρ x x') (h : evField τ t f x = some v) : ∃ v', (Instr.field t x' f).run P w = .ok v' w ∧ VRel ρ v v' := by
  unfold evField at h
  split at h
  case h_1 => cases h
  rename_i ti ht
  split at h
  case h_2 => cases h
  rename_i fs cs hd
  split at h
  case h_2 => cases h
  rename_i fd hf
  obtain ⟨cs', rfl, hc⟩ := vrel_agg_inv hx
  obtain ⟨v', h1, h2⟩ := evPart_ok (w := w) hτ hc h
  exact ⟨v', by simp only [Instr.field, Sem.run_bind, run_underlying' hτ ht, Result.andThen_ok, hd, hf, asAgg, Sem.run_pure]; simpa using h1, h2⟩

theorem evFieldAddr_ok (hτ : TyOk P τ) {t f : Nat} {x x' v : Value} (hx : VRel ρ x x') (h : evFieldAddr τ t f x = some v) : ∃ v', (Instr.fieldAt t x' f).run P w = .ok v' w ∧ VRel ρ v v' := by
  unfold evFieldAddr at h
  split at h
  case h_1 => cases h
  rename_i ti ht
  split at h
  case h_2 => cases h
  rename_i fs i off hd
  split at h
  case h_2 => cases h
  rename_i fd hf
  split at h
  case h_2 => cases h
  rename_i tf htf
  split at h
  case isTrue => cases h
  rename_i hz
  cases h
  cases hx with
  | ptr hi hgo =>
  refine ⟨_, ?_, .ptr hi hgo⟩
  simp [Instr.fieldAt, run_underlying' hτ ht, hd, hf, Instr.sureAddr, fieldPlace, run_sizeOf' hτ htf, hz, add_none, Nat.add_assoc]

theorem evIndexAddr_ok (hτ : TyOk P τ) {t : Nat} {x x' ix ix' v : Value} (hx : VRel ρ x x') (hi : VRel ρ ix ix') (h : evIndexAddr τ t x ix = some v) :
    ∃ v', (Instr.indexAt t x' ix').run P w = .ok v' w ∧ VRel ρ v v' := by
  unfold evIndexAddr at h
  split at h
  case h_1 => cases h
  rename_i ti ht
  split at h
  · rename_i e i off len cap k j hd
    split at h
    case h_2 => cases h
    rename_i te hte
    split at h
    case isFalse => cases h
    rename_i hc
    cases h
    cases hi
    have main : ∀ (s : Slot) c', ρ i = some s → s.gone = false → ∃ v', (Instr.indexAt t (.slice (some ⟨s.blk, s.base + off, none⟩) len c') (.int k j)).run P w = .ok v' w ∧ VRel ρ (.pointer (some ⟨i, off + j.toNat * te.size, none⟩)) v' := by
      intro s c' hs hgo
      refine ⟨_, ?_, .ptr hs hgo⟩
      simp [Instr.indexAt, asIntOf, run_underlying' hτ ht, hd, hc, run_sizeOf' hτ hte, add_none, Nat.add_assoc]
    cases hx with
    | slice h1 hc => exact main _ _ h1 (gone_none hc)
    | oslice h1 hc hz _ _ => exact main _ _ h1 (gone_pos hc hz)
    | ghost => omega
    | hollow => omega
  · rename_i len e i off k j hd
    split at h
    case h_2 => cases h
    rename_i te hte
    split at h
    case isFalse => cases h
    rename_i hc
    cases h
    cases hi
    cases hx with
    | ptr h1 hgo =>
    refine ⟨_, ?_, .ptr h1 hgo⟩
    simp [Instr.indexAt, asIntOf, Instr.sureAddr, run_underlying' hτ ht, hd, hc, run_sizeOf' hτ hte, add_none, Nat.add_assoc]
  · cases h

theorem evIndex_ok (hτ : TyOk P τ) {t : Nat} {x x' ix ix' v : Value} (hx : VRel ρ x x') (hi : VRel ρ ix ix') (h : evIndex τ t x ix = some v) :
    ∃ v', (Instr.index t x' ix').run P w = .ok v' w ∧ VRel ρ v v' := by
  unfold evIndex at h
  split at h
  case h_1 => cases h
  rename_i ti ht
  split at h
  · rename_i len e cs k j hd
    split at h
    case h_2 => cases h
    rename_i te hte
    split at h
    case isFalse => cases h
    rename_i hc
    cases hi
    obtain ⟨cs', rfl, hcs⟩ := vrel_agg_inv hx
    obtain ⟨v', h1, h2⟩ := evPart_ok (w := w) hτ hcs h
    refine ⟨v', ?_, h2⟩
    simp [Instr.index, asIntOf, run_underlying' hτ ht, hd, hc, run_sizeOf' hτ hte]
    simpa using h1
  · rename_i s k j hd
    split at h
    case isFalse => cases h
    rename_i hc
    cases h
    cases hi
    cases hx
    refine ⟨_, ?_, .int _ _⟩
    have hlt : j.toNat < s.size := by omega
    have hg : s[j.toNat]? = some (s.data.toList.getD j.toNat 0) := by
      rw [getElem?_pos s j.toNat hlt]
      simp only [List.getD_eq_getElem?_getD]
      have : j.toNat < s.data.toList.length := by simpa using hlt
      rw [List.getElem?_eq_getElem this]
      rfl
    simp only [Instr.index, asIntOf, Sem.run_bind, Sem.run_pure, Result.andThen_ok, run_underlying' hτ ht, hd, if_pos hc.1, hg]
  · cases h

theorem evExtract_ok {x x' v : Value} {ix : Nat} (hx : VRel ρ x x') (h : evExtract x ix = some v) : ∃ v', (Instr.extract x' ix).run P w = .ok v' w ∧ VRel ρ v v' := by
  unfold evExtract at h
  split at h
  case h_2 => cases h
  obtain ⟨cs', rfl, hcs⟩ := vrel_tuple_inv hx
  obtain ⟨v', h1, h2⟩ := lrel_get hcs (by simpa using h)
  exact ⟨v', by simp at h1; simp [Instr.extract, h1], h2⟩

theorem asBytes_flat : ∀ {c c' : List Value} {l : List UInt8}, LRel ρ c c' → asBytes c = some l → c' = c
  | [], [], _, _, _ => rfl
  | [], _ :: _, _, h, _ => by have := h.1; simp at this
  | v :: c, [], _, h, _ => by have := h.1; simp at this
  | v :: c, v' :: c', l, h, hb => by
    have hv := h.2 0 v v' rfl rfl
    have hr : LRel ρ c c' := ⟨by have := h.1; simpa using this, fun i x x' h1 h2 => h.2 (i + 1) x x' (by simpa using h1) (by simpa using h2)⟩
    unfold asBytes at hb
    split at hb
    · rename_i he; cases he
    · rename_i n r he
      cases he
      simp only [Option.map_eq_some_iff] at hb
      obtain ⟨l', hl', _⟩ := hb
      cases hv
      rw [asBytes_flat hr hl']
    · cases hb

theorem run_pushBytes {f : Value → ByteArray → Sem (ForInStep ByteArray)} (hf : ∀ n s, f (.int .u8 n) s = pure (.yield (s.push (UInt8.ofNat n.toNat)))) :
    ∀ (c : List Value) (l : List UInt8) (s : ByteArray), asBytes c = some l → (forIn c s f : Sem ByteArray).run P w = .ok ⟨s.data ++ l.toArray⟩ w
  | [], l, s, h => by cases h; simp
  | v :: c, l, s, h => by
    unfold asBytes at h
    split at h
    · rename_i he; cases he
    · rename_i n r he
      cases he
      simp only [Option.map_eq_some_iff] at h
      obtain ⟨l', hl', rfl⟩ := h
      have := run_pushBytes hf _ l' (s.push (UInt8.ofNat n.toNat)) hl'
      simp only [List.forIn_cons, hf, Sem.run_bind, Sem.run_pure, Result.andThen_ok]
      rw [this]
      congr 2
      apply Array.ext'
      simp [ByteArray.push]
    · cases h

theorem evConvert_ok (hτ : TyOk P τ) (hs : Sim ρ V w) {src dst : Nat} {x x' : Value} {r : Res} (hx : VRel ρ x x') (h : evConvert τ V src dst x = some r) : ValOk P (convert src dst x') ρ V w n r := by
  unfold evConvert at h
  split at h
  case h_2 => cases h
  rename_i ts td hts htd
  split at h
  · rename_i k0 k k1 m h1 h2
    cases h; cases hx
    exact .quiet hs (by simp [convert, run_underlying' hτ hts, run_underlying' hτ htd, h1, h2, Conv.intToInt]) (.int _ _)
  · rename_i s h1 h2
    cases h; cases hx
    exact .quiet hs (by simp [convert, run_underlying' hτ hts, run_underlying' hτ htd, h1, h2]) (.string _)
  · rename_i e h1 h2
    split at h
    case h_2 => cases h
    rename_i te hte
    split at h
    case h_2 => cases h
    rename_i h3
    cases h; cases hx
    exact .quiet hs (v' := .string .empty) (by simp [convert, run_underlying' hτ hts, run_underlying' hτ htd, h1, h2, run_underlying' hτ hte, h3, Conv.bytesToString]) (.string _)
  · rename_i e i off len cap h1 h2
    split at h
    case h_2 => cases h
    rename_i te c hte hc
    split at h
    case h_2 => cases h
    rename_i h3
    split at h
    case isFalse => cases h
    rename_i hlen
    simp only [Option.map_eq_some_iff] at h
    obtain ⟨l, hl, rfl⟩ := h
    cases hV : V i with
    | none => simp [hV] at hc
    | some o =>
    simp only [hV, Option.bind_some] at hc
    obtain ⟨s, c', hi, hlr, hw⟩ := block_of hs hV hc
    have hlc := hlr.1
    have main : ∀ cap', (Conv.bytesToString (.slice (some ⟨s.blk, s.base + off, none⟩) len cap')).run P w = .ok (.string ⟨l.toArray⟩) w := by
      intro cap'
      have hrun := run_loadCells_list (P := P) w ⟨s.blk, s.base + off, none⟩ ((c'.drop off).take len) (fun j v hv => by
        rw [add_none]
        rw [List.getElem?_take] at hv
        split at hv
        · rw [List.getElem?_drop] at hv; rw [Nat.add_assoc]; exact hw _ _ hv
        · cases hv)
      have hlen' : ((c'.drop off).take len).length = len := by simp only [List.length_take, List.length_drop]; omega
      rw [hlen'] at hrun
      have h4 := lrel_take (lrel_drop hlr off) len
      have h5 := asBytes_flat h4 hl
      rw [h5] at hrun
      simp only [Conv.bytesToString, Sem.run_bind, hrun, Result.andThen_ok]
      rw [← Array.forIn_toList]
      rw [run_pushBytes (P := P) (w := w) (fun _ _ => rfl) _ l ByteArray.empty hl]
      simp only [Result.andThen_ok, Sem.run_pure]
      congr 3
      simp [ByteArray.empty, ByteArray.emptyWithCapacity]
      rfl
    have fin : ∀ cap', (convert src dst (.slice (some ⟨s.blk, s.base + off, none⟩) len cap')).run P w = .ok (.string ⟨l.toArray⟩) w := by
      intro cap'
      simp only [convert, Sem.run_bind, run_underlying' hτ hts, run_underlying' hτ htd, Result.andThen_ok, h1, h2, run_underlying' hτ hte, h3, main]
    cases hx with
    | slice hi' _ => rw [hi] at hi'; cases hi'; exact .quiet hs (fin _) (.string _)
    | oslice hi' _ _ _ _ => rw [hi] at hi'; cases hi'; exact .quiet hs (fin _) (.string _)
    | hollow hi' _ =>
      simp only [List.take_zero, asBytes, Option.some.injEq] at hl
      subst hl
      exact .quiet hs (v' := .string .empty) (by simp [convert, run_underlying' hτ hts, run_underlying' hτ htd, h1, h2, run_underlying' hτ hte, h3, Conv.bytesToString, loadCells, loadCellsFrom]) (.string _)
    | ghost hi' _ =>
      simp only [List.take_zero, asBytes, Option.some.injEq] at hl
      subst hl
      exact .quiet hs (v' := .string .empty) (by simp [convert, run_underlying' hτ hts, run_underlying' hτ htd, h1, h2, run_underlying' hτ hte, h3, Conv.bytesToString]) (.string _)
  · cases h

theorem evAssert_ok (hτ : TyOk P τ) {x x' v : Value} {t a : Nat} {ok : Bool} (hx : VRel ρ x x') (h : evAssert τ x a ok = some v) : ∃ v', (Instr.typeAssert x' t a ok).run P w = .ok v' w ∧ VRel ρ v v' := by
  unfold evAssert at h
  split at h
  case h_1 => cases h
  rename_i ti hti
  have hz := hτ.zero a ti hti ρ
  have hu := run_underlying' hτ hti w
  have hzr := run_zeroValue' hτ hti w
  split at h
  · cases h
  · rename_i hni
    cases hx
    cases ok
    · cases h
    · cases h
      refine ⟨.tuple #[ti.zero, .bool false], ?_, vrel_tuple (lrel_cons hz (lrel_cons (.bool _) lrel_nil))⟩
      cases hd : ti.desc <;> first | (exact (hni _ hd).elim) | simp [Instr.typeAssert, hu, hd, hzr]
  · rename_i u y hni
    cases hx with
    | iface _ hy =>
    split at h
    · rename_i he; subst he
      cases h
      cases ok
      · refine ⟨_, ?_, hy⟩
        cases hd : ti.desc <;> first | (exact (hni _ hd).elim) | simp [Instr.typeAssert, hu, hd]
      · refine ⟨_, ?_, vrel_tuple (lrel_cons hy (lrel_cons (.bool true) lrel_nil))⟩
        cases hd : ti.desc <;> first | (exact (hni _ hd).elim) | simp [Instr.typeAssert, hu, hd]
    · rename_i he
      cases ok
      · cases h
      · cases h
        refine ⟨.tuple #[ti.zero, .bool false], ?_, vrel_tuple (lrel_cons hz (lrel_cons (.bool _) lrel_nil))⟩
        cases hd : ti.desc <;> first | (exact (hni _ hd).elim) | simp [Instr.typeAssert, hu, hd, he, hzr]
  · cases h

end
end Go.Proofs.Yticaicdopfpknaa.Vm
