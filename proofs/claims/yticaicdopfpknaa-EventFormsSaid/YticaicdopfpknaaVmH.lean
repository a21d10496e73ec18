/- Operations that write, slice, index, convert, over a small heap of names. No program in it. -/
import Derived.Test.YticaicdopfpknaaVmG
set_option linter.unusedVariables false
set_option linter.unusedSimpArgs false
namespace Go.Proofs.Yticaicdopfpknaa.Vm
open Go

def setCells (c : List Value) (off : Nat) : List Value → List Value
  | [v] => c.set off v
  | vs => splice c off vs

theorem setCells_eq (c : List Value) (off : Nat) (vs : List Value) (h : off + vs.length ≤ c.length) : setCells c off vs = splice c off vs := by
  match vs with
  | [] => rfl
  | [v] =>
    simp only [setCells]
    rw [splice_cons _ _ _ _ (by simp at h; omega), splice_nil]
  | _ :: _ :: _ => rfl

def evStore (τ : Nat → Option TI) (V : Heap) (t : Nat) (x v : Value) : Option Res :=
  match x with
  | .pointer (some ⟨i, off, none⟩) =>
    match τ t with
    | none => none
    | some ti =>
      match V i with
      | some (.cells c e fr) =>
        if v.cells.size = ti.size ∧ off + ti.size ≤ c.length ∧ v.cells.toList.all Value.oneCell' = true ∧ (fr.2 ≤ off ∨ off + ti.size ≤ fr.1) then
          some ⟨undef, [(i, some (.cells (setCells c off v.cells.toList) e fr))], 0, [i]⟩ else none
      | some (.opn c e sz) =>
        if v.cells.size = ti.size ∧ off + ti.size ≤ c.length ∧ v.cells.toList.all Value.oneCell' = true then
          some ⟨undef, [(i, some (.opn (setCells c off v.cells.toList) e sz))], 0, [i]⟩ else none
      | _ => none
  | _ => none

theorem vrel_one {ρ : Ren} {v v' : Value} (h : VRel ρ v v') : v'.oneCell' = v.oneCell' := by cases h <;> rfl

theorem lrel_one {ρ : Ren} {c c' : List Value} (h : LRel ρ c c') (ha : c.all Value.oneCell' = true) : ∀ v ∈ c', v.oneCell' = true := by
  intro v hv
  obtain ⟨i, hi, rfl⟩ := List.getElem_of_mem hv
  have hi' : i < c.length := h.1 ▸ hi
  rw [vrel_one (h.2 i c[i] c'[i] (by simp) (by simp))]
  exact List.all_eq_true.1 ha _ (List.getElem_mem hi')

section
variable {P : Program} {τ : Nat → Option TI} {ρ : Ren} {V : Heap} {w : World} {n : Nat}

theorem evStore_ok (hτ : TyOk P τ) (hs : Sim ρ V w) {t : Nat} {x x' v v' : Value} {r : Res} (hx : VRel ρ x x') (hv : VRel ρ v v') (h : evStore τ V t x v = some r) :
    OpOk P (do Instr.storeAt t x' v'; pure .skip) ρ V w n r := by
  unfold evStore at h
  split at h
  case h_2 => cases h
  rename_i i off
  split at h
  case h_1 => cases h
  rename_i ti ht
  cases hx with
  | ptr hi hgo =>
  rename_i s
  have hcl := vrel_cells hv
  have hcs : v'.cells.size = v.cells.size := by have := hcl.1; simpa using this.symm
  have main : ∀ (c : List Value) (c' : Array Value) (e : TypeId) (fr : Nat × Nat) (o o1 : VObj), V i = some o → o.fixed = false → o1.fixed = false → s.base = 0 → w.heap[s.blk]? = some (.cells c' e fr) → c.length ≤ c'.size →
      v.cells.size = ti.size → off + ti.size ≤ c.length → v.cells.toList.all Value.oneCell' = true → notFrozen fr off ti.size →
      ORel ρ s o1 (.cells (splice c'.toList off v'.cells.toList).toArray e fr) →
      OpOk P (do Instr.storeAt t (.pointer (some ⟨s.blk, s.base + off, none⟩)) v'; pure .skip) ρ V w n ⟨undef, [(i, some o1)], 0, [i]⟩ := by
    intro c c' e fr o o1 hVi hof ho1f hbase hw hlc hsz hoff hone hfr hor
    rw [hbase, Nat.zero_add]
    obtain ⟨w', hrun, hwr, hw'⟩ := run_storeCells (P := P) (off := off) (fr := fr) v'.cells.toList 0 w c' hw (by simp [hcs, hsz]; omega) (lrel_one hcl hone) (by simpa [hcs, hsz] using hfr)
    obtain ⟨h1, h2⟩ := sim_put hs hVi hof ho1f hi hgo hwr hw' (by simpa using hor)
    refine ⟨undef, w', ρ, .inr ⟨?_, rfl⟩, vrel_tuple lrel_nil, ?_, ?_, fun _ _ => rfl⟩
    · simp only [Instr.storeAt, Instr.sureAddr, storeVar, Sem.run_bind, Sem.run_pure, Result.andThen_ok, run_sizeOf' hτ ht, hcs, hsz]
      simp [hrun]
    · simpa only [over_cons, over_nil] using h1
    · simpa only [over_cons, over_nil] using h2
  split at h
  · rename_i c e fr hVi
    split at h
    case isFalse => cases h
    rename_i hc
    cases h
    obtain ⟨o', h2, h3⟩ := hs.at_ hVi hi hgo
    cases h3 with
    | cells _ _ hcap hbase hl =>
    rename_i c'
    have hlen : c.length = c'.size := by simpa using hl.1
    refine main c c' e fr _ _ hVi rfl rfl hbase h2 (by omega) hc.1 hc.2.1 hc.2.2.1 (fun j a b => by rcases hc.2.2.2 with q | q <;> omega) ?_
    rw [setCells_eq _ _ _ (by simp; omega)]
    exact .cells e fr hcap hbase (by simpa using lrel_splice hl hcl off)
  · rename_i c e sz hVi
    split at h
    case isFalse => cases h
    rename_i hc
    cases h
    obtain ⟨o', h2, h3⟩ := hs.at_ hVi hi hgo
    cases h3 with
    | opn _ hcap hbase hl hcc hk hz fr hf =>
    rename_i c1 c2 c' k
    have hlen : c'.size = c1.length + c2.length := by have := congrArg List.length hcc; simpa using this
    have hl1 := hl.1
    refine main c c' e fr _ _ hVi rfl rfl hbase h2 (by omega) hc.1 hc.2.1 hc.2.2 (fun j a b => by rcases hf with q | q <;> omega) ?_
    rw [setCells_eq _ _ _ (by simp; omega)]
    refine .opn (c1 := splice c1 off v'.cells.toList) (c2 := c2) (k := k) e hcap hbase (lrel_splice hl hcl off) ?_ ?_ hz fr ?_
    · show splice c'.toList off v'.cells.toList = _
      rw [hcc]
      unfold splice
      rw [List.take_append_of_le_length (by omega), List.drop_append_of_le_length (by simp [hcs]; omega)]
      simp
    · rw [List.size_toArray, splice_length _ _ _ (by simp [hcs]; omega)]; simpa using hk
    · rw [List.size_toArray, splice_length _ _ _ (by simp [hcs]; omega)]; simpa using hf
  · cases h

/-- A slice's bound. -/
def bnd (d : Nat) : Option (Option Value) → Option Nat
  | none => some d
  | some (some (.int _ i)) => if 0 ≤ i then some i.toNat else none
  | _ => none

def evSlice (τ : Nat → Option TI) (V : Heap) (t : Nat) (x : Value) (lo hi : Option (Option Value)) : Option Res :=
  match τ t with
  | none => none
  | some ti =>
    match ti.desc, x with
    | .string, .string s =>
      match bnd 0 lo, bnd s.size hi with
      | some l, some h => if l ≤ h ∧ h ≤ s.size then some (rv (.string (s.extract l h))) else none
      | _, _ => none
    | .slice e, .slice none 0 0 =>
      match bnd 0 lo, bnd 0 hi, τ e with
      | some l, some h, some _ => if l = 0 ∧ h = 0 then some (rv (.slice none 0 0)) else none
      | _, _, _ => none
    | .slice e, .slice (some ⟨i, off, none⟩) len cap =>
      match bnd 0 lo, bnd len hi, τ e, V i with
      | some l, some h, some te, some (.cells _ _ _) =>
        if l ≤ h ∧ h ≤ cap then some ⟨.slice (some (if cap = l then ⟨i, off, none⟩ else ⟨i, off + l * te.size, none⟩)) (h - l) (cap - l), [], 0, [i]⟩ else none
      | some l, some h, some te, some (.ro _) =>
        if l ≤ h ∧ h ≤ cap then some ⟨.slice (some (if cap = l then ⟨i, off, none⟩ else ⟨i, off + l * te.size, none⟩)) (h - l) (cap - l), [], 0, [i]⟩ else none
      | some l, some h, some te, some (.win _ sz) =>
        if l ≤ h ∧ h ≤ len ∧ te.size = sz ∧ cap = 0 ∧ (l < h ∨ l = 0) then some ⟨.slice (some ⟨i, off + l * te.size, none⟩) (h - l) 0, [], 0, [i]⟩ else none
      | some l, some h, some te, some (.opn c _ sz) =>
        if l ≤ h ∧ off + h * te.size ≤ c.length ∧ te.size = sz ∧ 0 < sz ∧ (l < h ∨ l = 0) then some ⟨.slice (some ⟨i, off + l * te.size, none⟩) (h - l) 0, [], 0, [i]⟩ else none
      | _, _, _, _ => none
    | .array m e, .pointer (some ⟨i, off, none⟩) =>
      match bnd 0 lo, bnd m hi, τ e, V i with
      | some l, some h, some te, some (.cells _ _ _) =>
        if l ≤ h ∧ h ≤ m then some ⟨.slice (some (if m = l then ⟨i, off, none⟩ else ⟨i, off + l * te.size, none⟩)) (h - l) (m - l), [], 0, [i]⟩ else none
      | _, _, _, _ => none
    | _, _ => none

theorem bound_ok {d : Nat} {x : Option (Option Value)} {x' : Option Value} {l : Nat} {code : BoundsCode} (hx : ∀ o, x = some o → ∃ y, x' = some y ∧ ∀ v, o = some v → VRel ρ v y) (hn : x = none → x' = none)
    (h : bnd d x = some l) : (x' = none ∧ l = d) ∨ ∃ y, x' = some y ∧ ∀ (m : Nat), l ≤ m → (Instr.sliceBound y m code).run P w = .ok l w := by
  cases x with
  | none => cases h; exact .inl ⟨hn rfl, rfl⟩
  | some o =>
    obtain ⟨y, rfl, hv⟩ := hx o rfl
    refine .inr ⟨y, rfl, fun m hm => ?_⟩
    unfold bnd at h
    split at h
    case h_1 => rename_i he; cases he
    case h_3 => cases h
    rename_i k i he
    cases he
    split at h
    case isFalse => cases h
    rename_i h0
    cases h
    have := hv _ rfl
    cases this
    simp only [Instr.sliceBound, asIntOf, Sem.run_bind, Sem.run_pure, Result.andThen_ok]
    rw [if_pos ⟨h0, by omega⟩]; rfl

theorem bounds_ok {isS : Bool} {len cap : Nat} {lo hi : Option (Option Value)} {lo' hi' : Option Value} {l h : Nat}
    (hlo : ∀ o, lo = some o → ∃ y, lo' = some y ∧ ∀ v, o = some v → VRel ρ v y) (hlo0 : lo = none → lo' = none)
    (hhi : ∀ o, hi = some o → ∃ y, hi' = some y ∧ ∀ v, o = some v → VRel ρ v y) (hhi0 : hi = none → hi' = none)
    (h1 : bnd 0 lo = some l) (h2 : bnd len hi = some h) (hl : l ≤ h) (hc : h ≤ cap) : (Instr.sliceBounds isS len cap lo' hi' none).run P w = .ok (l, h, cap) w := by
  rcases bound_ok (P := P) (w := w) (code := if isS then .sliceAcap else .sliceAlen) hhi hhi0 h2 with ⟨rfl, rfl⟩ | ⟨y, rfl, hy⟩ <;>
    rcases bound_ok (P := P) (w := w) (code := .sliceB) hlo hlo0 h1 with ⟨rfl, rfl⟩ | ⟨z, rfl, hz⟩
  · simp [Instr.sliceBounds]
  · have := hz h hl; simp [Instr.sliceBounds, this]
  · have := hy cap hc; simp [Instr.sliceBounds, this]
  · have h3 := hy cap hc; have h4 := hz h hl; simp [Instr.sliceBounds, h3, h4]

theorem evSlice_ok (hτ : TyOk P τ) (hs : Sim ρ V w) {t : Nat} {x x' : Value} {lo hi : Option (Option Value)} {lo' hi' : Option Value} {r : Res} (hx : VRel ρ x x')
    (hlo : ∀ o, lo = some o → ∃ y, lo' = some y ∧ ∀ v, o = some v → VRel ρ v y) (hlo0 : lo = none → lo' = none)
    (hhi : ∀ o, hi = some o → ∃ y, hi' = some y ∧ ∀ v, o = some v → VRel ρ v y) (hhi0 : hi = none → hi' = none) (h : evSlice τ V t x lo hi = some r) :
    ValOk P (Instr.sliceAt t x' lo' hi' none) ρ V w n r := by
  unfold evSlice at h
  split at h
  case h_1 => cases h
  rename_i ti ht
  split at h
  · rename_i s hd
    split at h
    case h_2 => cases h
    rename_i l hh h1 h2
    split at h
    case isFalse => cases h
    rename_i hc
    cases h
    cases hx
    have hb := bounds_ok (P := P) (w := w) (isS := false) hlo hlo0 hhi hhi0 h1 h2 hc.1 hc.2
    refine .quiet hs (v' := .string (s.extract l hh)) ?_ (.string _)
    simp [Instr.sliceAt, Instr.slice, run_underlying' hτ ht, hd, hb]
  · rename_i e hd
    split at h
    case h_2 => cases h
    rename_i l hh te h1 h2 hte
    split at h
    case isFalse => cases h
    rename_i hc
    obtain ⟨rfl, rfl⟩ := hc
    cases h
    cases hx
    have hb := bounds_ok (P := P) (w := w) (isS := true) (cap := 0) hlo hlo0 hhi hhi0 h1 h2 (Nat.le_refl _) (Nat.le_refl _)
    refine .quiet hs (v' := .slice none 0 0) ?_ .nilSlice
    simp [Instr.sliceAt, Instr.slice, run_underlying' hτ ht, hd, hb, run_sizeOf' hτ hte]
  · rename_i e i off len cap hd
    have hnil : ∀ (a : Option Addr) (cc l hh : Nat) (te : TI), bnd 0 lo = some l → bnd len hi = some hh → τ e = some te → l = 0 → hh = 0 → len = 0 → (Instr.sliceAt t (.slice a 0 cc) lo' hi' none).run P w = .ok (.slice a 0 cc) w := by
      intro a cc l hh te h1 h2 hte hl hh0 hlen
      subst hl; subst hh0; subst hlen
      have hb := bounds_ok (P := P) (w := w) (isS := true) (cap := cc) (len := 0) hlo hlo0 hhi hhi0 h1 h2 (Nat.le_refl _) (Nat.zero_le _)
      have hadd : ∀ (x : Option Addr), (if cc = 0 then x else x.map (·.add (0 * te.size))) = x := by
        intro x
        split
        · rfl
        · cases x with
          | none => rfl
          | some x => simp only [Option.map_some, Nat.zero_mul]; congr 1
      simp only [Instr.sliceAt, Instr.slice, Sem.run_bind, run_underlying' hτ ht, Result.andThen_ok, hd, hb, run_sizeOf' hτ hte, Sem.run_pure, hadd, Nat.sub_zero]
    have exactly : ∀ (l hh : Nat) (te : TI) (o : VObj), bnd 0 lo = some l → bnd len hi = some hh → τ e = some te → V i = some o → o.void = false → (∀ s o', ORel ρ s o o' → s.cap = none) → l ≤ hh ∧ hh ≤ cap →
        ValOk P (Instr.sliceAt t x' lo' hi' none) ρ V w n ⟨.slice (some (if cap = l then ⟨i, off, none⟩ else ⟨i, off + l * te.size, none⟩)) (hh - l) (cap - l), [], 0, [i]⟩ := by
      intro l hh te o h1 h2 hte hVi hvd hcap0 hc
      obtain ⟨s, o', hi1, hgo, hi2, hi3⟩ := hs.real hVi hvd
      have hcap := hcap0 s o' hi3
      cases hx with
      | oslice hi' hc' => rw [hi1] at hi'; cases hi'; rw [hcap] at hc'; cases hc'
      | ghost hi' hg' => rw [hi1] at hi'; cases hi'; rw [gone_zero hg'] at hgo; cases hgo
      | hollow hi' hg' => rw [hi1] at hi'; cases hi'; rw [gone_zero hg'] at hgo; cases hgo
      | slice hi' hc' =>
      rw [hi1] at hi'; cases hi'
      have hb := bounds_ok (P := P) (w := w) (isS := true) (cap := cap) hlo hlo0 hhi hhi0 h1 h2 hc.1 hc.2
      refine .quiet hs (v' := .slice (some (if cap = l then ⟨s.blk, s.base + off, none⟩ else ⟨s.blk, s.base + (off + l * te.size), none⟩)) (hh - l) (cap - l)) ?_ ?_
      · simp only [Instr.sliceAt, Instr.slice, Sem.run_bind, run_underlying' hτ ht, Result.andThen_ok, hd, hb, run_sizeOf' hτ hte, Sem.run_pure]
        split <;> simp [add_none, Nat.add_assoc]
      · split <;> exact .slice hi1 hc'
    have open_ : ∀ (l hh : Nat) (te : TI) (s : Slot) (k sz e1 : Nat), bnd 0 lo = some l → bnd len hi = some hh → τ e = some te → ρ i = some s → s.cap = some (k, sz) → 0 < sz → e1 * sz = off → e1 + hh ≤ k → te.size = sz → l ≤ hh → (l < hh ∨ l = 0) → x' = .slice (some ⟨s.blk, s.base + off, none⟩) len (k - e1) →
        ValOk P (Instr.sliceAt t x' lo' hi' none) ρ V w n ⟨.slice (some ⟨i, off + l * te.size, none⟩) (hh - l) 0, [], 0, [i]⟩ := by
      intro l hh te s k sz e1 h1 h2 hte hi1 hcap hz he hle hc3 hc1 hc4 hx'
      subst hx'
      have hb := bounds_ok (P := P) (w := w) (isS := true) (cap := k - e1) hlo hlo0 hhi hhi0 h1 h2 hc1 (by omega)
      have hne : k - e1 ≠ l ∨ l = 0 := by omega
      refine .quiet hs (v' := .slice (some ⟨s.blk, s.base + (off + l * te.size), none⟩) (hh - l) (k - e1 - l)) ?_ ?_
      · simp only [Instr.sliceAt, Instr.slice, Sem.run_bind, run_underlying' hτ ht, Result.andThen_ok, hd, hb, run_sizeOf' hτ hte, Sem.run_pure]
        split
        · rename_i hq
          have : l = 0 := by rcases hne with q | q; exact (q hq).elim; exact q
          subst this; simp
        · simp [add_none, Nat.add_assoc]
      · have : k - e1 - l = k - (e1 + l) := by omega
        rw [this, hc3]
        exact .oslice hi1 hcap hz (by rw [Nat.add_mul, he]) (by omega)
    split at h
    · rename_i l hh te c0 e0 fr0 h1 h2 hte hVi
      split at h
      case isFalse => cases h
      rename_i hc
      cases h
      exact exactly l hh te _ h1 h2 hte hVi rfl (fun s o' h => by cases h; assumption) hc
    · rename_i l hh te c0 h1 h2 hte hVi
      split at h
      case isFalse => cases h
      rename_i hc
      cases h
      exact exactly l hh te _ h1 h2 hte hVi rfl (fun s o' h => by cases h; assumption) hc
    · rename_i l hh te c0 sz h1 h2 hte hVi
      split at h
      case isFalse => cases h
      rename_i hc
      cases h
      obtain ⟨hc1, hc2, hc3, hc5, hc4⟩ := hc
      obtain ⟨s, hi1, hat⟩ := hs.has i _ hVi
      have hcapw : s.gone = true ∨ ∃ k, s.cap = some (k, sz) ∧ 0 < sz := by
        rcases hat with ⟨hg, _, _⟩ | ⟨_, o', _, hor⟩
        · exact .inl hg
        · cases hor with | win _ _ h1 h2 _ => exact .inr ⟨_, h1, h2⟩
      cases hx with
      | slice hi' hc' => rw [hi1] at hi'; cases hi'; rcases hcapw with q | ⟨_, q, _⟩; rw [gone_none hc'] at q; cases q; rw [hc'] at q; cases q
      | ghost hi' hg' =>
        have hl0 : l = 0 := by omega
        have hh0 : hh = 0 := by omega
        subst hl0; subst hh0
        refine .quiet hs (v' := .slice none 0 0) (hnil none 0 0 0 te h1 h2 hte rfl rfl rfl) ?_
        simpa using VRel.ghost hi' hg'
      | hollow hi' hg' =>
        have hl0 : l = 0 := by omega
        have hh0 : hh = 0 := by omega
        subst hl0; subst hh0
        refine .quiet hs (hnil _ _ 0 0 te h1 h2 hte rfl rfl rfl) ?_
        simpa using VRel.hollow hi' hg'
      | oslice hi' hc' hz' he hn =>
        rename_i e1 k1 sz1 s1
        rw [hi1] at hi'; cases hi'
        rcases hcapw with q | ⟨k2, q, _⟩
        · rw [gone_pos hc' hz'] at q; cases q
        · rw [hc'] at q; cases q
          exact open_ l hh te s k1 sz e1 h1 h2 hte hi1 hc' hz' he (by omega) hc3 hc1 hc4 rfl
    · rename_i l hh te c e0 sz h1 h2 hte hVi
      split at h
      case isFalse => cases h
      rename_i hc
      cases h
      obtain ⟨hc1, hc2, hc3, hcz, hc4⟩ := hc
      obtain ⟨s, hi1, hat⟩ := hs.has i _ hVi
      rcases hat with ⟨hg, hvd, _⟩ | ⟨hg, o', hi2, hi3⟩
      · cases c with
        | cons _ _ => cases hvd
        | nil =>
        simp only [List.length_nil, Nat.le_zero_eq, Nat.add_eq_zero_iff] at hc2
        have hh0 : hh = 0 := by
          rcases Nat.mul_eq_zero.1 hc2.2 with r | r
          · exact r
          · omega
        have hl0 : l = 0 := by omega
        subst hl0; subst hh0
        cases hx with
        | slice hi' hc' => rw [hi1] at hi'; cases hi'; rw [gone_none hc'] at hg; cases hg
        | oslice hi' hc' hz' he hn => rw [hi1] at hi'; cases hi'; rw [gone_pos hc' hz'] at hg; cases hg
        | ghost hi' hg' =>
          refine .quiet hs (v' := .slice none 0 0) (hnil none 0 0 0 te h1 h2 hte rfl rfl rfl) ?_
          simpa using VRel.ghost hi' hg'
        | hollow hi' hg' =>
          refine .quiet hs (hnil _ _ 0 0 te h1 h2 hte rfl rfl rfl) ?_
          simpa using VRel.hollow hi' hg'
      cases hi3 with
      | opn _ hcap hbase hl hcc hk hz fr hf =>
      rename_i c1 c2 c' k
      cases hx with
      | slice hi' hc' => rw [hi1] at hi'; cases hi'; rw [hcap] at hc'; cases hc'
      | ghost hi' hg' => rw [hi1] at hi'; cases hi'; rw [gone_zero hg'] at hg; cases hg
      | hollow hi' hg' => rw [hi1] at hi'; cases hi'; rw [gone_zero hg'] at hg; cases hg
      | oslice hi' hc' hz' he hn =>
      rename_i e1 k1 sz1 s1
      rw [hi1] at hi'; cases hi'
      rw [hcap] at hc'; cases hc'
      rw [hc3] at hc2
      have hle : e1 + hh ≤ k := by
        have h5 : c'.size = c1.length + c2.length := by have := congrArg List.length hcc; simpa using this
        have h6 := hl.1
        have : (e1 + hh) * sz ≤ k * sz := by rw [Nat.add_mul]; omega
        exact Nat.le_of_mul_le_mul_right this hz
      exact open_ l hh te s k sz e1 h1 h2 hte hi1 hcap hz he hle hc3 hc1 hc4 rfl
    · cases h
  · rename_i m e i off hd
    split at h
    case h_2 => cases h
    rename_i l hh te c0 e0 fr0 h1 h2 hte hVi
    split at h
    case isFalse => cases h
    rename_i hc
    cases h
    cases hx with
    | ptr hi1 hgo =>
    rename_i s
    obtain ⟨o', hi2, hi3⟩ := hs.at_ hVi hi1 hgo
    cases hi3 with
    | cells _ _ hcap hbase hl =>
    have hb := bounds_ok (P := P) (w := w) (isS := false) (cap := m) hlo hlo0 hhi hhi0 h1 h2 hc.1 hc.2
    refine .quiet hs (v' := .slice (some (if m = l then ⟨s.blk, s.base + off, none⟩ else ⟨s.blk, s.base + (off + l * te.size), none⟩)) (hh - l) (m - l)) ?_ ?_
    · simp only [Instr.sliceAt, Instr.sureAddr, Sem.run_bind, run_underlying' hτ ht, Result.andThen_ok, hd, hb, run_sizeOf' hτ hte, Sem.run_pure]
      split <;> simp [add_none, Nat.add_assoc]
    · split <;> exact .slice hi1 hcap
  · cases h

end
end Go.Proofs.Yticaicdopfpknaa.Vm
