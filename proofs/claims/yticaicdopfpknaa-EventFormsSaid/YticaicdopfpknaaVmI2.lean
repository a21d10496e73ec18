/- Maps whose keys are plain. No program in it. -/
import Derived.Test.YticaicdopfpknaaVmI
import Derived.Laws.Entries
set_option linter.unusedVariables false
set_option linter.unusedSimpArgs false
namespace Go.Proofs.Yticaicdopfpknaa.Vm
open Go

abbrev MEnt := Value × Value × Nat

def plainKey : TypeDesc → Bool
  | .int _ => true
  | .string => true
  | .bool => true
  | _ => false

def findK (kind : TypeDesc) (k : Value) : List MEnt → Nat → Option (Option (Nat × MEnt))
  | [], _ => some none
  | e :: es, i => match Instr.sameNow kind k e.1 with
    | some true => some (some (i, e))
    | some false => findK kind k es (i + 1)
    | none => none

def okPair (ok : Bool) (v : Value) (b : Bool) : Value := if ok then .tuple #[v, .bool b] else v

def evLookup (τ : Nat → Option TI) (V : Heap) (t : Nat) (m k : Value) (ok : Bool) : Option Res :=
  match τ t with
  | none => none
  | some ti => match ti.desc with
    | .map kt et => match τ kt, τ et with
      | some ki, some ei =>
        if plainKey ki.desc = true then
          match m with
          | .map none => some (rv (okPair ok ei.zero false))
          | .map (some i) => match V i with
            | some (.map es _) => match findK ki.desc k es 0 with
              | some (some (_, e)) => some ⟨okPair ok e.2.1 true, [], 0, [i]⟩
              | some none => some ⟨okPair ok ei.zero false, [], 0, [i]⟩
              | none => none
            | _ => none
          | _ => none
        else none
      | _, _ => none
    | _ => none

def evMapEntry (τ : Nat → Option TI) (V : Heap) (t : Nat) (m k : Value) : Option Res :=
  match τ t with
  | none => none
  | some ti => match ti.desc with
    | .map kt et => match τ kt, τ et with
      | some ki, some ei =>
        if plainKey ki.desc = true then
          match m with
          | .map (some i) => match V i with
            | some (.map es c) => match findK ki.desc k es 0 with
              | some (some (_, e)) => some ⟨.tuple #[e.2.1, .int .i64 e.2.2], [(i, some (.map es c))], 0, [i]⟩
              | some none => some ⟨.tuple #[ei.zero, .int .i64 c], [(i, some (.map (es ++ [(k, ei.zero, c)]) (c + 1)))], 0, [i]⟩
              | none => none
            | _ => none
          | _ => none
        else none
      | _, _ => none
    | _ => none

def setVal (b : Int) (v : Value) : List MEnt → Option (List MEnt)
  | [] => none
  | e :: es => if (e.2.2 : Int) = b then some ((e.1, v, e.2.2) :: es) else (setVal b v es).map (e :: ·)

def evEntryStore (V : Heap) (m s v : Value) : Option Res :=
  match m, s with
  | .map (some i), .int _ b => match V i with
    | some (.map es c) => (setVal b v es).map fun es' => ⟨undef, [(i, some (.map es' c))], 0, [i]⟩
    | _ => none
  | _, _ => none

section
variable {P : Program} {τ : Nat → Option TI} {ρ : Ren} {V : Heap} {w : World} {n : Nat}

theorem sameNow_ok {kind : TypeDesc} {a b a' b' : Value} {x : Bool} (ha : VRel ρ a a') (hb : VRel ρ b b') (h : Instr.sameNow kind a b = some x) : Instr.sameNow kind a' b' = some x := by
  unfold Instr.sameNow at h
  split at h
  · cases ha; cases hb; exact h
  · cases ha; cases hb; exact h
  · cases ha; cases hb; exact h
  · cases h

theorem findNow_ok {kind : TypeDesc} {k k' : Value} (hk : VRel ρ k k') : ∀ {es : List MEnt} {es' : List MapEntry} {j : Nat} {r : Option (Nat × MEnt)}, LRel ρ (es.map (·.1)) (es'.map (·.key)) → LRel ρ (es.map (·.2.1)) (es'.map (·.val)) →
    findK kind k es j = some r → ∃ r', Instr.findNow kind k' es' j = some r' ∧ match r, r' with
      | none, none => True
      | some (i, e), some (i', v') => i = i' ∧ VRel ρ e.2.1 v' ∧ j ≤ i ∧ es[i - j]? = some e ∧ Instr.sameNow kind k e.1 = some true
      | _, _ => False := by
  intro es
  induction es with
  | nil =>
    intro es' j r h1 _ h
    cases h
    obtain rfl : es' = [] := by have := h1.1; simpa using this.symm
    exact ⟨none, rfl, trivial⟩
  | cons e es ih =>
    intro es' j r h1 h2 h
    cases es' with
    | nil => have := h1.1; simp at this
    | cons e' es' =>
      have hk1 : VRel ρ e.1 e'.key := h1.2 0 _ _ rfl rfl
      have hv1 : VRel ρ e.2.1 e'.val := h2.2 0 _ _ rfl rfl
      have t1 : LRel ρ (es.map (·.1)) (es'.map (·.key)) := ⟨by have := h1.1; simpa using this, fun i v v' p q => h1.2 (i + 1) v v' (by simpa using p) (by simpa using q)⟩
      have t2 : LRel ρ (es.map (·.2.1)) (es'.map (·.val)) := ⟨by have := h2.1; simpa using this, fun i v v' p q => h2.2 (i + 1) v v' (by simpa using p) (by simpa using q)⟩
      simp only [findK] at h
      split at h
      · rename_i hs
        cases h
        refine ⟨some (j, e'.val), ?_, rfl, hv1, Nat.le_refl _, by simp, hs⟩
        simp only [Instr.findNow, sameNow_ok hk hk1 hs]
      · rename_i hs
        obtain ⟨r', g1, g2⟩ := ih t1 t2 h
        refine ⟨r', by simp only [Instr.findNow, sameNow_ok hk hk1 hs]; exact g1, ?_⟩
        cases r with
        | none =>
          cases r' with
          | none => trivial
          | some r' => exact g2.elim
        | some r =>
          cases r' with
          | none => exact g2
          | some r' =>
            obtain ⟨q1, q2, q3, q4, q5⟩ := g2
            refine ⟨q1, q2, by omega, ?_, q5⟩
            rw [show r.1 - j = (r.1 - (j + 1)) + 1 by omega, List.getElem?_cons_succ]; exact q4
      · cases h

theorem run_checkKey' {b : Bool} {n : Nat} {kt : TypeId} {d : TypeDesc} {k : Value} (hu : P.underlying kt = some d) (hp : plainKey d = true) : (Instr.checkKey b (n + 1) kt k).run P w = .ok () w := by
  simp only [Instr.checkKey, Sem.run_bind, run_underlying hu, Result.andThen_ok]
  cases d <;> first | rfl | (cases hp; done) | (cases k <;> rfl)

theorem run_checkKey {b : Bool} {kt : TypeId} {d : TypeDesc} {k : Value} (hu : P.underlying kt = some d) (hp : plainKey d = true) : (Instr.checkKey b 10000 kt k).run P w = .ok () w := by
  exact run_checkKey' (n := 9999) hu hp

theorem run_findKey {kt : TypeId} {d : TypeDesc} {k : Value} {es : List MapEntry} {r : Option (Nat × Value)} (hu : P.underlying kt = some d) (h : Instr.findNow d k es 0 = some r) : (Instr.findKey kt k es).run P w = .ok r w := by
  simp only [Instr.findKey, Sem.run_bind, run_underlying hu, Result.andThen_ok, h, Sem.run_pure]

theorem run_getMap {b c : Nat} {es : Array MapEntry} (h : w.heap[b]? = some (.map es c)) : (getObj b).run P w = .ok (.map es c) w := by simp [getObj, Sem.run, h]

theorem okPair_rel {ok b : Bool} {v v' : Value} (h : VRel ρ v v') : VRel ρ (okPair ok v b) (if ok then .tuple #[v', .bool b] else v') := by
  cases ok
  · exact h
  · exact vrel_tuple (lrel_cons h (lrel_cons (.bool _) lrel_nil))

theorem evLookup_ok (hτ : TyOk P τ) (hs : Sim ρ V w) {t : Nat} {m m' k k' : Value} {ok : Bool} {r : Res} (hm : VRel ρ m m') (hk : VRel ρ k k') (h : evLookup τ V t m k ok = some r) : ValOk P (Instr.lookup t m' k' ok) ρ V w n r := by
  unfold evLookup at h
  split at h
  case h_1 => cases h
  rename_i ti ht
  split at h
  case h_2 => cases h
  rename_i kt et hd
  split at h
  case h_2 => cases h
  rename_i ki ei hki hei
  split at h
  case isFalse => cases h
  rename_i hp
  have hu : P.underlying t = some (.map kt et) := by rw [hτ.under t ti ht, hd]
  have hku := hτ.under kt ki hki
  have hz : ∀ w, (zeroValue et).run P w = .ok ei.zero w := by
    intro w
    obtain ⟨f, hf, _, _, hz⟩ := hτ.info et ei hei
    simp [zeroValue, typeInfo, hf, hz]
  split at h
  · cases h
    cases hm
    refine .quiet hs (v' := if ok then .tuple #[ei.zero, .bool false] else ei.zero) ?_ (okPair_rel (hτ.zero et ei hei ρ))
    simp only [Instr.lookup, Sem.run_bind, run_underlying hu, Result.andThen_ok, Sem.run_pure, run_checkKey hku hp, run_findKey (es := []) hku rfl, hz]
  · rename_i i
    split at h
    case h_2 => cases h
    rename_i es c hV
    cases hm with
    | map hi hgo =>
    obtain ⟨o', h2, h3⟩ := hs.at_ hV hi hgo
    cases h3 with
    | map _ hks hvs hbs =>
    rename_i es'
    split at h
    · rename_i j e hf
      cases h
      obtain ⟨r', g1, g2⟩ := findNow_ok hk hks hvs hf
      cases r' with
      | none => exact g2.elim
      | some r' =>
      obtain ⟨_, q2, _⟩ := g2
      refine .quiet hs (v' := if ok then .tuple #[r'.2, .bool true] else r'.2) ?_ (okPair_rel q2)
      simp only [Instr.lookup, Sem.run_bind, run_underlying hu, Result.andThen_ok, Sem.run_pure, run_getMap h2, run_checkKey hku hp, run_findKey hku g1]
    · rename_i hf
      cases h
      obtain ⟨r', g1, g2⟩ := findNow_ok hk hks hvs hf
      cases r' with
      | some r' => exact g2.elim
      | none =>
      refine .quiet hs (v' := if ok then .tuple #[ei.zero, .bool false] else ei.zero) ?_ (okPair_rel (hτ.zero et ei hei ρ))
      simp only [Instr.lookup, Sem.run_bind, run_underlying hu, Result.andThen_ok, Sem.run_pure, run_getMap h2, run_checkKey hku hp, run_findKey hku g1, hz]
    · cases h
  · cases h

theorem run_setMap {b c c1 : Nat} {es es1 : Array MapEntry} (h : w.heap[b]? = some (.map es c)) : ∃ w', (setObj b (.map es1 c1)).run P w = .ok () w' ∧ Wrote b w w' ∧ w'.heap[b]? = some (.map es1 c1) := by
  have hb : b < w.heap.size := (Array.getElem?_eq_some_iff.1 h).1
  refine ⟨{ w with heap := w.heap.setIfInBounds b (.map es1 c1) }, ?_, ⟨rfl, rfl, rfl, by simp, fun k hk => by simp [Array.getElem?_setIfInBounds_ne (Ne.symm hk)]⟩, by simp [hb]⟩
  simp [setObj, Sem.run, h]

theorem put_map (hs : Sim ρ V w) {i : Nat} {es es1 : List MEnt} {c c1 : Nat} {s : Slot} {es' es1' : Array MapEntry} (hV : V i = some (.map es c)) (hi : ρ i = some s) (hgo : s.gone = false) (h2 : w.heap[s.blk]? = some (.map es' c)) (hor : ORel ρ s (.map es1 c1) (.map es1' c1)) :
    ∃ w', (setObj s.blk (.map es1' c1)).run P w = .ok () w' ∧ Sim ρ (over V [(i, some (.map es1 c1))]) w' ∧ Keep ρ V w ρ (over V [(i, some (.map es1 c1))]) w' := by
  obtain ⟨w', hrun, hwr, hw'⟩ := run_setMap (P := P) (es1 := es1') (c1 := c1) h2
  obtain ⟨h3, h4⟩ := sim_put hs hV rfl rfl hi hgo hwr hw' hor
  rw [over_cons, over_nil]
  exact ⟨w', hrun, h3, h4⟩

theorem bytes_eq {a b : ByteArray} (h : (a == b) = true) : a = b := by
  rcases a with ⟨a⟩
  rcases b with ⟨b⟩
  have h' : (a == b) = true := h
  rw [beq_iff_eq] at h'
  rw [h']

theorem sameNow_eq {kind : TypeDesc} {a b : Value} (h : Instr.sameNow kind a b = some true) : a = b := by
  unfold Instr.sameNow at h
  split at h
  · split at h
    · rename_i hk; subst hk
      simp only [Option.some.injEq, beq_iff_eq] at h; rw [h]
    · cases h
  · rw [bytes_eq (Option.some.inj h)]
  · simp only [Option.some.injEq, beq_iff_eq] at h; rw [h]
  · cases h

theorem sameBits_self {kind : TypeDesc} {a : Value} {n : Nat} (h : Instr.sameNow kind a a = some true) : Instr.sameBits (n + 1) a a = true := by
  unfold Instr.sameNow at h
  split at h <;> first | (simp [Instr.sameBits]; done) | (simp [Instr.sameBits] at h ⊢; done) | (simpa [Instr.sameBits] using h) | cases h

theorem run_keyStays {kind : TypeDesc} {a : Value} (h : Instr.sameNow kind a a = some true) : (Instr.keyThatStays a a).run P w = .ok a w := by
  have : Instr.sameBits 10000 a a = true := sameBits_self (n := 9999) h
  simp [Instr.keyThatStays, this]

theorem modify_same {es : Array MapEntry} {i : Nat} {e : MapEntry} (h : es[i]? = some e) : (es.modify i fun x => { x with key := e.key }) = es := by
  apply Array.ext (by simp)
  intro j h1 h2
  rw [Array.getElem_modify]
  split
  · rename_i he; subst he
    have : es[i] = e := by simpa [h2] using h
    rw [this]
  · rfl

theorem evMapEntry_ok (hτ : TyOk P τ) (hs : Sim ρ V w) {t : Nat} {m m' k k' : Value} {r : Res} (hm : VRel ρ m m') (hk : VRel ρ k k') (h : evMapEntry τ V t m k = some r) : ValOk P (Instr.mapEntry t m' k') ρ V w n r := by
  unfold evMapEntry at h
  split at h
  case h_1 => cases h
  rename_i ti ht
  split at h
  case h_2 => cases h
  rename_i kt et hd
  split at h
  case h_2 => cases h
  rename_i ki ei hki hei
  split at h
  case isFalse => cases h
  rename_i hp
  have hu : P.underlying t = some (.map kt et) := by rw [hτ.under t ti ht, hd]
  have hku := hτ.under kt ki hki
  have hz : ∀ w, (zeroValue et).run P w = .ok ei.zero w := by
    intro w
    obtain ⟨f, hf, _, _, hz⟩ := hτ.info et ei hei
    simp [zeroValue, typeInfo, hf, hz]
  split at h
  case h_2 => cases h
  rename_i i
  split at h
  case h_2 => cases h
  rename_i es c hV
  cases hm with
  | map hi hgo =>
  rename_i s
  obtain ⟨o', h2, h3⟩ := hs.at_ hV hi hgo
  have h3' := h3
  cases h3 with
  | map hcap hks hvs hbs =>
  rename_i es'
  split at h
  · rename_i j e hf
    cases h
    obtain ⟨r', g1, g2⟩ := findNow_ok hk hks hvs hf
    cases r' with
    | none => exact g2.elim
    | some r' =>
    obtain ⟨j', v'⟩ := r'
    obtain ⟨rfl, q2, _, q4, q5⟩ := g2
    rw [Nat.sub_zero] at q4
    have hj : j < es'.size := by
      have a := (List.getElem?_eq_some_iff.1 q4).1
      have b := hks.1
      simp only [List.length_map, Array.length_toList] at b
      omega
    have he' : es'[j]? = some es'[j] := by simp
    have hkey : VRel ρ e.1 es'[j].key := hks.2 j _ _ (by rw [List.getElem?_map, q4]; rfl) (by rw [List.getElem?_map, Array.getElem?_toList, he']; rfl)
    have hkk : es'[j].key = k' := (sameNow_eq (sameNow_ok hk hkey q5)).symm
    have hborn : e.2.2 = es'[j].born := by
      have := congrArg (fun l => l[j]?) hbs
      simp only [List.getElem?_map, q4, Option.map_some, Array.getElem?_toList, he', Option.some.injEq] at this
      exact this
    have hsame : Instr.sameNow ki.desc k' k' = some true := by have := sameNow_ok hk hkey q5; rw [hkk] at this; exact this
    obtain ⟨w', hrun, g3, g4⟩ := put_map (P := P) (es1' := es') hs hV hi hgo h2 h3'
    refine ⟨.tuple #[v', goInt es'[j].born], w', ρ, ?_, ?_, g3, g4, fun _ _ => rfl⟩
    · have hmod : (es'.modify j fun x => { x with key := k' }) = es' := by rw [← hkk]; exact modify_same he'
      simp only [Instr.mapEntry, Sem.run_bind, run_underlying hu, Result.andThen_ok, run_getMap h2, run_checkKey hku hp, run_findKey hku g1, he', Option.map_some, Option.getD_some, hkk, run_keyStays hsame, hmod, hrun, Sem.run_pure]
    · rw [hborn]; exact vrel_tuple (lrel_cons q2 (lrel_cons (.int _ _) lrel_nil))
  · rename_i hf
    cases h
    obtain ⟨r', g1, g2⟩ := findNow_ok hk hks hvs hf
    cases r' with
    | some r' => exact g2.elim
    | none =>
    have hor : ORel ρ s (.map (es ++ [(k, ei.zero, c)]) (c + 1)) (.map (es'.push { key := k', val := ei.zero, born := c }) (c + 1)) := by
      refine .map hcap ?_ ?_ ?_
      · simp only [List.map_append, List.map_cons, List.map_nil, Array.toList_push]
        exact lrel_append hks (lrel_cons hk lrel_nil)
      · simp only [List.map_append, List.map_cons, List.map_nil, Array.toList_push]
        exact lrel_append hvs (lrel_cons (hτ.zero et ei hei ρ) lrel_nil)
      · simp only [List.map_append, List.map_cons, List.map_nil, Array.toList_push, hbs]
    obtain ⟨w', hrun, g3, g4⟩ := put_map (P := P) hs hV hi hgo h2 hor
    refine ⟨.tuple #[ei.zero, goInt c], w', ρ, ?_, vrel_tuple (lrel_cons (hτ.zero et ei hei ρ) (lrel_cons (.int _ _) lrel_nil)), g3, g4, fun _ _ => rfl⟩
    simp only [Instr.mapEntry, Sem.run_bind, run_underlying hu, Result.andThen_ok, run_getMap h2, run_checkKey hku hp, run_findKey hku g1, hz, hrun, Sem.run_pure]
  · cases h

theorem lrel_tail {a b : Value} {l l' : List Value} (h : LRel ρ (a :: l) (b :: l')) : VRel ρ a b ∧ LRel ρ l l' :=
  ⟨h.2 0 a b rfl rfl, by have := h.1; simpa using this, fun i v v' p q => h.2 (i + 1) v v' (by simpa using p) (by simpa using q)⟩

theorem setVal_ok {b : Int} {v v' : Value} (hv : VRel ρ v v') : ∀ {es es1 : List MEnt} {l : List MapEntry}, LRel ρ (es.map (·.1)) (l.map (·.key)) → LRel ρ (es.map (·.2.1)) (l.map (·.val)) → es.map (·.2.2) = l.map (·.born) → setVal b v es = some es1 →
    ∃ i, l.findIdx? (fun e => (e.born : Int) == b) = some i ∧ LRel ρ (es1.map (·.1)) ((l.modify i fun e => { e with val := v' }).map (·.key)) ∧ LRel ρ (es1.map (·.2.1)) ((l.modify i fun e => { e with val := v' }).map (·.val)) ∧
      es1.map (·.2.2) = (l.modify i fun e => { e with val := v' }).map (·.born) := by
  intro es
  induction es with
  | nil => intro es1 l _ _ _ h; cases h
  | cons e es ih =>
    intro es1 l h1 h2 h3 h
    cases l with
    | nil => have := h1.1; simp at this
    | cons e' l =>
      obtain ⟨k1, k2⟩ := lrel_tail h1
      obtain ⟨v1, v2⟩ := lrel_tail h2
      simp only [List.map_cons, List.cons.injEq] at h3
      simp only [setVal] at h
      split at h
      · rename_i hb
        cases h
        refine ⟨0, ?_, ?_, ?_, ?_⟩
        · rw [List.findIdx?_cons, ← h3.1]; simp [hb]
        · exact lrel_cons k1 k2
        · exact lrel_cons hv v2
        · simp [h3.1, h3.2]
      · rename_i hb
        obtain ⟨es2, hes2, rfl⟩ := Option.map_eq_some_iff.1 h
        obtain ⟨i, g1, g2, g3, g4⟩ := ih k2 v2 h3.2 hes2
        refine ⟨i + 1, ?_, ?_, ?_, ?_⟩
        · rw [List.findIdx?_cons, ← h3.1]; simp [hb, g1]
        · simpa using lrel_cons k1 g2
        · simpa using lrel_cons v1 g3
        · simp [h3.1, g4]

theorem evEntryStore_ok (hs : Sim ρ V w) {t : Nat} {m m' s s' v v' : Value} {r : Res} (hm : VRel ρ m m') (hst : VRel ρ s s') (hv : VRel ρ v v') (h : evEntryStore V m s v = some r) :
    OpOk P (do Instr.entryStore t m' s' v'; pure .skip) ρ V w n r := by
  unfold evEntryStore at h
  split at h
  case h_2 => cases h
  rename_i i kd b
  split at h
  case h_2 => cases h
  rename_i es c hV
  obtain ⟨es1, he, rfl⟩ := Option.map_eq_some_iff.1 h
  cases hst
  cases hm with
  | map hi hgo =>
  rename_i sl
  obtain ⟨o', h2, h3⟩ := hs.at_ hV hi hgo
  cases h3 with
  | map hcap hks hvs hbs =>
  rename_i es'
  obtain ⟨j, g1, g2, g3, g4⟩ := setVal_ok hv hks hvs hbs he
  have hor : ORel ρ sl (.map es1 c) (.map (es'.modify j fun e => { e with val := v' }) c) := .map hcap (by simpa using g2) (by simpa using g3) (by simpa using g4)
  obtain ⟨w', hrun, q3, q4⟩ := put_map (P := P) hs hV hi hgo h2 hor
  refine ⟨undef, w', ρ, .inr ⟨?_, rfl⟩, vrel_tuple lrel_nil, q3, q4, fun _ _ => rfl⟩
  have hf : es'.findIdx? (fun e => (e.born : Int) == b) = some j := by rcases es' with ⟨l⟩; rw [List.findIdx?_toArray]; exact g1
  simp only [Instr.entryStore, Sem.run_bind, Result.andThen_ok, run_getMap h2, asInt, asIntOf, Sem.run_pure, hf, hrun]

end
end Go.Proofs.Yticaicdopfpknaa.Vm
