/- Package state: users, sessions, configs; what an event does to a state. -/
import Derived.Test.YtcjfidfealifhaaEv0
import Derived.Test.YtcjfidfealifhaaPl3
import Derived.Test.YtcjfidfealifhaaLf0
namespace Go.Proofs.Ytcjfidfealifhaa
open Go Vm IntWalk
set_option linter.unusedVariables false
set_option linter.unusedSimpArgs false
structure UserV where
  user : Int
  key : Int
  secret : Int
  quota : Int
  used : Int
  fails : Int
  until_ : Int
  step : Int
  gen : Int
  deriving DecidableEq
def userL (a : UserV) : List Value := [.int .i64 a.user, .int .i64 a.key, .int .i64 a.secret, .int .i64 a.quota, .int .i64 a.used, .int .i64 a.fails, .int .i64 a.until_, .int .i64 a.step, .int .i64 a.gen]
def userR : Rw UserV := ⟨userL, 9, fun _ => rfl, fun a v h => by unfold userL at h; simp only [List.mem_cons, List.not_mem_nil, or_false] at h; rcases h with rfl | rfl | rfl | rfl | rfl | rfl | rfl | rfl | rfl <;> rfl, by decide⟩
abbrev userV (a : UserV) : Value := .agg (userL a).toArray
abbrev userRel {ρ : Ren} (a : UserV) : VRel ρ (userV a) (userV a) := vrel_agg (userR.flat a).rel
theorem user_eq (a b : UserV) : evEq tys 50 49 (.agg (userR.f a).toArray) (.agg (userR.f b).toArray) = some (decide (a = b)) := by
  refine Eq.trans (b := some (a.user == b.user && (a.key == b.key && (a.secret == b.secret && (a.quota == b.quota && (a.used == b.used && ((a.fails == b.fails && (a.until_ == b.until_ && true)) && (a.step == b.step && (a.gen == b.gen && true))))))))) rfl (congrArg some ?_)
  rw [Bool.eq_iff_iff]
  cases a; cases b; simp [and_assoc]
structure SessV where
  session : Int
  user : Int
  address : Int
  start : Int
  deriving DecidableEq
def sessL (a : SessV) : List Value := [.int .i64 a.session, .int .i64 a.user, .int .i64 a.address, .int .i64 a.start]
def sessR : Rw SessV := ⟨sessL, 4, fun _ => rfl, fun a v h => by unfold sessL at h; simp only [List.mem_cons, List.not_mem_nil, or_false] at h; rcases h with rfl | rfl | rfl | rfl <;> rfl, by decide⟩
abbrev sessV (a : SessV) : Value := .agg (sessL a).toArray
abbrev sessRel {ρ : Ren} (a : SessV) : VRel ρ (sessV a) (sessV a) := vrel_agg (sessR.flat a).rel
theorem sess_eq (a b : SessV) : evEq tys 50 54 (.agg (sessR.f a).toArray) (.agg (sessR.f b).toArray) = some (decide (a = b)) := by
  refine Eq.trans (b := some (a.session == b.session && (a.user == b.user && (a.address == b.address && (a.start == b.start && true))))) rfl (congrArg some ?_)
  rw [Bool.eq_iff_iff]
  cases a; cases b; simp
structure ConfV where
  sectors : Int
  halves : Int
  sessions : Int
  addresses : Int
  fails : Int
  lockout : Int
  halfLife : Int
  idle : Int
  absolute : Int
  quarantine : Int
  ticketLife : Int
  keep : Int
  deriving DecidableEq
def confL (a : ConfV) : List Value := [.int .i64 a.sectors, .int .i64 a.halves, .int .i64 a.sessions, .int .i64 a.addresses, .int .i64 a.fails, .int .i64 a.lockout, .int .i64 a.halfLife, .int .i64 a.idle, .int .i64 a.absolute, .int .i64 a.quarantine, .int .i64 a.ticketLife, .int .i64 a.keep]
def confR : Rw ConfV := ⟨confL, 12, fun _ => rfl, fun a v h => by unfold confL at h; simp only [List.mem_cons, List.not_mem_nil, or_false] at h; rcases h with rfl | rfl | rfl | rfl | rfl | rfl | rfl | rfl | rfl | rfl | rfl | rfl <;> rfl, by decide⟩
abbrev confV (a : ConfV) : Value := .agg (confL a).toArray
abbrev confRel {ρ : Ren} (a : ConfV) : VRel ρ (confV a) (confV a) := vrel_agg (confR.flat a).rel
abbrev confO (a : ConfV) : VObj := .cells (confL a) 23 (0, 0)
theorem ov_conf {σ : Ren} {a b : ConfV} (h : a = b) : OV σ (confO a) (confO b) := by rw [h]; exact .cells _ _ (confR.flat b).rel
/-- May a time be? -/
def lifeOk (x : Int) : Bool := decide (1 ≤ x) && decide (x ≤ 65536)
def betw (x l h : Int) : Bool := decide (l ≤ x) && decide (x ≤ h)
def confMay (c : ConfV) : Bool := betw c.sectors 3 256 && betw c.halves 1 8 && betw c.sessions 1 8 && betw c.addresses 1 16 && betw c.fails 1 8 && betw c.keep 0 4 && lifeOk c.lockout && lifeOk c.halfLife && lifeOk c.idle && lifeOk c.absolute && lifeOk c.quarantine && lifeOk c.ticketLife
structure StV where
  boots : Int
  epoch : Int
  next : Int
  users : List UserV
  sess : List SessV
  addrs : List AddrV
  spent : List Int
  deriving DecidableEq
def st0 : StV := ⟨0, 0, 0, [], [], [], []⟩
def newS (n : Int) : StV × Int := if 1 ≤ n ∧ n ≤ 16 then ({ st0 with addrs := (newP n).1 }, 0) else (st0, 2000)
def userAt (us : List UserV) (u : Int) : Option Nat := us.findIdx? fun x => x.user == u
def sessAt (xs : List SessV) (s : Int) : Option Nat := xs.findIdx? fun x => x.session == s
/-- All sessions' addresses are freed. -/
def freeAll (u : Int) : List SessV → List AddrV → Option (List AddrV)
  | [], aa => some aa
  | x :: xs, aa => if freeC aa x.address u = true then freeAll u xs (freeA aa x.address u).1 else none
def bootE (c : ConfV) (s : StV) (e : EventV) : Option StV :=
  match freeAll (IntKind.i64.wrap (e.tick + c.quarantine)) s.sess s.addrs with
  | none => none
  | some aa => if 0 ≤ s.boots ∧ s.boots ≤ 1073741822 then some { s with boots := s.boots + 1, addrs := aa, sess := [] } else none
/-- Where a user's place is: ahead of the first with a greater number. -/
def gtAt (us : List UserV) (u : Int) : Nat := us.findIdx fun x => decide (u < x.user)
def userPut (us : List UserV) (u : UserV) : List UserV := us.take (gtAt us u.user) ++ u :: us.drop (gtAt us u.user)
def userE (s : StV) (e : EventV) : Option StV :=
  match userAt s.users e.user with
  | some _ => none
  | none => some { s with users := userPut s.users ⟨e.user, e.a, e.b, e.c, 0, 0, 0, 0, 0⟩ }
def ofE (c : ConfV) (s : StV) (e : EventV) : Option StV :=
  match userAt s.users e.user with
  | none => none
  | some j => match s.users[j]? with
    | none => none
    | some u =>
      if e.kind = 7 then (if 0 ≤ u.gen ∧ u.gen ≤ 1073741822 then some { s with users := s.users.set j { u with gen := u.gen + 1 } } else none)
      else if e.kind = 2 then (match failR u.fails u.until_ e.tick c.fails c.lockout with
        | (f, t, r) => if r = 0 then some { s with users := s.users.set j { u with fails := f, until_ := t } } else none)
      else if e.kind = 3 then (if e.a ≤ u.step then none else some { s with users := s.users.set j { u with step := e.a, fails := 0, until_ := 0 } })
      else some { s with users := s.users.set j { u with fails := 0, until_ := 0 } }
def leaseE (c : ConfV) (s : StV) (e : EventV) : Option StV :=
  if takeC s.addrs e.address e.user = true ∧ e.session = s.next ∧ (userAt s.users e.user).isSome = true ∧ (s.sess.length : Int) < c.sessions then
    some { s with addrs := (takeA s.addrs e.address e.user).1, sess := s.sess ++ [⟨e.session, e.user, e.address, e.tick⟩], next := IntKind.i64.wrap (s.next + 1) } else none
def sumU (x y : Int) : Int := if IntKind.i64.wrap (1073741823 - y) < x then 1073741823 else IntKind.i64.wrap (x + y)
def useU (us : List UserV) (u a : Int) : List UserV := match userAt us u with
  | none => us
  | some j => match us[j]? with
    | none => us
    | some x => us.set j { x with used := sumU x.used a }
def closeE (s : StV) (e : EventV) : Option StV :=
  match sessAt s.sess e.session with
  | none => none
  | some k => match s.sess[k]? with
    | none => none
    | some x => if freeC s.addrs x.address e.tick = true then some { s with addrs := (freeA s.addrs x.address e.tick).1, users := useU s.users x.user e.a, sess := s.sess.eraseIdx k } else none
def spendE (s : StV) (e : EventV) : Option StV := if s.spent.contains e.session = true then none else some { s with spent := s.spent ++ [e.session] }
def doesE (c : ConfV) (s : StV) (e : EventV) : Option StV :=
  if e.kind = 0 then bootE c s e else if e.kind = 1 then userE s e else if e.kind = 5 then leaseE c s e else if e.kind = 6 then closeE s e
  else if e.kind = 8 then (if s.epoch < 1073741823 then some { s with epoch := IntKind.i64.wrap (s.epoch + 1) } else none) else if e.kind = 9 then spendE s e else ofE c s e
def applyC (c : ConfV) (s : StV) (e : EventV) : Bool := confMay c && evtMay e && decide ((s.addrs.length : Int) = c.addresses)
def applyS (c : ConfV) (s : StV) (e : EventV) : StV × Int :=
  if applyC c s e = true then (match doesE c s e with
    | some t => (t, 0)
    | none => (st0, 2001)) else (st0, 2000)
def goS (c : ConfV) : StV → List EventV → StV × Int
  | s, [] => (s, 0)
  | s, e :: es => match applyS c s e with
    | (t, 0) => goS c t es
    | (_, f) => (st0, f)
def allS (c : ConfV) (es : List EventV) : StV × Int := match newS c.addresses with
  | (s, 0) => goS c s es
  | (_, f) => (st0, f)
end Go.Proofs.Ytcjfidfealifhaa
