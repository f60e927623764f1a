import PyProof.Rows.All
import Wide.All
import OpenK.AllK
import Wide.FinOn
import PySem.Challenge.RW_bindertongue_k11_desks_unbound_and_twins
import HandS.Head0
import HandS.Head1
import Open.FastRun
import HandS.Head2
import KE.KExcLine
import HandS.ForMost
import HandS.Exc
import HandS.ExcSuper
import HandS.ExcInit
import HandS.ExcValue
import HandS.ExcField
import HandS.Codes
import HandS.RaiseMore
import HandS.Ends
import HandS.ExcOwn
import HandS.TryMany
import HandS.IsInst
import HandS.OwnEq
import PyProof.InstNe
import PyProof.InstEq
import PyProof.StrBlock2
import PyProof.CallFns
import HandS.Small
import HandS.Iter
import HandS.Comp
import HandS.Words
import HandS.Walk
import HandS.Text
import HandS.Star
import HandS.TupAny
import HandS.More
import HandS.Style
import HandS.WordsExc
import HandS.Conv
import Flt.Reg
import HandS.NoneIn
import HandS.HotCalls
set_option Elab.async false
set_option linter.all false
set_option maxRecDepth 100000
set_option maxHeartbeats 0
namespace Look11
open PySem PySem.W PyProof.Rows
abbrev l := PySem.Challenge.rw_bindertongue_k11_desks_unbound_and_twins
abbrev p := PySem.Challenge.pw_bindertongue_k11_desks_unbound_and_twins
theorem d1 : sreFenced p.main = true := by decide +kernel
theorem d2 : ((moduleNames p.main.body).isEmpty || lookedIntoSs (moduleNames p.main.body) p.main.body) = true := by decide +kernel
theorem d4 : p.boundNames.all (fun n => !worldNames.contains n) = true := by decide +kernel
theorem d3 : namesResolve p = true := by decide +kernel
theorem d6 : (namesMeet p p.main.body fun _ n => attrL n) = true := by decide +kernel
theorem e1 : l.row.loose.isEmpty = true := by decide +kernel
theorem e2 : l.row.makers.isEmpty = true := by decide +kernel
theorem e3 : (l.row.records.isEmpty || l.row.raises.all fun ct => ct.1 != .builtin "AttributeError" && ct.1 != .builtin "TypeError") = true := by decide +kernel
theorem e4 : (l.row.raises.all fun ct => match ct.1 with | .builtin n => !l.row.prog.boundNames.contains (Str.ofString n) && !ofTheWorld.contains n | .own _ => true) = true := by decide +kernel
theorem e5 : decide (l.row.records.map (·.1)).Nodup = true := by decide +kernel
theorem e6 : (l.row.records.all fun x => !x.1.opensWith "__" && !builtinNamed x.1 && l.row.prog.boundNames.contains x.1 && x.2.all fun f => !f.1.opensWith "__") = true := by decide +kernel
theorem e7 : l.row.toRowW.solid = true := by decide +kernel
theorem e8 : l.row.pre.litsOk = true := by decide +kernel
theorem e9 : l.row.post.litsOk = true := by decide +kernel
theorem e10 : l.row.raises.all (·.2.litsOk) = true := by decide +kernel
theorem e11 : l.row.mutates.all (fun i => match l.row.args[i]? with
    | some sh => !sh.arms.any WShape.isObj
    | none => false) = true := by decide +kernel
theorem e12 : l.row.within.all (fun i => decide (i < l.row.args.length)) = true := by decide +kernel
theorem e13 : l.row.same.all (fun i => decide (i < l.row.args.length)) = true := by decide +kernel
theorem e14 : l.row.prog.boundNames.contains l.row.name = true := by decide +kernel
theorem e15 : (!startupNames.contains l.row.name) = true := by decide +kernel
theorem f1 : decide (l.foot ≤ (behindTheImports l.prog).length) = true := by decide +kernel
theorem f2 : l.footing.all footLine = true := by decide +kernel
theorem f3 : noClassBlock l.prog l.footing = true := by decide +kernel
theorem f4 : l.most.all (fun n => decide (63 ≤ n)) = true := by decide +kernel
theorem f5 : l.bound.all (fun n => decide (2 ^ 63 ≤ n)) = true := by decide +kernel
theorem f6 : noRoadLSs { strict := true, foot := some l.bound', writes := l.writes, may := l.may } l.footing = true := by decide +kernel
theorem f7 : defStands l.about l.above = true := by decide +kernel
theorem f8 : l.namesIt = true := by decide +kernel
theorem f9 : (["type", "isinstance", "issubclass", "getattr", "hasattr"] : List Str).all (fun n => l.about != [n]) = true := by decide +kernel
theorem f10 : l.bound'.all (fun n => !builtinNamed n || l.about == [n] || !l.reads n) = true := by decide +kernel
theorem f11 : (!l.writes || (l.prog.main.body.flatMap importedNames).all fun n => !l.reads n) = true := by decide +kernel
theorem f12 : (l.prog.main.body.flatMap importedNames).all (fun n => !l.reads n || (drawsOf n l.prog.main.body).all fun mn => mn.2 != ("attrgetter" : Str) && mn.2 != ("methodcaller" : Str)) = true := by decide +kernel
theorem f13 : namesMeet l.prog l.footing (fun sc n => (!(["type", "isinstance", "issubclass", "getattr", "hasattr"] : List Str).contains n || sc.names.lookup n == some .globalImplicit) &&
    (l.may != some n || sc.kind == .module || sc.names.lookup n == some .globalImplicit)) = true := by decide +kernel
theorem f14 : l.own.contains l.name = true := by decide +kernel
theorem f15 : (l.own.eraseDups.length == l.own.length) = true := by decide +kernel
theorem f16 : l.own.all (fun n => !builtinNamed n) = true := by decide +kernel
theorem f17 : namesMeet l.prog l.above (fun _ n => !l.own.contains n) = true := by decide +kernel
theorem f18 : (namesMeet l.prog l.footing fun sc n => sc.kind == .module || sc.names.lookup n != some .globalExplicit) = true := by decide +kernel
theorem c1 : (!(importedModules p.main.body).all cThrough.contains) = false := by decide +kernel
theorem c2 : (["vars", "dir", "locals"] : List Str).filter (readsOut p p.main.body) = [] := by decide +kernel
theorem c3 : noRoadLSs { strict := false, foot := none, bare := [] } p.main.body = true := by decide +kernel
theorem d5 : noRoadLSs { strict := !(importedModules p.main.body).all cThrough.contains, foot := none, bare := (["vars", "dir", "locals"] : List Str).filter (readsOut p p.main.body) } p.main.body = true := by rw [c1, c2]; exact c3
theorem opn : looksOpen l.row.prog = true := by
  unfold looksOpen
  exact look_both (look_both (look_both (look_both (look_both d1 d2) d3) d4) d5) d6
theorem part : l.row.partSaid = true := by
  unfold OpenRow.partSaid
  exact look_both (look_both (look_both (look_both (look_both (look_both (look_both (look_both (look_both (look_both (look_both (look_both (look_both opn e1) e2) e3) e4) e5) e6) e7) e8) e9) e10) e11) e12) e13
theorem row : l.row.wellSaid = true := by
  unfold OpenRow.wellSaid
  exact look_both (look_both part e14) e15
theorem ok : l.wellSaid = true := by
  unfold OpenLaw.wellSaid
  exact look_both (look_both (look_both (look_both (look_both (look_both (look_both (look_both (look_both (look_both (look_both (look_both (look_both (look_both (look_both (look_both (look_both (look_both row f1) f2) f3) f4) f5) f6) f7) f8) f9) f10) f11) f12) f13) f14) f15) f16) f17) f18
end Look11

namespace Tw11
open PySem PySem.W PySem.TablesWhole
abbrev p : Program := PySem.Challenge.pw_bindertongue_k11_desks_unbound_and_twins
abbrev sc : Scope := p.main.scope
abbrev cx : TablesWhole.Ctx := ⟨sc, [], [], [], none⟩
theorem told : wSs gather sc cx sc p.main.body = [] := by kernel_rfl
theorem app (cx : TablesWhole.Ctx) (top sc : Scope) : ∀ l1 l2 : List Stmt, wSs holds top cx sc (l1 ++ l2) = (wSs holds top cx sc l1 && wSs holds top cx sc l2)
  | [], l2 => by
    show wSs holds top cx sc l2 = _
    simp only [wSs]
    rfl
  | s :: l1, l2 => by
    simp only [List.cons_append, wSs, app cx top sc l1 l2]
    exact (Bool.and_assoc _ _ _).symm
theorem cut (l : List Stmt) (i n : Nat) (h1 : wSs holds sc cx sc ((l.drop i).take n) = true) (h2 : wSs holds sc cx sc (l.drop (i + n)) = true) : wSs holds sc cx sc (l.drop i) = true := by
  rw [show l.drop i = (l.drop i).take n ++ l.drop (i + n) by rw [← List.drop_drop, List.take_append_drop], app, h1, h2]
  rfl
theorem c0 : wSs holds sc cx sc ((p.main.body.drop 0).take 40) = true := by kernel_rfl
theorem c1 : wSs holds sc cx sc ((p.main.body.drop 40).take 40) = true := by kernel_rfl
theorem c2 : wSs holds sc cx sc ((p.main.body.drop 80).take 40) = true := by kernel_rfl
theorem c3 : wSs holds sc cx sc ((p.main.body.drop 120).take 40) = true := by kernel_rfl
theorem c4 : wSs holds sc cx sc ((p.main.body.drop 160).take 40) = true := by kernel_rfl
theorem c5 : wSs holds sc cx sc (p.main.body.drop 200) = true := by kernel_rfl
theorem body : wSs holds sc cx sc p.main.body = true := cut p.main.body 0 40 c0 (cut _ 40 40 c1 (cut _ 80 40 c2 (cut _ 120 40 c3 (cut _ 160 40 c4 c5))))
theorem mod (m : Module) (h1 : wSs gather m.scope ⟨m.scope, [], [], [], none⟩ m.scope m.body = []) (h2 : noTwice m.scope = true) (h3 : wSs holds m.scope ⟨m.scope, [], [], [], none⟩ m.scope m.body = true) : wModule holds m = true := by
  unfold wModule
  dsimp only
  rw [h1]
  show (true && (noTwice m.scope && (wSs holds m.scope ⟨m.scope, [], [], [], none⟩ m.scope m.body && true))) = true
  rw [h2, h3]
  rfl
theorem prg (q : Program) (h : wModule holds q.main = true) (a : q.modules = []) (b : q.parses = []) (c : q.harvested = []) : q.tablesWhole = true := by
  unfold Program.tablesWhole wProgram
  rw [h, a, b, c]
  rfl
theorem twc : noTwice sc = true := by kernel_rfl
theorem main : wModule holds p.main = true := mod p.main told twc body
theorem e1 : p.modules = [] := by kernel_rfl
theorem e2 : p.parses = [] := by kernel_rfl
theorem e3 : p.harvested = [] := by kernel_rfl
theorem ok : p.tablesWhole = true := prg p main e1 e2 e3
end Tw11

/-! A lean machine for the top's run: the state laid out as arguments, one closed minor for each operation. -/
noncomputable section
namespace HdM
open PySem PySem.W PySem.Calls PyProof.Rows HandSHeadRun

abbrev Res : Type := Option (PySem.W.BT × Nat × Nat × Code × Pos)
abbrev Go : Type := PySem.W.BT → Nat → Nat → Sem Fin → Code → Pos → List Frame → Res
abbrev Mn : Type := Go → PySem.W.BT → Nat → Nat → Code → Pos → List Frame → Res

def frN (n : Nat) (k : Nat → Res) : Res := @Nat.rec (fun _ => Res) (k 0) (fun m _ => k (m + 1)) n
theorem frN_eq (n : Nat) (k : Nat → Res) : frN n k = k n := by cases n <;> rfl
def onB (b : Bool) (r : Res) : Res := @Bool.rec (fun _ => Res) none r b
theorem onB_some {b : Bool} {r : Res} {x} (h : onB b r = some x) : b = true ∧ r = some x := by
  cases b with
  | false => cases h
  | true => exact ⟨rfl, h⟩
def onO {α : Type} (o : Option α) (k : α → Res) : Res := @Option.rec α (fun _ => Res) none k o
theorem onO_some {α : Type} {o : Option α} {k : α → Res} {x} (h : onO o k = some x) : ∃ a, o = some a ∧ k a = some x := by
  cases o with
  | none => cases h
  | some a => exact ⟨a, rfl, h⟩
def liveB (o : Obj) : Bool := @Obj.rec (fun _ => Bool) (fun _ _ d _ => @Data.rec (fun _ => Bool) true (fun _ => true) (fun _ _ => true) (fun _ _ => true) (fun _ _ _ => true) (fun _ _ => true) (fun _ => true) (fun _ => true) (fun _ => true) (fun _ => true) false d) o
theorem liveB_ok {o : Obj} (h : liveB o = true) : alive o = some o := by
  obtain ⟨c, d, dt, s⟩ := o
  cases dt <;> first | rfl | (cases h)

/-- a built-in of the collector's own? -/
def farL : List Char → Bool
  | c :: d :: e :: _ => !(Nat.beq c.toNat 108 && (Nat.beq d.toNat 105 && Nat.beq e.toNat 102))
  | _ => true
def farId (id : String) : Bool := farL (PySem.W.S.toListS id)
theorem farId_ok {id : String} (h : farId id = true) : id.startsWith "lifetime." = false := by
  cases e : id.startsWith "lifetime." with
  | false => rfl
  | true =>
    exfalso
    have q : "lifetime.".toList <+: id.toList := by simpa using e
    obtain ⟨r, hr⟩ := q
    unfold farId at h
    rw [← PySem.W.S.toListS_eq, ← hr] at h
    revert h
    show ¬ (farL ('l' :: 'i' :: 'f' :: 'e' :: 't' :: 'i' :: 'm' :: 'e' :: '.' :: r) = true)
    simp [farL]
/-- may this be updated? -/
def updB (n₀ : Nat) (ann : Option Value) (a : Addr) : Bool := Nat.ble n₀ a || a == mainNs || a == cStatics || ann == some (.ref a)
def updF (n₀ : Nat) (ann : Option Value) (a : Addr) : Bool := @Bool.rec (fun _ => Bool) (updB n₀ ann a) true (Nat.ble n₀ a)
theorem updF_ok {n₀ : Nat} {ann : Option Value} {a : Addr} (h : updF n₀ ann a = true) : updB n₀ ann a = true := by
  unfold updF at h
  cases e : Nat.ble n₀ a with
  | false =>
    rw [e] at h
    exact h
  | true =>
    unfold updB
    rw [e]
    rfl

def keptOf (c : Code) (l : List Value) (code : Code) : List Value := match c, code with
  | .builtin _ a, _ => unmarked a.refs
  | .call f a, .builtin .. | .call f a, .call .. => unmarked (if l.contains borrowed then a.refs else f :: a.refs)
  | _, _ => []
def stackOf (code c : Code) (stack : List Frame) : List Frame := match code, c, stack with
  | .builtin .., .call f a, .ret k h g l cd p kept :: rest => .ret k h g l cd p (kept ++ unmarked (f :: a.refs)) :: rest
  | .call f _, .call .., .ret k h g l cd p kept :: rest => .ret k h g l cd p (kept ++ .ellipsis :: unmarked [f]) :: rest
  | .call f a, .builtin .., .ret k h g l cd p kept :: rest =>
    .ret k h g l cd p (if l.contains borrowed then kept.takeWhile (· != .ellipsis) ++ unmarked a.refs else unmarked (kept ++ f :: a.refs)) :: rest
  | .call .., _, .ret k h g l cd p kept :: rest => .ret k h g l cd p (kept.takeWhile (· != .ellipsis)) :: rest
  | _, _, _ => stack

section
variable (den : Code → Sem Fin) (st : Setting) (n₀ : Nat) (ann : Option Value)
/-! the minors -/
def mNo : Mn := fun _ _ _ _ _ _ _ => none
def farC (c : Code) : Bool := @Code.rec (fun _ => Bool) (fun _ _ => true) (fun id _ => farId id) (fun _ _ => true) (fun _ _ => true) (fun _ _ _ => true) (fun _ _ _ _ _ => true) (fun _ _ => true) (fun _ _ => true) (fun _ _ _ _ => true) (fun _ _ _ _ _ => true) (fun _ _ _ _ _ => true) (fun _ _ _ _ _ => true) (fun _ _ _ _ _ => true) c
def mAgain (c : Code) : Mn := fun rec T n k code pos stack => onB (farC c) (rec T n k (den c) c pos (stackOf code c stack))
def isNext (f : Flow) : Bool := match f with
  | .next => true
  | _ => false
/-- one frame alone: the block's end -/
def mDone1 (f : Flow) (T : PySem.W.BT) (n k : Nat) (code : Code) (pos : Pos) : Res := onB (isNext f) (some (T, n, k, code, pos))
def popK (x : Result) (rec : Go) (T : PySem.W.BT) (n kk : Nat) (rest : List Frame) (fr : Frame) : Res :=
  @Frame.rec (fun _ => Res) (fun k _ _ _ c p _ => rec T n kk (k x) c p rest) (fun _ _ _ _ _ => none) fr
def mDone (f : Flow) : Mn := fun rec T n k code pos stack =>
  @List.rec Frame (fun _ => Res) none (fun fr rest _ => @List.rec Frame (fun _ => Res) (mDone1 f T n k code pos) (fun _ _ _ => popK (.ok f) rec T n k rest fr) rest) stack
def mPure (x : PySem.Fin) : Mn := @PySem.Fin.rec (fun _ => Mn) mDone (mAgain den) x
def mRaise (e : Value) : Mn := fun rec T n k _ _ stack => @List.rec Frame (fun _ => Res) none (fun fr rest _ => popK (.error e) rec T n k rest fr) stack
def mRule (_ : String) (k : Unit → Sem Fin) (_ : Unit → Mn) : Mn := fun rec T n t code pos stack => rec T n t (k ()) code pos stack
def mAt (p : Pos) (k : Unit → Sem Fin) (_ : Unit → Mn) : Mn := fun rec T n t code _ stack => rec T n t (k ()) code p stack
def mLoad (a : Addr) (_ : Option Value) (k : Obj → Sem Fin) (_ : Obj → Mn) : Mn := fun rec T n t code pos stack =>
  onB (Nat.blt a n) (onO (T.get a) fun o => onB (liveB o) (rec T n t (k o) code pos stack))
def mUpd (a : Addr) (_ : Option Value) (f : Obj → Obj) (k : Unit → Sem Fin) (_ : Unit → Mn) : Mn := fun rec T n t code pos stack =>
  onB (updF n₀ ann a) (onB (Nat.blt a n) (onO (T.get a) fun o => onB (liveB o) (rec (T.set a f) n t (k ()) code pos stack)))
def isSo {α : Type} (o : Option α) : Bool := @Option.rec α (fun _ => Bool) false (fun _ => true) o
def mAlloc (o : Obj) (k : Addr → Sem Fin) (_ : Addr → Mn) : Mn := fun rec T n t code pos stack =>
  onB (isSo ((T.ins n o).get n)) (frN (n + 1) fun n' => rec (T.ins n o) n' t (k n) code pos stack)
def aliveO (o : Obj) : Option Obj := @Bool.rec (fun _ => Option Obj) none (some o) (liveB o)
def mLia (a : Addr) (k : Option Obj → Sem Fin) (_ : Option Obj → Mn) : Mn := fun rec T n t code pos stack =>
  @Bool.rec (fun _ => Res) (rec T n t (k none) code pos stack) (onO (T.get a) fun o => onB (liveB o) (rec T n t (k (some o)) code pos stack)) (Nat.blt a n)
def mPoint (_ : List Value) (k : Unit → Sem Fin) (_ : Unit → Mn) : Mn := fun rec T n t code pos stack => rec T n t (k ()) code pos stack
def mFresh (k : Tok → Sem Fin) (_ : Tok → Mn) : Mn := fun rec T n t code pos stack => frN (t + 1) fun t' => rec T n t' (k t) code pos stack
def mAsk (k : Setting → Sem Fin) (_ : Setting → Mn) : Mn := fun rec T n t code pos stack => rec T n t (k st) code pos stack
def mCall (c : Code) (h : Option Value) (g : Bool) (l : List Value) (k : Result → Sem Fin) (_ : Result → Mn) : Mn := fun rec T n t code pos stack =>
  rec T n t (den c) c pos (.ret k h g l code pos (keptOf c l code) :: stack)
def mStack (k : List (Code × Pos) → Sem Fin) (_ : List (Code × Pos) → Mn) : Mn := fun rec T n t code pos stack =>
  rec T n t (k ((code, pos) :: stack.map Frame.where_)) code pos stack
def turn (cur : Sem Fin) : Mn := @Sem.rec Fin (fun _ => Mn) (mPure den) mRaise (fun _ => mNo) (fun _ => mNo) mRule mAt mLoad (mUpd n₀ ann) mAlloc mLia mPoint (fun _ _ _ => mNo) mFresh (mAsk st) (fun _ _ _ _ => mNo) (fun _ _ _ _ => mNo)
  (mCall den) (fun _ _ _ => mNo) (fun _ _ _ => mNo) (fun _ _ _ => mNo) (fun _ _ _ _ _ => mNo) (fun _ _ _ _ _ => mNo) mStack (fun _ _ _ => mNo) (fun _ _ => mNo) (fun _ _ _ _ _ _ => mNo) cur
def segL (m : Nat) : Go := @Nat.rec (fun _ => Go) (fun _ _ _ _ _ _ _ => none) (fun _ ih T n k cur code pos stack => turn den st n₀ ann cur ih T n k code pos stack) m
end
section
variable {tb : String → Option Builtin} {p : Program} {w : World} {n₀ : Nat} {ann : Option Value} {life : Life} {gens : Array GenState} {drawn : Drawn} {os : OsState}
/-- one step, not at the block's end, is the library's -/
def Stp (tb : String → Option Builtin) (p : Program) (w : World) (n₀ : Nat) (ann : Option Value) (life : Life) (gens : Array GenState) (drawn : Drawn) (os : OsState) (m : Nat) (T : PySem.W.BT) (n k : Nat) (cur : Sem PySem.Fin) (code : Code) (pos : Pos) (stack : List Frame) (x : PySem.W.BT × Nat × Nat × Code × Pos) : Prop :=
  segRunT tb p w n₀ ann 1 m ⟨T, n, life, gens, drawn, k, os⟩ ⟨cur, code, pos, stack⟩ = some (.next, ⟨x.1, x.2.1, life, gens, drawn, x.2.2.1, os⟩, x.2.2.2.1, x.2.2.2.2)
theorem go1 {m : Nat} {T T' : PySem.W.BT} {n k n' k' : Nat} {cur cur' : Sem PySem.Fin} {code code' : Code} {pos pos' : Pos} {stack stack' : List Frame} {x : PySem.W.BT × Nat × Nat × Code × Pos}
    (he : endAt 1 ⟨cur, code, pos, stack⟩ = none) (hk : stepOk n₀ ann ⟨cur, code, pos, stack⟩ = true)
    (hs : stepT (denote tb) p w ⟨T, n, life, gens, drawn, k, os⟩ ⟨cur, code, pos, stack⟩ = some (⟨T', n', life, gens, drawn, k', os⟩, ⟨cur', code', pos', stack'⟩))
    (h : Stp tb p w n₀ ann life gens drawn os m T' n' k' cur' code' pos' stack' x) : Stp tb p w n₀ ann life gens drawn os (m + 1) T n k cur code pos stack x := by
  unfold Stp segRunT
  rw [he, hk, hs]
  exact h
theorem segL_ok : ∀ {m : Nat} {T : PySem.W.BT} {n k : Nat} {cur : Sem PySem.Fin} {code : Code} {pos : Pos} {stack : List Frame} {x}, segL (denote tb) ⟨p, w.params⟩ n₀ ann m T n k cur code pos stack = some x → Stp tb p w n₀ ann life gens drawn os m T n k cur code pos stack x
  | 0, _, _, _, _, _, _, _, _, h => by cases h
  | m + 1, T, n, k, cur, code, pos, stack, x, h => by
    have h1 : turn (denote tb) ⟨p, w.params⟩ n₀ ann cur (segL (denote tb) ⟨p, w.params⟩ n₀ ann m) T n k code pos stack = some x := h
    cases cur with
    | pure y =>
      cases y with
      | again c =>
        obtain ⟨h2, h3⟩ := onB_some (show onB (farC c) (segL (denote tb) ⟨p, w.params⟩ n₀ ann m T n k (denote tb c) c pos (stackOf code c stack)) = some x from h1)
        refine go1 (by unfold endAt; cases h : stack.length == 1 <;> rfl) ?_ rfl (segL_ok h3)
        show ((!Thread.atCollectorCode ⟨.pure (.again c), code, pos, stack⟩ || Thread.atExit ⟨.pure (.again c), code, pos, stack⟩) && !false && true && true) = true
        have q : Thread.atCollectorCode ⟨.pure (.again c), code, pos, stack⟩ = false := by
          cases c <;> first | rfl | exact farId_ok h2
        rw [q]
        rfl
      | done f =>
        cases stack with
        | nil => cases h1
        | cons fr rest =>
          cases rest with
          | nil =>
            obtain ⟨h2, h3⟩ := onB_some (show onB (isNext f) (some (T, n, k, code, pos)) = some x from h1)
            cases h3
            cases f <;> first | rfl | cases h2
          | cons fr2 rest =>
            cases fr with
            | ret kk a b c d e g => exact go1 rfl rfl rfl (segL_ok h1)
            | gen => cases h1
    | raise e =>
      cases stack with
      | nil => cases h1
      | cons fr rest =>
        cases fr with
        | ret kk a b c d e g => exact go1 (by unfold endAt; cases h : (Frame.ret kk a b c d e g :: rest).length == 1 <;> rfl) rfl rfl (segL_ok h1)
        | gen => cases h1
    | rule t kk => exact go1 (by unfold endAt; cases h : stack.length == 1 <;> rfl) rfl rfl (segL_ok h1)
    | «at» q kk => exact go1 (by unfold endAt; cases h : stack.length == 1 <;> rfl) rfl rfl (segL_ok h1)
    | point l kk => exact go1 (by unfold endAt; cases h : stack.length == 1 <;> rfl) rfl rfl (segL_ok h1)
    | ask kk => exact go1 (by unfold endAt; cases h : stack.length == 1 <;> rfl) rfl rfl (segL_ok h1)
    | fresh kk => exact go1 (by unfold endAt; cases h : stack.length == 1 <;> rfl) rfl rfl (segL_ok (by rw [← frN_eq (k + 1) fun t' => segL (denote tb) ⟨p, w.params⟩ n₀ ann m T n t' (kk k) code pos stack]; exact h1))
    | call c a b l kk => exact go1 (by unfold endAt; cases h : stack.length == 1 <;> rfl) rfl rfl (segL_ok h1)
    | stack kk => exact go1 (by unfold endAt; cases h : stack.length == 1 <;> rfl) rfl rfl (segL_ok h1)
    | load a q kk =>
      obtain ⟨h2, h3⟩ := onB_some (show onB (Nat.blt a n) _ = some x from h1)
      obtain ⟨o, h4, h5⟩ := onO_some h3
      obtain ⟨h6, h7⟩ := onB_some h5
      refine go1 (T' := T) (n' := n) (k' := k) (by unfold endAt; cases h : stack.length == 1 <;> rfl) rfl ?_ (segL_ok h7)
      simp only [stepT, h2, h4, liveB_ok h6]
    | update a q f kk =>
      obtain ⟨h0, h1⟩ := onB_some (show onB (updF n₀ ann a) _ = some x from h1)
      obtain ⟨h2, h3⟩ := onB_some h1
      obtain ⟨o, h4, h5⟩ := onO_some h3
      obtain ⟨h6, h7⟩ := onB_some h5
      refine go1 (T' := T.set a f) (n' := n) (k' := k) (by unfold endAt; cases h : stack.length == 1 <;> rfl) (updF_ok h0) ?_ (segL_ok h7)
      simp only [stepT, h2, h4, liveB_ok h6]
    | alloc o kk =>
      obtain ⟨h2, h3⟩ := onB_some (show onB (isSo ((T.ins n o).get n)) _ = some x from h1)
      have h4 : ((T.ins n o).get n).isSome = true := by
        cases e : (T.ins n o).get n with
        | none => rw [e] at h2; cases h2
        | some y => rfl
      rw [frN_eq] at h3
      refine go1 (T' := T.ins n o) (n' := n + 1) (k' := k) (by unfold endAt; cases h : stack.length == 1 <;> rfl) rfl ?_ (segL_ok h3)
      simp only [stepT, h4]
    | loadIfAlive a kk =>
      have h2 : @Bool.rec (fun _ => Res) (segL (denote tb) ⟨p, w.params⟩ n₀ ann m T n k (kk none) code pos stack) (onO (T.get a) fun o => onB (liveB o) (segL (denote tb) ⟨p, w.params⟩ n₀ ann m T n k (kk (some o)) code pos stack)) (Nat.blt a n) = some x := h1
      cases e : Nat.blt a n with
      | false =>
        rw [e] at h2
        refine go1 (T' := T) (n' := n) (k' := k) (by unfold endAt; cases h : stack.length == 1 <;> rfl) rfl ?_ (segL_ok h2)
        simp only [stepT, e]
      | true =>
        rw [e] at h2
        obtain ⟨o, h4, h5⟩ := onO_some h2
        obtain ⟨h6, h7⟩ := onB_some h5
        refine go1 (T' := T) (n' := n) (k' := k) (by unfold endAt; cases h : stack.length == 1 <;> rfl) rfl ?_ (segL_ok h7)
        simp only [stepT, e, h4, liveB_ok h6]
    | unsupported _ => cases h1
    | finish _ => cases h1
    | register _ _ => cases h1
    | choose _ _ _ => cases h1
    | os _ _ _ => cases h1
    | handled _ _ => cases h1
    | newGen _ _ => cases h1
    | genState _ _ => cases h1
    | resume _ _ _ _ => cases h1
    | yield _ _ _ _ => cases h1
    | fork _ _ => cases h1
    | thread _ => cases h1
    | await _ _ _ _ _ => cases h1
end
end HdM

end
noncomputable section
namespace HdM
open PySem PySem.W PySem.Calls PyProof.Rows HandSHeadRun
abbrev execsQ : List Stmt → Env → Sem Flow := PySem.W.Fast.tw12563942051412417395
theorem execsQ_eq : @PySem.execs = execsQ := PySem.W.Fast.te12563942051412417395
/-- the statements' run, ending the block -/
def wrapB (x : Sem Flow) : Sem PySem.Fin := @Sem.rec Flow (fun _ => Sem PySem.Fin) (fun f => .pure (.done f)) deadEnd .unsupported .finish (fun t _ ih => .rule t ih) (fun q _ ih => .at q ih) (fun a q _ ih => .load a q ih) (fun a q f _ ih => .update a q f ih) (fun o _ ih => .alloc o ih)
  (fun a _ ih => .loadIfAlive a ih) (fun l _ ih => .point l ih) (fun a _ ih => .register a ih) (fun _ ih => .fresh ih) (fun _ ih => .ask ih) (fun s n _ ih => .choose s n ih) (fun q l _ ih => .os q l ih) (fun c h g l _ ih => .call c h g l ih) (fun o _ ih => .handled o ih)
  (fun c _ ih => .newGen c ih) (fun g _ ih => .genState g ih) (fun g r l _ ih => .resume g r l ih) (fun v g l _ ih => .yield v g l ih) (fun _ ih => .stack ih) (fun c _ ih => .fork c ih) (fun _ ih => .thread ih) (fun a t d l _ ih => .await a t d l ih) x
theorem wrapB_eq : ∀ x : Sem Flow, x.wrap doneF deadEnd id id = wrapB x := by
  intro x
  induction x with
  | pure a => rfl
  | raise e => rfl
  | unsupported w => rfl
  | finish e => rfl
  | rule t k ih => exact congrArg (Sem.rule t) (funext ih)
  | «at» p k ih => exact congrArg (Sem.«at» p) (funext ih)
  | load a p k ih => exact congrArg (Sem.load a p) (funext ih)
  | update a p f k ih => exact congrArg (Sem.update a p f) (funext ih)
  | alloc o k ih => exact congrArg (Sem.alloc o) (funext ih)
  | loadIfAlive a k ih => exact congrArg (Sem.loadIfAlive a) (funext ih)
  | point l k ih => exact congrArg (Sem.point l) (funext ih)
  | register a k ih => exact congrArg (Sem.register a) (funext ih)
  | fresh k ih => exact congrArg Sem.fresh (funext ih)
  | ask k ih => exact congrArg Sem.ask (funext ih)
  | choose s n k ih => exact congrArg (Sem.choose s n) (funext ih)
  | os q l k ih => exact congrArg (Sem.os q l) (funext ih)
  | call c h g l k ih => exact congrArg (Sem.call c h g l) (funext ih)
  | handled o k ih => exact congrArg (Sem.handled o) (funext ih)
  | newGen c k ih => exact congrArg (Sem.newGen c) (funext ih)
  | genState g k ih => exact congrArg (Sem.genState g) (funext ih)
  | resume g r l k ih => exact congrArg (Sem.resume g r l) (funext ih)
  | yield v g l k ih => exact congrArg (Sem.yield v g l) (funext ih)
  | stack k ih => exact congrArg Sem.stack (funext ih)
  | fork c k ih => exact congrArg (Sem.fork c) (funext ih)
  | thread k ih => exact congrArg Sem.thread (funext ih)
  | await a t d l k ih => exact congrArg (Sem.await a t d l) (funext ih)
/-- a stretch of the top's statements, from a laid-out state to one -/
theorem piece {tb : String → Option Builtin} {p : Program} {w : World} {n₀ : Nat} {ann : Option Value} {life : Life} {gens : Array GenState} {drawn : Drawn} {os : OsState} {m n k n' k' : Nat} {T T' : PySem.W.BT} {l : List Stmt} {env : Env} {c : Code} {pos pos' q : Pos}
    (h : segL (denote tb) ⟨p, w.params⟩ n₀ ann m T n k (wrapB (execsQ l env)) c pos [topFrame q] = some (T', n', k', c, pos')) :
    segRun tb p w n₀ ann 1 m ⟨absHeap T n life, gens, drawn, k, os⟩ (piecesOf l env c pos [topFrame q]) = some (.next, ⟨absHeap T' n' life, gens, drawn, k', os⟩, c, pos') := by
  have z := segRun_of (segL_ok (life := life) (gens := gens) (drawn := drawn) (os := os) h)
  rw [← wrapB_eq, ← execsQ_eq] at z
  exact z
end HdM

end
noncomputable section
namespace S11
open PySem PySem.W PySem.Calls PyProof.Rows HandSHeadRun HdM
abbrev prog : Program := PySem.Challenge.pw_bindertongue_k11_desks_unbound_and_twins
abbrev S (x : String) : Str := Str.ofString x
def kh (p : Params) (s : Str) : Int := @Bool.rec (fun _ => Int) (reduceHash (p.strHash s.cps)) 0 s.cps.isEmpty
def en (p : Params) (x : Str) (t : Nat) (v : Value) : DictEntry := ⟨kh p x, .str x t, v⟩
def top (i : Nat) : Stmt := prog.main.body.getD i (.Pass ⟨0, 0, 0, 0⟩)
def inC (i j : Nat) : Stmt := match top i with
  | .ClassDef _ _ _ b _ _ _ _ _ _ _ => b.getD j (.Pass ⟨0, 0, 0, 0⟩)
  | _ => .Pass ⟨0, 0, 0, 0⟩
def sArgs : Stmt → Arguments
  | .FunctionDef _ a _ _ _ _ _ _ _ _ => a
  | _ => ⟨[], [], none, [], [], none, []⟩
def sBody : Stmt → List Stmt
  | .FunctionDef _ _ b _ _ _ _ _ _ _ => b
  | _ => []
def sScope : Stmt → Scope
  | .FunctionDef _ _ _ _ _ _ s _ _ _ => s
  | _ => ⟨.function, [], false, false, []⟩
def fD (s : Stmt) (nm qn : Str) (g : Addr) (clo : List (Str × Addr)) (dfl kwd doc mod : Value) (ann : Option Addr) (code ct : Value) (blt : Addr) : Data := .func ⟨nm, qn, sArgs s, .stmts (sBody s), sScope s, g, clo, dfl, kwd, doc, mod, ann, code, ct, blt⟩
abbrev N : Obj → PySem.W.BT → PySem.W.BT → PySem.W.BT := PySem.W.BT.node
abbrev L : PySem.W.BT := .nil
abbrev N1 (o : Obj) : PySem.W.BT := .node o .nil .nil
def o0 (p : Params) : Obj := ⟨(.type "dict"), none, (.dict #[en p (S "__name__") 1 (.str (S "builtins") 160), en p (S "__doc__") 2 (.builtin "builtins.__doc__:str#opaque"), en p (S "__package__") 3 (.builtin "builtins.__package__:str#opaque"), en p (S "__loader__") 4 (.builtin "builtins.__loader__:shared#opaque"), en p (S "__spec__") 5 (.builtin "builtins.__spec__#opaque"), en p (S "__build_class__") 6 (.builtin "__build_class__"), en p (S "__import__") 7 (.builtin "__import__"), en p (S "abs") 8 (.builtin "abs"), en p (S "all") 9 (.builtin "all"), en p (S "any") 10 (.builtin "any"), en p (S "ascii") 11 (.builtin "ascii"), en p (S "bin") 12 (.builtin "bin"), en p (S "breakpoint") 13 (.builtin "breakpoint"), en p (S "callable") 14 (.builtin "callable"), en p (S "chr") 15 (.builtin "chr"), en p (S "compile") 16 (.builtin "compile"), en p (S "delattr") 17 (.builtin "delattr"), en p (S "dir") 18 (.builtin "dir"), en p (S "divmod") 19 (.builtin "divmod"), en p (S "eval") 20 (.builtin "eval"), en p (S "exec") 21 (.builtin "exec"), en p (S "format") 22 (.builtin "format"), en p (S "getattr") 23 (.builtin "getattr"), en p (S "globals") 24 (.builtin "globals"), en p (S "hasattr") 25 (.builtin "hasattr"), en p (S "hash") 26 (.builtin "hash"), en p (S "hex") 27 (.builtin "hex"), en p (S "id") 28 (.builtin "id"), en p (S "input") 29 (.builtin "input"), en p (S "isinstance") 30 (.builtin "isinstance"), en p (S "issubclass") 31 (.builtin "issubclass"), en p (S "iter") 32 (.builtin "iter"), en p (S "aiter") 33 (.builtin "aiter"), en p (S "len") 34 (.builtin "len"), en p (S "locals") 35 (.builtin "locals"), en p (S "max") 36 (.builtin "max"), en p (S "min") 37 (.builtin "min"), en p (S "next") 38 (.builtin "next"), en p (S "anext") 39 (.builtin "anext"), en p (S "oct") 40 (.builtin "oct"), en p (S "ord") 41 (.builtin "ord"), en p (S "pow") 42 (.builtin "pow"), en p (S "print") 43 (.builtin "print"), en p (S "repr") 44 (.builtin "repr"), en p (S "round") 45 (.builtin "round"), en p (S "setattr") 46 (.builtin "setattr"), en p (S "sorted") 47 (.builtin "sorted"), en p (S "sum") 48 (.builtin "sum"), en p (S "vars") 49 (.builtin "vars"), en p (S "None") 50 .none, en p (S "Ellipsis") 51 .ellipsis, en p (S "NotImplemented") 52 .notImplemented, en p (S "False") 53 (.bool false), en p (S "True") 54 (.bool true), en p (S "bool") 55 (.type "bool"), en p (S "memoryview") 56 (.type "memoryview"), en p (S "bytearray") 57 (.type "bytearray"), en p (S "bytes") 58 (.type "bytes"), en p (S "classmethod") 59 (.type "classmethod"), en p (S "complex") 60 (.type "complex"), en p (S "dict") 61 (.type "dict"), en p (S "enumerate") 62 (.type "enumerate"), en p (S "filter") 63 (.type "filter"), en p (S "float") 64 (.type "float"), en p (S "frozenset") 65 (.type "frozenset"), en p (S "property") 66 (.type "property"), en p (S "int") 67 (.type "int"), en p (S "list") 68 (.type "list"), en p (S "map") 69 (.type "map"), en p (S "object") 70 (.type "object"), en p (S "range") 71 (.type "range"), en p (S "reversed") 72 (.type "reversed"), en p (S "set") 73 (.type "set"), en p (S "slice") 74 (.type "slice"), en p (S "staticmethod") 75 (.type "staticmethod"), en p (S "str") 76 (.type "str"), en p (S "super") 77 (.type "super"), en p (S "tuple") 78 (.type "tuple"), en p (S "type") 79 (.type "type"), en p (S "zip") 80 (.type "zip"), en p (S "__debug__") 81 (.bool true), en p (S "BaseException") 82 (.type "BaseException"), en p (S "BaseExceptionGroup") 83 (.type "BaseExceptionGroup"), en p (S "Exception") 84 (.type "Exception"), en p (S "GeneratorExit") 85 (.type "GeneratorExit"), en p (S "KeyboardInterrupt") 86 (.type "KeyboardInterrupt"), en p (S "SystemExit") 87 (.type "SystemExit"), en p (S "ArithmeticError") 88 (.type "ArithmeticError"), en p (S "AssertionError") 89 (.type "AssertionError"), en p (S "AttributeError") 90 (.type "AttributeError"), en p (S "BufferError") 91 (.type "BufferError"), en p (S "EOFError") 92 (.type "EOFError"), en p (S "ImportError") 93 (.type "ImportError"), en p (S "LookupError") 94 (.type "LookupError"), en p (S "MemoryError") 95 (.type "MemoryError"), en p (S "NameError") 96 (.type "NameError"), en p (S "OSError") 97 (.type "OSError"), en p (S "ReferenceError") 98 (.type "ReferenceError"), en p (S "RuntimeError") 99 (.type "RuntimeError"), en p (S "StopAsyncIteration") 100 (.type "StopAsyncIteration"), en p (S "StopIteration") 101 (.type "StopIteration"), en p (S "SyntaxError") 102 (.type "SyntaxError"), en p (S "SystemError") 103 (.type "SystemError"), en p (S "TypeError") 104 (.type "TypeError"), en p (S "ValueError") 105 (.type "ValueError"), en p (S "Warning") 106 (.type "Warning"), en p (S "FloatingPointError") 107 (.type "FloatingPointError"), en p (S "OverflowError") 108 (.type "OverflowError"), en p (S "ZeroDivisionError") 109 (.type "ZeroDivisionError"), en p (S "BytesWarning") 110 (.type "BytesWarning"), en p (S "DeprecationWarning") 111 (.type "DeprecationWarning"), en p (S "EncodingWarning") 112 (.type "EncodingWarning"), en p (S "FutureWarning") 113 (.type "FutureWarning"), en p (S "ImportWarning") 114 (.type "ImportWarning"), en p (S "PendingDeprecationWarning") 115 (.type "PendingDeprecationWarning"), en p (S "ResourceWarning") 116 (.type "ResourceWarning"), en p (S "RuntimeWarning") 117 (.type "RuntimeWarning"), en p (S "SyntaxWarning") 118 (.type "SyntaxWarning"), en p (S "UnicodeWarning") 119 (.type "UnicodeWarning"), en p (S "UserWarning") 120 (.type "UserWarning"), en p (S "BlockingIOError") 121 (.type "BlockingIOError"), en p (S "ChildProcessError") 122 (.type "ChildProcessError"), en p (S "ConnectionError") 123 (.type "ConnectionError"), en p (S "FileExistsError") 124 (.type "FileExistsError"), en p (S "FileNotFoundError") 125 (.type "FileNotFoundError"), en p (S "InterruptedError") 126 (.type "InterruptedError"), en p (S "IsADirectoryError") 127 (.type "IsADirectoryError"), en p (S "NotADirectoryError") 128 (.type "NotADirectoryError"), en p (S "PermissionError") 129 (.type "PermissionError"), en p (S "ProcessLookupError") 130 (.type "ProcessLookupError"), en p (S "TimeoutError") 131 (.type "TimeoutError"), en p (S "IndentationError") 132 (.type "IndentationError"), en p (S "_IncompleteInputError") 133 (.type "_IncompleteInputError"), en p (S "IndexError") 134 (.type "IndexError"), en p (S "KeyError") 135 (.type "KeyError"), en p (S "ModuleNotFoundError") 136 (.type "ModuleNotFoundError"), en p (S "NotImplementedError") 137 (.type "NotImplementedError"), en p (S "PythonFinalizationError") 138 (.type "PythonFinalizationError"), en p (S "RecursionError") 139 (.type "RecursionError"), en p (S "UnboundLocalError") 140 (.type "UnboundLocalError"), en p (S "UnicodeError") 141 (.type "UnicodeError"), en p (S "BrokenPipeError") 142 (.type "BrokenPipeError"), en p (S "ConnectionAbortedError") 143 (.type "ConnectionAbortedError"), en p (S "ConnectionRefusedError") 144 (.type "ConnectionRefusedError"), en p (S "ConnectionResetError") 145 (.type "ConnectionResetError"), en p (S "TabError") 146 (.type "TabError"), en p (S "UnicodeDecodeError") 147 (.type "UnicodeDecodeError"), en p (S "UnicodeEncodeError") 148 (.type "UnicodeEncodeError"), en p (S "UnicodeTranslateError") 149 (.type "UnicodeTranslateError"), en p (S "ExceptionGroup") 150 (.type "ExceptionGroup"), en p (S "EnvironmentError") 151 (.type "OSError"), en p (S "IOError") 152 (.type "OSError"), en p (S "open") 153 (.builtin "open"), en p (S "quit") 154 (.builtin "builtins.quit#opaque"), en p (S "exit") 155 (.builtin "builtins.exit#opaque"), en p (S "copyright") 156 (.builtin "builtins.copyright#opaque"), en p (S "credits") 157 (.builtin "builtins.credits#opaque"), en p (S "license") 158 (.builtin "builtins.license#opaque"), en p (S "help") 159 (.builtin "builtins.help#opaque")] 159), #[]⟩
def o1 (p : Params) : Obj := ⟨(.type "dict"), none, (.dict #[en p (S "builtins") 162 (.ref 4), en p (S "__main__") 163 (.ref 5)] 2), #[]⟩
def o2 : Obj := ⟨.none, none, (.dict #[] 0), #[]⟩
def o3 (p : Params) : Obj := ⟨(.type "dict"), none, (.dict #[en p (S "__name__") 165 (.str (S "__main__") 164), en p (S "__doc__") 166 .none, en p (S "__package__") 167 .none, en p (S "__loader__") 168 (.builtin "__main__.__loader__#opaque"), en p (S "__spec__") 169 .none, en p (S "__annotations__") 170 (.ref 6), en p (S "__builtins__") 171 (.ref 4), en p (S "__file__") 173 (.str (S "/claim/cut.py") 172), en p (S "__cached__") 174 .none] 9), #[]⟩
def o4 : Obj := ⟨(.type "module"), (some 0), .plain, #[]⟩
def o5 : Obj := ⟨(.type "module"), (some 3), .plain, #[]⟩
def o6 : Obj := ⟨(.type "dict"), none, (.dict #[] 0), #[]⟩
def o7 : Obj := ⟨(.type "tuple"), none, (.seq #[] 0), #[]⟩
def o8 : Obj := ⟨.none, none, (.fields #[]), #[]⟩
def o9 : Obj := ⟨(.type "code"), none, (.fields #[(.str (S "<module>") 176), (.str (S "<module>") 177), (.str (S "/claim/cut.py") 178), (.int 1 0), (.int 0 0), (.int 0 0), (.int 0 0), (.int 0 0), (.ref 7), (.bool false), (.int 175 0), (.ref 8), .none, .none, .none, .none, (.int 179 0), (.int 1 0), (.str (S "/claim/cut.py") 180)]), #[]⟩
def o10 : Obj := ⟨(.type "frame"), none, .plain, #[(some (.ref 9)), (some (.ref 3)), (some (.ref 3)), none, (some (.str (S "__main__") 164)), none, (some (.ref 0))]⟩
def o11 : Obj := ⟨(.type "tuple"), none, (.seq #[] 0), #[]⟩
def o12 : Obj := ⟨.none, none, (.fields #[]), #[]⟩
def o13 : Obj := ⟨(.type "code"), none, (.fields #[(.str (S "<module>") 182), (.str (S "<module>") 183), (.str (S "/claim/cut.py") 184), (.int 1 0), (.int 0 0), (.int 0 0), (.int 0 0), (.int 0 0), (.ref 11), (.bool false), (.int 181 0), (.ref 12), .none, .none, .none, .none, (.int 185 0), (.int 1 0), (.str (S "/claim/cut.py") 186)]), #[]⟩
def o14 : Obj := ⟨(.type "frame"), none, .plain, #[(some (.ref 13)), (some (.ref 3)), (some (.ref 3)), none, (some (.str (S "__main__") 164)), none, (some (.ref 0))]⟩
def T0_0 (p : Params) : PySem.W.BT := N (o3 p) (N1 o7) (N1 o11)
def T0_1 (p : Params) : PySem.W.BT := N o5 (N1 o9) (N1 o13)
def T0_2 (p : Params) : PySem.W.BT := N o4 (N1 o8) (N1 o12)
def T0_3 (p : Params) : PySem.W.BT := N o6 (N1 o10) (N1 o14)
def T0 (p : Params) : PySem.W.BT := N (o0 p) (N (o1 p) (T0_0 p) (T0_1 p)) (N o2 (T0_2 p) (T0_3 p))
def T1_0 (p : Params) : PySem.W.BT := N (o3 p) (N1 o7) (N1 o11)
def T1_1 (p : Params) : PySem.W.BT := N o5 (N1 o9) (N1 o13)
def T1_2 (p : Params) : PySem.W.BT := N o4 (N1 o8) (N1 o12)
def T1_3 (p : Params) : PySem.W.BT := N o6 (N1 o10) (N1 o14)
def T1 (p : Params) : PySem.W.BT := N (o0 p) (N (o1 p) (T1_0 p) (T1_1 p)) (N o2 (T1_2 p) (T1_3 p))
def o2_2 (p : Params) : Obj := ⟨.none, none, (.dict #[en p (S "type.__subclasses__.Exception.0") 212 (.int 31 0), en p (S "type.__subclasses__.Exception.n") 213 (.int 1 0)] 2), #[]⟩
def o3_2 (p : Params) : Obj := ⟨(.type "dict"), none, (.dict #[en p (S "__name__") 165 (.str (S "bindertongue.bodywork") 862), en p (S "__doc__") 166 .none, en p (S "__package__") 167 .none, en p (S "__loader__") 168 (.builtin "__main__.__loader__#opaque"), en p (S "__spec__") 169 .none, en p (S "__annotations__") 170 (.ref 6), en p (S "__builtins__") 171 (.ref 4), en p (S "__file__") 173 (.str (S "/claim/cut.py") 172), en p (S "__cached__") 174 .none, en p (S "_wall") 193 (.ref 21), en p (S "BinderError") 215 (.ref 31), en p (S "Barred") 242 (.ref 53), en p (S "InvalidDeed") 269 (.ref 74), en p (S "TooWide") 285 (.ref 86), en p (S "InvalidText") 312 (.ref 107), en p (S "is_whole") 321 (.ref 116), en p (S "is_number") 328 (.ref 123), en p (S "is_string") 335 (.ref 130), en p (S "is_tuple_of") 343 (.ref 137), en p (S "LANGUAGE") 372 (.ref 138), en p (S "LETTERS") 374 (.str (S "abcdefghijklmnopqrstuvwxyz") 373), en p (S "MOST_LETTERS") 376 (.int 6 375), en p (S "HANDED") 378 (.str (S "x") 377), en p (S "PART_WORDS") 382 (.ref 139), en p (S "OPENED_WORDS") 386 (.ref 140), en p (S "NOT_GIVEN") 394 (.ref 141), en p (S "is_name") 400 (.ref 146), en p (S "word_told") 409 (.ref 153), en p (S "Words") 446 (.ref 175), en p (S "ASKS") 454 (.ref 180), en p (S "FREE") 456 (.str (S "free") 455), en p (S "NAME") 458 (.str (S "name") 457), en p (S "UNDER") 460 (.str (S "under") 459), en p (S "standard_pattern") 470 (.ref 187), en p (S "Lookup") 578 (.ref 263), en p (S "ends_in") 588 (.ref 274), en p (S "MOST_MAKERS") 592 (.int 1000 591), en p (S "MOST_DEEP") 594 (.int 50 593), en p (S "maker_of") 602 (.ref 281), en p (S "parts_asked") 613 (.ref 288), en p (S "is_tree_by") 619 (.ref 293), en p (S "branches_of") 631 (.ref 300), en p (S "own_names") 637 (.ref 305), en p (S "free_by") 643 (.ref 310), en p (S "renamed") 657 (.ref 317), en p (S "clear_by") 667 (.ref 324), en p (S "NEW_judgework") 671 (.str (S "new") 670), en p (S "Spot") 721 (.ref 348), en p (S "spot_of") 730 (.ref 359), en p (S "Case") 760 (.ref 374), en p (S "Answers") 851 (.ref 437), en p (S "says_by") 861 (.ref 448), en p (S "NEW_bodywork") 865 (.ref 449), en p (S "translated") 871 (.ref 454), en p (S "Node") 905 (.ref 471), en p (S "root_node") 917 (.ref 482)] 56), #[]⟩
def o12_2 : Obj := ⟨.none, none, (.fields #[(.int 1 0), (.int 0 0), (.ref 20), (.int 5 0), (.int 0 0), (.ref 27), (.int 7 0), (.int 0 0), (.ref 41), (.int 12 0), (.int 0 0), (.ref 62), (.int 17 0), (.int 0 0), (.ref 82), (.int 19 0), (.int 0 0), (.ref 95), (.int 25 0), (.int 0 0), (.ref 115), (.int 27 0), (.int 0 0), (.ref 122), (.int 29 0), (.int 0 0), (.ref 129), (.int 31 0), (.int 0 0), (.ref 136), (.int 41 0), (.int 0 0), (.ref 145), (.int 45 0), (.int 0 0), (.ref 152), (.int 50 0), (.int 0 0), (.ref 159), (.int 69 0), (.int 0 0), (.ref 186), (.int 74 0), (.int 0 0), (.ref 193), (.int 123 0), (.int 0 0), (.ref 273), (.int 135 0), (.int 0 0), (.ref 280), (.int 141 0), (.int 0 0), (.ref 287), (.int 154 0), (.int 0 0), (.ref 292), (.int 168 0), (.int 0 0), (.ref 299), (.int 176 0), (.int 0 0), (.ref 304), (.int 179 0), (.int 0 0), (.ref 309), (.int 188 0), (.int 0 0), (.ref 316), (.int 199 0), (.int 0 0), (.ref 323), (.int 203 0), (.int 0 0), (.ref 330), (.int 226 0), (.int 0 0), (.ref 358), (.int 228 0), (.int 0 0), (.ref 365), (.int 245 0), (.int 0 0), (.ref 384), (.int 287 0), (.int 0 0), (.ref 447), (.int 291 0), (.int 0 0), (.ref 453), (.int 302 0), (.int 0 0), (.ref 460), (.int 310 0), (.int 0 0), (.ref 481)]), #[]⟩
def o15 : Obj := ⟨(.type "tuple"), none, (.seq #[] 0), #[]⟩
def o16 : Obj := ⟨.none, none, (.fields #[]), #[]⟩
def o17 : Obj := ⟨(.type "tuple"), none, (.seq #[(.str (S "k") 190)] 0), #[]⟩
def o18 : Obj := ⟨(.type "tuple"), none, (.seq #[] 0), #[]⟩
def o19 : Obj := ⟨.none, none, (fD (top 0) (S "_wall") (S "_wall") 0 [] .none .none .none .none none .none .none 0), #[]⟩
def o20 : Obj := ⟨(.type "code"), none, (.fields #[(.str (S "_wall") 187), (.str (S "_wall") 188), (.str (S "/claim/cut.py") 189), (.int 1 0), (.int 1 0), (.int 0 0), (.int 0 0), (.int 3 0), (.ref 15), (.bool true), (.int 181 0), (.ref 16), .none, (.ref 17), (.ref 18), (.ref 19), (.int 191 0), (.int 1 0), (.str (S "/claim/cut.py") 192)]), #[]⟩
def o21 : Obj := ⟨(.type "function"), none, (fD (top 0) (S "_wall") (S "_wall") 3 [] .none .none .none (.str (S "__main__") 164) none (.ref 20) .none 0), #[]⟩
def o22 : Obj := ⟨(.type "tuple"), none, (.seq #[(.type "Exception")] 0), #[]⟩
def o23 : Obj := ⟨(.type "builtin_function_or_method"), none, (.fields #[(.builtin "type.__prepare__"), (.type "type")]), #[]⟩
def o24 (p : Params) : Obj := ⟨(.type "dict"), none, (.dict #[en p (S "__module__") 203 (.str (S "bindertongue.errors") 194), en p (S "__qualname__") 205 (.str (S "BinderError") 204), en p (S "__firstlineno__") 207 (.int 5 206), en p (S "__static_attributes__") 208 (.ref 29)] 4), #[]⟩
def o25 : Obj := ⟨(.type "tuple"), none, (.seq #[] 0), #[]⟩
def o26 : Obj := ⟨.none, none, (.fields #[]), #[]⟩
def o27 : Obj := ⟨(.type "code"), none, (.fields #[(.str (S "BinderError") 198), (.str (S "BinderError") 199), (.str (S "/claim/cut.py") 200), (.int 5 0), (.int 0 0), (.int 0 0), (.int 0 0), (.int 0 0), (.ref 25), (.bool false), (.int 181 0), (.ref 26), .none, .none, .none, .none, (.int 201 0), (.int 5 0), (.str (S "/claim/cut.py") 202)]), #[]⟩
def o28 : Obj := ⟨(.type "frame"), none, .plain, #[(some (.ref 27)), (some (.ref 3)), (some (.ref 24)), none, (some (.str (S "bindertongue.errors") 194)), none, (some (.ref 0))]⟩
def o29 : Obj := ⟨(.type "tuple"), none, (.seq #[] 0), #[]⟩
def o30 (p : Params) : Obj := ⟨(.type "dict"), none, (.dict #[en p (S "__module__") 203 (.str (S "bindertongue.errors") 194), en p (S "__firstlineno__") 207 (.int 5 206), en p (S "__static_attributes__") 208 (.ref 29), en p (S "__weakref__") 210 (.ref 32), en p (S "__doc__") 211 .none] 3), #[]⟩
def o31 : Obj := ⟨(.type "type"), none, (.cls ⟨(S "BinderError"), [(.type "Exception")], [(.ref 31), (.type "Exception"), (.type "BaseException"), (.type "object")], 30, (S "BinderError"), true, [], [(.ref 53), (.ref 74), (.ref 86), (.ref 107)], false, none, false⟩), #[(some (.ref 22)), none, (some (.str (S "BinderError") 196)), (some (.str (S "BinderError") 204)), (some (.builtin "Exception.__new__")), (some (.bool true))]⟩
def o32 : Obj := ⟨(.type "getset_descriptor"), none, (.fields #[(.str (S "__weakref__") 209), (.ref 31), (.builtin "ExceptionGroup.__weakref__"), .none]), #[]⟩
def o33 : Obj := ⟨(.type "super"), none, (.fields #[(.ref 31), (.ref 31), (.ref 31)]), #[]⟩
def o34 : Obj := ⟨(.type "builtin_function_or_method"), none, (.fields #[(.builtin "object.__init_subclass__"), (.ref 31)]), #[]⟩
def o35 : Obj := ⟨(.type "tuple"), none, (.seq #[(.ref 31)] 0), #[]⟩
def o36 : Obj := ⟨(.type "builtin_function_or_method"), none, (.fields #[(.builtin "type.__prepare__"), (.type "type")]), #[]⟩
def o37 (p : Params) : Obj := ⟨(.type "dict"), none, (.dict #[en p (S "__module__") 223 (.str (S "bindertongue.errors") 194), en p (S "__qualname__") 225 (.str (S "Barred") 224), en p (S "__firstlineno__") 227 (.int 7 226), en p (S "__init__") 236 (.ref 50), en p (S "__static_attributes__") 238 (.ref 51), en p (S "__classcell__") 239 (.ref 38)] 6), #[]⟩
def o38 : Obj := ⟨(.type "cell"), none, (.cell (some (.ref 53))), #[]⟩
def o39 : Obj := ⟨(.type "tuple"), none, (.seq #[] 0), #[]⟩
def o40 : Obj := ⟨.none, none, (.fields #[(.int 9 0), (.int 4 0), (.ref 49)]), #[]⟩
def o41 : Obj := ⟨(.type "code"), none, (.fields #[(.str (S "Barred") 218), (.str (S "Barred") 219), (.str (S "/claim/cut.py") 220), (.int 7 0), (.int 0 0), (.int 0 0), (.int 0 0), (.int 0 0), (.ref 39), (.bool false), (.int 181 0), (.ref 40), .none, .none, .none, .none, (.int 221 0), (.int 7 0), (.str (S "/claim/cut.py") 222)]), #[]⟩
def o42 : Obj := ⟨(.type "frame"), none, .plain, #[(some (.ref 41)), (some (.ref 3)), (some (.ref 37)), none, (some (.str (S "bindertongue.errors") 194)), none, (some (.ref 0))]⟩
def o43 : Obj := ⟨(.type "tuple"), none, (.seq #[(.ref 38)] 0), #[]⟩
def o44 : Obj := ⟨(.type "tuple"), none, (.seq #[(.str (S "__class__") 231)] 0), #[]⟩
def o45 : Obj := ⟨.none, none, (.fields #[]), #[]⟩
def o46 : Obj := ⟨(.type "tuple"), none, (.seq #[(.str (S "self") 232), (.str (S "reason") 233)] 0), #[]⟩
def o47 : Obj := ⟨(.type "tuple"), none, (.seq #[] 0), #[]⟩
def o48 : Obj := ⟨.none, none, (fD (inC 3 0) (S "__init__") (S "Barred.__init__") 0 [] .none .none .none .none none .none .none 0), #[]⟩
def o49 : Obj := ⟨(.type "code"), none, (.fields #[(.str (S "__init__") 228), (.str (S "Barred.__init__") 229), (.str (S "/claim/cut.py") 230), (.int 9 0), (.int 2 0), (.int 0 0), (.int 0 0), (.int 3 0), (.ref 44), (.bool true), (.int 181 0), (.ref 45), .none, (.ref 46), (.ref 47), (.ref 48), (.int 234 0), (.int 9 0), (.str (S "/claim/cut.py") 235)]), #[]⟩
def o50 : Obj := ⟨(.type "function"), none, (fD (inC 3 0) (S "__init__") (S "Barred.__init__") 3 [((S "__class__"), 38)] .none .none .none (.str (S "bindertongue.errors") 194) none (.ref 49) (.ref 43) 0), #[]⟩
def o51 : Obj := ⟨(.type "tuple"), none, (.seq #[(.str (S "reason") 237)] 0), #[]⟩
def o52 (p : Params) : Obj := ⟨(.type "dict"), none, (.dict #[en p (S "__module__") 223 (.str (S "bindertongue.errors") 194), en p (S "__firstlineno__") 227 (.int 7 226), en p (S "__init__") 236 (.ref 50), en p (S "__static_attributes__") 238 (.ref 51), en p (S "__doc__") 240 .none] 3), #[]⟩
def o53 : Obj := ⟨(.type "type"), none, (.cls ⟨(S "Barred"), [(.ref 31)], [(.ref 53), (.ref 31), (.type "Exception"), (.type "BaseException"), (.type "object")], 52, (S "Barred"), true, [], [], false, none, false⟩), #[(some (.ref 35)), none, (some (.str (S "Barred") 216)), (some (.str (S "Barred") 224)), (some (.builtin "Exception.__new__")), (some (.bool true))]⟩
def o54 : Obj := ⟨(.type "super"), none, (.fields #[(.ref 53), (.ref 53), (.ref 53)]), #[]⟩
def o55 : Obj := ⟨(.type "builtin_function_or_method"), none, (.fields #[(.builtin "object.__init_subclass__"), (.ref 53)]), #[]⟩
def o56 : Obj := ⟨(.type "tuple"), none, (.seq #[(.ref 31)] 0), #[]⟩
def o57 : Obj := ⟨(.type "builtin_function_or_method"), none, (.fields #[(.builtin "type.__prepare__"), (.type "type")]), #[]⟩
def o58 (p : Params) : Obj := ⟨(.type "dict"), none, (.dict #[en p (S "__module__") 250 (.str (S "bindertongue.errors") 194), en p (S "__qualname__") 252 (.str (S "InvalidDeed") 251), en p (S "__firstlineno__") 254 (.int 12 253), en p (S "__init__") 263 (.ref 71), en p (S "__static_attributes__") 265 (.ref 72), en p (S "__classcell__") 266 (.ref 59)] 6), #[]⟩
def o59 : Obj := ⟨(.type "cell"), none, (.cell (some (.ref 74))), #[]⟩
def o60 : Obj := ⟨(.type "tuple"), none, (.seq #[] 0), #[]⟩
def o61 : Obj := ⟨.none, none, (.fields #[(.int 14 0), (.int 4 0), (.ref 70)]), #[]⟩
def o62 : Obj := ⟨(.type "code"), none, (.fields #[(.str (S "InvalidDeed") 245), (.str (S "InvalidDeed") 246), (.str (S "/claim/cut.py") 247), (.int 12 0), (.int 0 0), (.int 0 0), (.int 0 0), (.int 0 0), (.ref 60), (.bool false), (.int 181 0), (.ref 61), .none, .none, .none, .none, (.int 248 0), (.int 12 0), (.str (S "/claim/cut.py") 249)]), #[]⟩
def o63 : Obj := ⟨(.type "frame"), none, .plain, #[(some (.ref 62)), (some (.ref 3)), (some (.ref 58)), none, (some (.str (S "bindertongue.errors") 194)), none, (some (.ref 0))]⟩
def o64 : Obj := ⟨(.type "tuple"), none, (.seq #[(.ref 59)] 0), #[]⟩
def o65 : Obj := ⟨(.type "tuple"), none, (.seq #[(.str (S "__class__") 258)] 0), #[]⟩
def o66 : Obj := ⟨.none, none, (.fields #[]), #[]⟩
def o67 : Obj := ⟨(.type "tuple"), none, (.seq #[(.str (S "self") 259), (.str (S "index") 260)] 0), #[]⟩
def o68 : Obj := ⟨(.type "tuple"), none, (.seq #[] 0), #[]⟩
def o69 : Obj := ⟨.none, none, (fD (inC 4 0) (S "__init__") (S "InvalidDeed.__init__") 0 [] .none .none .none .none none .none .none 0), #[]⟩
def o70 : Obj := ⟨(.type "code"), none, (.fields #[(.str (S "__init__") 255), (.str (S "InvalidDeed.__init__") 256), (.str (S "/claim/cut.py") 257), (.int 14 0), (.int 2 0), (.int 0 0), (.int 0 0), (.int 3 0), (.ref 65), (.bool true), (.int 181 0), (.ref 66), .none, (.ref 67), (.ref 68), (.ref 69), (.int 261 0), (.int 14 0), (.str (S "/claim/cut.py") 262)]), #[]⟩
def o71 : Obj := ⟨(.type "function"), none, (fD (inC 4 0) (S "__init__") (S "InvalidDeed.__init__") 3 [((S "__class__"), 59)] .none .none .none (.str (S "bindertongue.errors") 194) none (.ref 70) (.ref 64) 0), #[]⟩
def o72 : Obj := ⟨(.type "tuple"), none, (.seq #[(.str (S "index") 264)] 0), #[]⟩
def o73 (p : Params) : Obj := ⟨(.type "dict"), none, (.dict #[en p (S "__module__") 250 (.str (S "bindertongue.errors") 194), en p (S "__firstlineno__") 254 (.int 12 253), en p (S "__init__") 263 (.ref 71), en p (S "__static_attributes__") 265 (.ref 72), en p (S "__doc__") 267 .none] 3), #[]⟩
def o74 : Obj := ⟨(.type "type"), none, (.cls ⟨(S "InvalidDeed"), [(.ref 31)], [(.ref 74), (.ref 31), (.type "Exception"), (.type "BaseException"), (.type "object")], 73, (S "InvalidDeed"), true, [], [], false, none, false⟩), #[(some (.ref 56)), none, (some (.str (S "InvalidDeed") 243)), (some (.str (S "InvalidDeed") 251)), (some (.builtin "Exception.__new__")), (some (.bool true))]⟩
def o75 : Obj := ⟨(.type "super"), none, (.fields #[(.ref 74), (.ref 74), (.ref 74)]), #[]⟩
def o76 : Obj := ⟨(.type "builtin_function_or_method"), none, (.fields #[(.builtin "object.__init_subclass__"), (.ref 74)]), #[]⟩
def o77 : Obj := ⟨(.type "tuple"), none, (.seq #[(.ref 31)] 0), #[]⟩
def o78 : Obj := ⟨(.type "builtin_function_or_method"), none, (.fields #[(.builtin "type.__prepare__"), (.type "type")]), #[]⟩
def o79 (p : Params) : Obj := ⟨(.type "dict"), none, (.dict #[en p (S "__module__") 277 (.str (S "bindertongue.errors") 194), en p (S "__qualname__") 279 (.str (S "TooWide") 278), en p (S "__firstlineno__") 281 (.int 17 280), en p (S "__static_attributes__") 282 (.ref 84)] 4), #[]⟩
def o80 : Obj := ⟨(.type "tuple"), none, (.seq #[] 0), #[]⟩
def o81 : Obj := ⟨.none, none, (.fields #[]), #[]⟩
def o82 : Obj := ⟨(.type "code"), none, (.fields #[(.str (S "TooWide") 272), (.str (S "TooWide") 273), (.str (S "/claim/cut.py") 274), (.int 17 0), (.int 0 0), (.int 0 0), (.int 0 0), (.int 0 0), (.ref 80), (.bool false), (.int 181 0), (.ref 81), .none, .none, .none, .none, (.int 275 0), (.int 17 0), (.str (S "/claim/cut.py") 276)]), #[]⟩
def o83 : Obj := ⟨(.type "frame"), none, .plain, #[(some (.ref 82)), (some (.ref 3)), (some (.ref 79)), none, (some (.str (S "bindertongue.errors") 194)), none, (some (.ref 0))]⟩
def o84 : Obj := ⟨(.type "tuple"), none, (.seq #[] 0), #[]⟩
def o85 (p : Params) : Obj := ⟨(.type "dict"), none, (.dict #[en p (S "__module__") 277 (.str (S "bindertongue.errors") 194), en p (S "__firstlineno__") 281 (.int 17 280), en p (S "__static_attributes__") 282 (.ref 84), en p (S "__doc__") 283 .none] 2), #[]⟩
def o86 : Obj := ⟨(.type "type"), none, (.cls ⟨(S "TooWide"), [(.ref 31)], [(.ref 86), (.ref 31), (.type "Exception"), (.type "BaseException"), (.type "object")], 85, (S "TooWide"), true, [], [], false, none, false⟩), #[(some (.ref 77)), none, (some (.str (S "TooWide") 270)), (some (.str (S "TooWide") 278)), (some (.builtin "Exception.__new__")), (some (.bool true))]⟩
def o87 : Obj := ⟨(.type "super"), none, (.fields #[(.ref 86), (.ref 86), (.ref 86)]), #[]⟩
def o88 : Obj := ⟨(.type "builtin_function_or_method"), none, (.fields #[(.builtin "object.__init_subclass__"), (.ref 86)]), #[]⟩
def o89 : Obj := ⟨(.type "tuple"), none, (.seq #[(.ref 31)] 0), #[]⟩
def o90 : Obj := ⟨(.type "builtin_function_or_method"), none, (.fields #[(.builtin "type.__prepare__"), (.type "type")]), #[]⟩
def o91 (p : Params) : Obj := ⟨(.type "dict"), none, (.dict #[en p (S "__module__") 293 (.str (S "bindertongue.errors") 194), en p (S "__qualname__") 295 (.str (S "InvalidText") 294), en p (S "__firstlineno__") 297 (.int 19 296), en p (S "__init__") 306 (.ref 104), en p (S "__static_attributes__") 308 (.ref 105), en p (S "__classcell__") 309 (.ref 92)] 6), #[]⟩
def o92 : Obj := ⟨(.type "cell"), none, (.cell (some (.ref 107))), #[]⟩
def o93 : Obj := ⟨(.type "tuple"), none, (.seq #[] 0), #[]⟩
def o94 : Obj := ⟨.none, none, (.fields #[(.int 21 0), (.int 4 0), (.ref 103)]), #[]⟩
def o95 : Obj := ⟨(.type "code"), none, (.fields #[(.str (S "InvalidText") 288), (.str (S "InvalidText") 289), (.str (S "/claim/cut.py") 290), (.int 19 0), (.int 0 0), (.int 0 0), (.int 0 0), (.int 0 0), (.ref 93), (.bool false), (.int 181 0), (.ref 94), .none, .none, .none, .none, (.int 291 0), (.int 19 0), (.str (S "/claim/cut.py") 292)]), #[]⟩
def o96 : Obj := ⟨(.type "frame"), none, .plain, #[(some (.ref 95)), (some (.ref 3)), (some (.ref 91)), none, (some (.str (S "bindertongue.errors") 194)), none, (some (.ref 0))]⟩
def o97 : Obj := ⟨(.type "tuple"), none, (.seq #[(.ref 92)] 0), #[]⟩
def o98 : Obj := ⟨(.type "tuple"), none, (.seq #[(.str (S "__class__") 301)] 0), #[]⟩
def o99 : Obj := ⟨.none, none, (.fields #[]), #[]⟩
def o100 : Obj := ⟨(.type "tuple"), none, (.seq #[(.str (S "self") 302), (.str (S "given") 303)] 0), #[]⟩
def o101 : Obj := ⟨(.type "tuple"), none, (.seq #[] 0), #[]⟩
def o102 : Obj := ⟨.none, none, (fD (inC 6 0) (S "__init__") (S "InvalidText.__init__") 0 [] .none .none .none .none none .none .none 0), #[]⟩
def o103 : Obj := ⟨(.type "code"), none, (.fields #[(.str (S "__init__") 298), (.str (S "InvalidText.__init__") 299), (.str (S "/claim/cut.py") 300), (.int 21 0), (.int 2 0), (.int 0 0), (.int 0 0), (.int 3 0), (.ref 98), (.bool true), (.int 181 0), (.ref 99), .none, (.ref 100), (.ref 101), (.ref 102), (.int 304 0), (.int 21 0), (.str (S "/claim/cut.py") 305)]), #[]⟩
def o104 : Obj := ⟨(.type "function"), none, (fD (inC 6 0) (S "__init__") (S "InvalidText.__init__") 3 [((S "__class__"), 92)] .none .none .none (.str (S "bindertongue.errors") 194) none (.ref 103) (.ref 97) 0), #[]⟩
def o105 : Obj := ⟨(.type "tuple"), none, (.seq #[(.str (S "given") 307)] 0), #[]⟩
def o106 (p : Params) : Obj := ⟨(.type "dict"), none, (.dict #[en p (S "__module__") 293 (.str (S "bindertongue.errors") 194), en p (S "__firstlineno__") 297 (.int 19 296), en p (S "__init__") 306 (.ref 104), en p (S "__static_attributes__") 308 (.ref 105), en p (S "__doc__") 310 .none] 3), #[]⟩
def o107 : Obj := ⟨(.type "type"), none, (.cls ⟨(S "InvalidText"), [(.ref 31)], [(.ref 107), (.ref 31), (.type "Exception"), (.type "BaseException"), (.type "object")], 106, (S "InvalidText"), true, [], [], false, none, false⟩), #[(some (.ref 89)), none, (some (.str (S "InvalidText") 286)), (some (.str (S "InvalidText") 294)), (some (.builtin "Exception.__new__")), (some (.bool true))]⟩
def o108 : Obj := ⟨(.type "super"), none, (.fields #[(.ref 107), (.ref 107), (.ref 107)]), #[]⟩
def o109 : Obj := ⟨(.type "builtin_function_or_method"), none, (.fields #[(.builtin "object.__init_subclass__"), (.ref 107)]), #[]⟩
def o110 : Obj := ⟨(.type "tuple"), none, (.seq #[] 0), #[]⟩
def o111 : Obj := ⟨.none, none, (.fields #[]), #[]⟩
def o112 : Obj := ⟨(.type "tuple"), none, (.seq #[(.str (S "value") 318)] 0), #[]⟩
def o113 : Obj := ⟨(.type "tuple"), none, (.seq #[] 0), #[]⟩
def o114 : Obj := ⟨.none, none, (fD (top 8) (S "is_whole") (S "is_whole") 0 [] .none .none .none .none none .none .none 0), #[]⟩
def o115 : Obj := ⟨(.type "code"), none, (.fields #[(.str (S "is_whole") 315), (.str (S "is_whole") 316), (.str (S "/claim/cut.py") 317), (.int 25 0), (.int 1 0), (.int 0 0), (.int 0 0), (.int 3 0), (.ref 110), (.bool true), (.int 181 0), (.ref 111), .none, (.ref 112), (.ref 113), (.ref 114), (.int 319 0), (.int 25 0), (.str (S "/claim/cut.py") 320)]), #[]⟩
def o116 : Obj := ⟨(.type "function"), none, (fD (top 8) (S "is_whole") (S "is_whole") 3 [] .none .none .none (.str (S "bindertongue.values") 313) none (.ref 115) .none 0), #[]⟩
def o117 : Obj := ⟨(.type "tuple"), none, (.seq #[] 0), #[]⟩
def o118 : Obj := ⟨.none, none, (.fields #[]), #[]⟩
def o119 : Obj := ⟨(.type "tuple"), none, (.seq #[(.str (S "value") 325)] 0), #[]⟩
def o120 : Obj := ⟨(.type "tuple"), none, (.seq #[] 0), #[]⟩
def o121 : Obj := ⟨.none, none, (fD (top 9) (S "is_number") (S "is_number") 0 [] .none .none .none .none none .none .none 0), #[]⟩
def o122 : Obj := ⟨(.type "code"), none, (.fields #[(.str (S "is_number") 322), (.str (S "is_number") 323), (.str (S "/claim/cut.py") 324), (.int 27 0), (.int 1 0), (.int 0 0), (.int 0 0), (.int 3 0), (.ref 117), (.bool true), (.int 181 0), (.ref 118), .none, (.ref 119), (.ref 120), (.ref 121), (.int 326 0), (.int 27 0), (.str (S "/claim/cut.py") 327)]), #[]⟩
def o123 : Obj := ⟨(.type "function"), none, (fD (top 9) (S "is_number") (S "is_number") 3 [] .none .none .none (.str (S "bindertongue.values") 313) none (.ref 122) .none 0), #[]⟩
def o124 : Obj := ⟨(.type "tuple"), none, (.seq #[] 0), #[]⟩
def o125 : Obj := ⟨.none, none, (.fields #[]), #[]⟩
def o126 : Obj := ⟨(.type "tuple"), none, (.seq #[(.str (S "value") 332)] 0), #[]⟩
def o127 : Obj := ⟨(.type "tuple"), none, (.seq #[] 0), #[]⟩
def o128 : Obj := ⟨.none, none, (fD (top 10) (S "is_string") (S "is_string") 0 [] .none .none .none .none none .none .none 0), #[]⟩
def o129 : Obj := ⟨(.type "code"), none, (.fields #[(.str (S "is_string") 329), (.str (S "is_string") 330), (.str (S "/claim/cut.py") 331), (.int 29 0), (.int 1 0), (.int 0 0), (.int 0 0), (.int 3 0), (.ref 124), (.bool true), (.int 181 0), (.ref 125), .none, (.ref 126), (.ref 127), (.ref 128), (.int 333 0), (.int 29 0), (.str (S "/claim/cut.py") 334)]), #[]⟩
def o130 : Obj := ⟨(.type "function"), none, (fD (top 10) (S "is_string") (S "is_string") 3 [] .none .none .none (.str (S "bindertongue.values") 313) none (.ref 129) .none 0), #[]⟩
def o131 : Obj := ⟨(.type "tuple"), none, (.seq #[] 0), #[]⟩
def o132 : Obj := ⟨.none, none, (.fields #[]), #[]⟩
def o133 : Obj := ⟨(.type "tuple"), none, (.seq #[(.str (S "value") 339), (.str (S "many") 340)] 0), #[]⟩
def o134 : Obj := ⟨(.type "tuple"), none, (.seq #[] 0), #[]⟩
def o135 : Obj := ⟨.none, none, (fD (top 11) (S "is_tuple_of") (S "is_tuple_of") 0 [] .none .none .none .none none .none .none 0), #[]⟩
def o136 : Obj := ⟨(.type "code"), none, (.fields #[(.str (S "is_tuple_of") 336), (.str (S "is_tuple_of") 337), (.str (S "/claim/cut.py") 338), (.int 31 0), (.int 2 0), (.int 0 0), (.int 0 0), (.int 3 0), (.ref 131), (.bool true), (.int 181 0), (.ref 132), .none, (.ref 133), (.ref 134), (.ref 135), (.int 341 0), (.int 31 0), (.str (S "/claim/cut.py") 342)]), #[]⟩
def o137 : Obj := ⟨(.type "function"), none, (fD (top 11) (S "is_tuple_of") (S "is_tuple_of") 3 [] .none .none .none (.str (S "bindertongue.values") 313) none (.ref 136) .none 0), #[]⟩
def o138 : Obj := ⟨(.type "tuple"), none, (.seq #[(.str (S "kind") 346), (.str (S "make") 347), (.str (S "of") 348), (.str (S "name") 349), (.str (S "given") 350), (.str (S "judge") 351), (.str (S "with") 352), (.str (S "case") 353), (.str (S "else") 354), (.str (S "turner") 355), (.str (S "to") 356), (.str (S "if") 357), (.str (S "then") 358), (.str (S "same") 359), (.str (S "new") 360), (.str (S "yes") 361), (.str (S "no") 362), (.str (S "free") 363), (.str (S "keep") 364), (.str (S "ask") 365), (.str (S "ever") 366), (.str (S "alike") 367), (.str (S "right") 368), (.str (S "keeps") 369), (.str (S "escapes") 370), (.str (S "reaches") 371)] 0), #[]⟩
def o139 : Obj := ⟨(.type "tuple"), none, (.seq #[(.str (S "pa") 379), (.str (S "pb") 380), (.str (S "pc") 381)] 0), #[]⟩
def o140 : Obj := ⟨(.type "tuple"), none, (.seq #[(.str (S "oa") 383), (.str (S "ob") 384), (.str (S "oc") 385)] 0), #[]⟩
def o141 : Obj := ⟨(.type "tuple"), none, (.seq #[(.str (S "x") 387), (.str (S "pa") 388), (.str (S "pb") 389), (.str (S "pc") 390), (.str (S "oa") 391), (.str (S "ob") 392), (.str (S "oc") 393)] 0), #[]⟩
def o142 : Obj := ⟨(.type "tuple"), none, (.seq #[] 0), #[]⟩
def o143 : Obj := ⟨.none, none, (.fields #[]), #[]⟩
def o144 : Obj := ⟨.none, none, (fD (top 20) (S "is_name") (S "is_name") 0 [] .none .none .none .none none .none .none 0), #[]⟩
def o145 : Obj := ⟨(.type "code"), none, (.fields #[(.str (S "is_name") 395), (.str (S "is_name") 396), (.str (S "/claim/cut.py") 397), (.int 41 0), (.int 1 0), (.int 0 0), (.int 0 0), (.int 3 0), (.ref 142), (.bool true), (.int 181 0), (.ref 143), .none, .none, .none, (.ref 144), (.int 398 0), (.int 41 0), (.str (S "/claim/cut.py") 399)]), #[]⟩
def o146 : Obj := ⟨(.type "function"), none, (fD (top 20) (S "is_name") (S "is_name") 3 [] .none .none .none (.str (S "bindertongue.words") 344) none (.ref 145) .none 0), #[]⟩
def o147 : Obj := ⟨(.type "tuple"), none, (.seq #[] 0), #[]⟩
def o148 : Obj := ⟨.none, none, (.fields #[]), #[]⟩
def o149 : Obj := ⟨(.type "tuple"), none, (.seq #[(.str (S "number") 404), (.str (S "found") 405), (.str (S "left") 406)] 0), #[]⟩
def o150 : Obj := ⟨(.type "tuple"), none, (.seq #[] 0), #[]⟩
def o151 : Obj := ⟨.none, none, (fD (top 21) (S "word_told") (S "word_told") 0 [] .none .none .none .none none .none .none 0), #[]⟩
def o152 : Obj := ⟨(.type "code"), none, (.fields #[(.str (S "word_told") 401), (.str (S "word_told") 402), (.str (S "/claim/cut.py") 403), (.int 45 0), (.int 1 0), (.int 0 0), (.int 0 0), (.int 3 0), (.ref 147), (.bool true), (.int 181 0), (.ref 148), .none, (.ref 149), (.ref 150), (.ref 151), (.int 407 0), (.int 45 0), (.str (S "/claim/cut.py") 408)]), #[]⟩
def o153 : Obj := ⟨(.type "function"), none, (fD (top 21) (S "word_told") (S "word_told") 3 [] .none .none .none (.str (S "bindertongue.words") 344) none (.ref 152) .none 0), #[]⟩
def o154 : Obj := ⟨(.type "tuple"), none, (.seq #[] 0), #[]⟩
def o155 : Obj := ⟨(.type "builtin_function_or_method"), none, (.fields #[(.builtin "type.__prepare__"), (.type "type")]), #[]⟩
def o156 (p : Params) : Obj := ⟨(.type "dict"), none, (.dict #[en p (S "__module__") 417 (.str (S "bindertongue.words") 344), en p (S "__qualname__") 419 (.str (S "Words") 418), en p (S "__firstlineno__") 421 (.int 50 420), en p (S "__init__") 427 (.ref 165), en p (S "fresh") 435 (.ref 172), en p (S "__static_attributes__") 439 (.ref 173)] 6), #[]⟩
def o157 : Obj := ⟨(.type "tuple"), none, (.seq #[] 0), #[]⟩
def o158 : Obj := ⟨.none, none, (.fields #[(.int 52 0), (.int 4 0), (.ref 164), (.int 57 0), (.int 4 0), (.ref 171)]), #[]⟩
def o159 : Obj := ⟨(.type "code"), none, (.fields #[(.str (S "Words") 412), (.str (S "Words") 413), (.str (S "/claim/cut.py") 414), (.int 50 0), (.int 0 0), (.int 0 0), (.int 0 0), (.int 0 0), (.ref 157), (.bool false), (.int 181 0), (.ref 158), .none, .none, .none, .none, (.int 415 0), (.int 50 0), (.str (S "/claim/cut.py") 416)]), #[]⟩
def o160 : Obj := ⟨(.type "frame"), none, .plain, #[(some (.ref 159)), (some (.ref 3)), (some (.ref 156)), none, (some (.str (S "bindertongue.words") 344)), none, (some (.ref 0))]⟩
def o161 : Obj := ⟨(.type "tuple"), none, (.seq #[] 0), #[]⟩
def o162 : Obj := ⟨.none, none, (.fields #[]), #[]⟩
def o163 : Obj := ⟨.none, none, (fD (inC 22 0) (S "__init__") (S "Words.__init__") 0 [] .none .none .none .none none .none .none 0), #[]⟩
def o164 : Obj := ⟨(.type "code"), none, (.fields #[(.str (S "__init__") 422), (.str (S "Words.__init__") 423), (.str (S "/claim/cut.py") 424), (.int 52 0), (.int 3 0), (.int 0 0), (.int 0 0), (.int 3 0), (.ref 161), (.bool true), (.int 181 0), (.ref 162), .none, .none, .none, (.ref 163), (.int 425 0), (.int 52 0), (.str (S "/claim/cut.py") 426)]), #[]⟩
def o165 : Obj := ⟨(.type "function"), none, (fD (inC 22 0) (S "__init__") (S "Words.__init__") 3 [] .none .none .none (.str (S "bindertongue.words") 344) none (.ref 164) .none 0), #[]⟩
def o166 : Obj := ⟨(.type "tuple"), none, (.seq #[] 0), #[]⟩
def o167 : Obj := ⟨.none, none, (.fields #[]), #[]⟩
def o168 : Obj := ⟨(.type "tuple"), none, (.seq #[(.str (S "self") 431), (.str (S "found") 432)] 0), #[]⟩
def o169 : Obj := ⟨(.type "tuple"), none, (.seq #[] 0), #[]⟩
def o170 : Obj := ⟨.none, none, (fD (inC 22 1) (S "fresh") (S "Words.fresh") 0 [] .none .none .none .none none .none .none 0), #[]⟩
def o171 : Obj := ⟨(.type "code"), none, (.fields #[(.str (S "fresh") 428), (.str (S "Words.fresh") 429), (.str (S "/claim/cut.py") 430), (.int 57 0), (.int 1 0), (.int 0 0), (.int 0 0), (.int 3 0), (.ref 166), (.bool true), (.int 181 0), (.ref 167), .none, (.ref 168), (.ref 169), (.ref 170), (.int 433 0), (.int 57 0), (.str (S "/claim/cut.py") 434)]), #[]⟩
def o172 : Obj := ⟨(.type "function"), none, (fD (inC 22 1) (S "fresh") (S "Words.fresh") 3 [] .none .none .none (.str (S "bindertongue.words") 344) none (.ref 171) .none 0), #[]⟩
def o173 : Obj := ⟨(.type "tuple"), none, (.seq #[(.str (S "head") 436), (.str (S "number") 437), (.str (S "taken") 438)] 0), #[]⟩
def o174 (p : Params) : Obj := ⟨(.type "dict"), none, (.dict #[en p (S "__module__") 417 (.str (S "bindertongue.words") 344), en p (S "__firstlineno__") 421 (.int 50 420), en p (S "__init__") 427 (.ref 165), en p (S "fresh") 435 (.ref 172), en p (S "__static_attributes__") 439 (.ref 173), en p (S "__dict__") 441 (.ref 176), en p (S "__weakref__") 443 (.ref 177), en p (S "__doc__") 444 .none] 4), #[]⟩
def o175 : Obj := ⟨(.type "type"), none, (.cls ⟨(S "Words"), [(.type "object")], [(.ref 175), (.type "object")], 174, (S "Words"), true, [], [], false, none, false⟩), #[none, none, (some (.str (S "Words") 410)), (some (.str (S "Words") 418)), (some (.builtin "object.__new__")), (some (.bool true))]⟩
def o176 : Obj := ⟨(.type "getset_descriptor"), none, (.fields #[(.str (S "__dict__") 440), (.ref 175), (.builtin "function.__dict__"), (.builtin "function.__dict__#set")]), #[]⟩
def o177 : Obj := ⟨(.type "getset_descriptor"), none, (.fields #[(.str (S "__weakref__") 442), (.ref 175), (.builtin "ExceptionGroup.__weakref__"), .none]), #[]⟩
def o178 : Obj := ⟨(.type "super"), none, (.fields #[(.ref 175), (.ref 175), (.ref 175)]), #[]⟩
def o179 : Obj := ⟨(.type "builtin_function_or_method"), none, (.fields #[(.builtin "object.__init_subclass__"), (.ref 175)]), #[]⟩
def o180 : Obj := ⟨(.type "tuple"), none, (.seq #[(.str (S "ask") 449), (.str (S "ever") 450), (.str (S "alike") 451), (.str (S "right") 452), (.str (S "keeps") 453)] 0), #[]⟩
def o181 : Obj := ⟨(.type "tuple"), none, (.seq #[] 0), #[]⟩
def o182 : Obj := ⟨.none, none, (.fields #[]), #[]⟩
def o183 : Obj := ⟨(.type "tuple"), none, (.seq #[(.str (S "places") 464), (.str (S "found") 465), (.str (S "at") 466), (.str (S "place") 467)] 0), #[]⟩
def o184 : Obj := ⟨(.type "tuple"), none, (.seq #[] 0), #[]⟩
def o185 : Obj := ⟨.none, none, (fD (top 28) (S "standard_pattern") (S "standard_pattern") 0 [] .none .none .none .none none .none .none 0), #[]⟩
def o186 : Obj := ⟨(.type "code"), none, (.fields #[(.str (S "standard_pattern") 461), (.str (S "standard_pattern") 462), (.str (S "/claim/cut.py") 463), (.int 69 0), (.int 1 0), (.int 0 0), (.int 0 0), (.int 3 0), (.ref 181), (.bool true), (.int 181 0), (.ref 182), .none, (.ref 183), (.ref 184), (.ref 185), (.int 468 0), (.int 69 0), (.str (S "/claim/cut.py") 469)]), #[]⟩
def o187 : Obj := ⟨(.type "function"), none, (fD (top 28) (S "standard_pattern") (S "standard_pattern") 3 [] .none .none .none (.str (S "bindertongue.bookwork") 447) none (.ref 186) .none 0), #[]⟩
def o188 : Obj := ⟨(.type "tuple"), none, (.seq #[] 0), #[]⟩
def o189 : Obj := ⟨(.type "builtin_function_or_method"), none, (.fields #[(.builtin "type.__prepare__"), (.type "type")]), #[]⟩
def o190 (p : Params) : Obj := ⟨(.type "dict"), none, (.dict #[en p (S "__module__") 478 (.str (S "bindertongue.bookwork") 447), en p (S "__qualname__") 480 (.str (S "Lookup") 479), en p (S "__firstlineno__") 482 (.int 74 481), en p (S "__init__") 488 (.ref 199), en p (S "fill") 497 (.ref 206), en p (S "makers_of") 503 (.ref 211), en p (S "places") 511 (.ref 218), en p (S "judges_of") 519 (.ref 225), en p (S "turners_of") 527 (.ref 232), en p (S "handed_name") 535 (.ref 239), en p (S "is_handed") 543 (.ref 246), en p (S "has_else") 552 (.ref 253), en p (S "case_of") 561 (.ref 260), en p (S "__static_attributes__") 571 (.ref 261)] 14), #[]⟩
def o191 : Obj := ⟨(.type "tuple"), none, (.seq #[] 0), #[]⟩
def o192 : Obj := ⟨.none, none, (.fields #[(.int 76 0), (.int 4 0), (.ref 198), (.int 88 0), (.int 4 0), (.ref 205), (.int 98 0), (.int 4 0), (.ref 210), (.int 101 0), (.int 4 0), (.ref 217), (.int 104 0), (.int 4 0), (.ref 224), (.int 107 0), (.int 4 0), (.ref 231), (.int 110 0), (.int 4 0), (.ref 238), (.int 113 0), (.int 4 0), (.ref 245), (.int 116 0), (.int 4 0), (.ref 252), (.int 119 0), (.int 4 0), (.ref 259)]), #[]⟩
def o193 : Obj := ⟨(.type "code"), none, (.fields #[(.str (S "Lookup") 473), (.str (S "Lookup") 474), (.str (S "/claim/cut.py") 475), (.int 74 0), (.int 0 0), (.int 0 0), (.int 0 0), (.int 0 0), (.ref 191), (.bool false), (.int 181 0), (.ref 192), .none, .none, .none, .none, (.int 476 0), (.int 74 0), (.str (S "/claim/cut.py") 477)]), #[]⟩
def o194 : Obj := ⟨(.type "frame"), none, .plain, #[(some (.ref 193)), (some (.ref 3)), (some (.ref 190)), none, (some (.str (S "bindertongue.bookwork") 447)), none, (some (.ref 0))]⟩
def o195 : Obj := ⟨(.type "tuple"), none, (.seq #[] 0), #[]⟩
def o196 : Obj := ⟨.none, none, (.fields #[]), #[]⟩
def o197 : Obj := ⟨.none, none, (fD (inC 29 0) (S "__init__") (S "Lookup.__init__") 0 [] .none .none .none .none none .none .none 0), #[]⟩
def o198 : Obj := ⟨(.type "code"), none, (.fields #[(.str (S "__init__") 483), (.str (S "Lookup.__init__") 484), (.str (S "/claim/cut.py") 485), (.int 76 0), (.int 2 0), (.int 0 0), (.int 0 0), (.int 3 0), (.ref 195), (.bool true), (.int 181 0), (.ref 196), .none, .none, .none, (.ref 197), (.int 486 0), (.int 76 0), (.str (S "/claim/cut.py") 487)]), #[]⟩
def o199 : Obj := ⟨(.type "function"), none, (fD (inC 29 0) (S "__init__") (S "Lookup.__init__") 3 [] .none .none .none (.str (S "bindertongue.bookwork") 447) none (.ref 198) .none 0), #[]⟩
def o200 : Obj := ⟨(.type "tuple"), none, (.seq #[] 0), #[]⟩
def o201 : Obj := ⟨.none, none, (.fields #[]), #[]⟩
def o202 : Obj := ⟨(.type "tuple"), none, (.seq #[(.str (S "self") 492), (.str (S "head") 493), (.str (S "row") 494)] 0), #[]⟩
def o203 : Obj := ⟨(.type "tuple"), none, (.seq #[] 0), #[]⟩
def o204 : Obj := ⟨.none, none, (fD (inC 29 1) (S "fill") (S "Lookup.fill") 0 [] .none .none .none .none none .none .none 0), #[]⟩
def o205 : Obj := ⟨(.type "code"), none, (.fields #[(.str (S "fill") 489), (.str (S "Lookup.fill") 490), (.str (S "/claim/cut.py") 491), (.int 88 0), (.int 1 0), (.int 0 0), (.int 0 0), (.int 3 0), (.ref 200), (.bool true), (.int 181 0), (.ref 201), .none, (.ref 202), (.ref 203), (.ref 204), (.int 495 0), (.int 88 0), (.str (S "/claim/cut.py") 496)]), #[]⟩
def o206 : Obj := ⟨(.type "function"), none, (fD (inC 29 1) (S "fill") (S "Lookup.fill") 3 [] .none .none .none (.str (S "bindertongue.bookwork") 447) none (.ref 205) .none 0), #[]⟩
def o207 : Obj := ⟨(.type "tuple"), none, (.seq #[] 0), #[]⟩
def o208 : Obj := ⟨.none, none, (.fields #[]), #[]⟩
def o209 : Obj := ⟨.none, none, (fD (inC 29 2) (S "makers_of") (S "Lookup.makers_of") 0 [] .none .none .none .none none .none .none 0), #[]⟩
def o210 : Obj := ⟨(.type "code"), none, (.fields #[(.str (S "makers_of") 498), (.str (S "Lookup.makers_of") 499), (.str (S "/claim/cut.py") 500), (.int 98 0), (.int 2 0), (.int 0 0), (.int 0 0), (.int 3 0), (.ref 207), (.bool true), (.int 181 0), (.ref 208), .none, .none, .none, (.ref 209), (.int 501 0), (.int 98 0), (.str (S "/claim/cut.py") 502)]), #[]⟩
def o211 : Obj := ⟨(.type "function"), none, (fD (inC 29 2) (S "makers_of") (S "Lookup.makers_of") 3 [] .none .none .none (.str (S "bindertongue.bookwork") 447) none (.ref 210) .none 0), #[]⟩
def o212 : Obj := ⟨(.type "tuple"), none, (.seq #[] 0), #[]⟩
def o213 : Obj := ⟨.none, none, (.fields #[]), #[]⟩
def o214 : Obj := ⟨(.type "tuple"), none, (.seq #[(.str (S "self") 507), (.str (S "maker") 508)] 0), #[]⟩
def o215 : Obj := ⟨(.type "tuple"), none, (.seq #[] 0), #[]⟩
def o216 : Obj := ⟨.none, none, (fD (inC 29 3) (S "places") (S "Lookup.places") 0 [] .none .none .none .none none .none .none 0), #[]⟩
def o217 : Obj := ⟨(.type "code"), none, (.fields #[(.str (S "places") 504), (.str (S "Lookup.places") 505), (.str (S "/claim/cut.py") 506), (.int 101 0), (.int 2 0), (.int 0 0), (.int 0 0), (.int 3 0), (.ref 212), (.bool true), (.int 181 0), (.ref 213), .none, (.ref 214), (.ref 215), (.ref 216), (.int 509 0), (.int 101 0), (.str (S "/claim/cut.py") 510)]), #[]⟩
def o218 : Obj := ⟨(.type "function"), none, (fD (inC 29 3) (S "places") (S "Lookup.places") 3 [] .none .none .none (.str (S "bindertongue.bookwork") 447) none (.ref 217) .none 0), #[]⟩
def o219 : Obj := ⟨(.type "tuple"), none, (.seq #[] 0), #[]⟩
def o220 : Obj := ⟨.none, none, (.fields #[]), #[]⟩
def o221 : Obj := ⟨(.type "tuple"), none, (.seq #[(.str (S "self") 515), (.str (S "kind") 516)] 0), #[]⟩
def o222 : Obj := ⟨(.type "tuple"), none, (.seq #[] 0), #[]⟩
def o223 : Obj := ⟨.none, none, (fD (inC 29 4) (S "judges_of") (S "Lookup.judges_of") 0 [] .none .none .none .none none .none .none 0), #[]⟩
def o224 : Obj := ⟨(.type "code"), none, (.fields #[(.str (S "judges_of") 512), (.str (S "Lookup.judges_of") 513), (.str (S "/claim/cut.py") 514), (.int 104 0), (.int 2 0), (.int 0 0), (.int 0 0), (.int 3 0), (.ref 219), (.bool true), (.int 181 0), (.ref 220), .none, (.ref 221), (.ref 222), (.ref 223), (.int 517 0), (.int 104 0), (.str (S "/claim/cut.py") 518)]), #[]⟩
def o225 : Obj := ⟨(.type "function"), none, (fD (inC 29 4) (S "judges_of") (S "Lookup.judges_of") 3 [] .none .none .none (.str (S "bindertongue.bookwork") 447) none (.ref 224) .none 0), #[]⟩
def o226 : Obj := ⟨(.type "tuple"), none, (.seq #[] 0), #[]⟩
def o227 : Obj := ⟨.none, none, (.fields #[]), #[]⟩
def o228 : Obj := ⟨(.type "tuple"), none, (.seq #[(.str (S "self") 523), (.str (S "kind") 524)] 0), #[]⟩
def o229 : Obj := ⟨(.type "tuple"), none, (.seq #[] 0), #[]⟩
def o230 : Obj := ⟨.none, none, (fD (inC 29 5) (S "turners_of") (S "Lookup.turners_of") 0 [] .none .none .none .none none .none .none 0), #[]⟩
def o231 : Obj := ⟨(.type "code"), none, (.fields #[(.str (S "turners_of") 520), (.str (S "Lookup.turners_of") 521), (.str (S "/claim/cut.py") 522), (.int 107 0), (.int 2 0), (.int 0 0), (.int 0 0), (.int 3 0), (.ref 226), (.bool true), (.int 181 0), (.ref 227), .none, (.ref 228), (.ref 229), (.ref 230), (.int 525 0), (.int 107 0), (.str (S "/claim/cut.py") 526)]), #[]⟩
def o232 : Obj := ⟨(.type "function"), none, (fD (inC 29 5) (S "turners_of") (S "Lookup.turners_of") 3 [] .none .none .none (.str (S "bindertongue.bookwork") 447) none (.ref 231) .none 0), #[]⟩
def o233 : Obj := ⟨(.type "tuple"), none, (.seq #[] 0), #[]⟩
def o234 : Obj := ⟨.none, none, (.fields #[]), #[]⟩
def o235 : Obj := ⟨(.type "tuple"), none, (.seq #[(.str (S "self") 531), (.str (S "judge") 532)] 0), #[]⟩
def o236 : Obj := ⟨(.type "tuple"), none, (.seq #[] 0), #[]⟩
def o237 : Obj := ⟨.none, none, (fD (inC 29 6) (S "handed_name") (S "Lookup.handed_name") 0 [] .none .none .none .none none .none .none 0), #[]⟩
def o238 : Obj := ⟨(.type "code"), none, (.fields #[(.str (S "handed_name") 528), (.str (S "Lookup.handed_name") 529), (.str (S "/claim/cut.py") 530), (.int 110 0), (.int 2 0), (.int 0 0), (.int 0 0), (.int 3 0), (.ref 233), (.bool true), (.int 181 0), (.ref 234), .none, (.ref 235), (.ref 236), (.ref 237), (.int 533 0), (.int 110 0), (.str (S "/claim/cut.py") 534)]), #[]⟩
def o239 : Obj := ⟨(.type "function"), none, (fD (inC 29 6) (S "handed_name") (S "Lookup.handed_name") 3 [] .none .none .none (.str (S "bindertongue.bookwork") 447) none (.ref 238) .none 0), #[]⟩
def o240 : Obj := ⟨(.type "tuple"), none, (.seq #[] 0), #[]⟩
def o241 : Obj := ⟨.none, none, (.fields #[]), #[]⟩
def o242 : Obj := ⟨(.type "tuple"), none, (.seq #[(.str (S "self") 539), (.str (S "judge") 540)] 0), #[]⟩
def o243 : Obj := ⟨(.type "tuple"), none, (.seq #[] 0), #[]⟩
def o244 : Obj := ⟨.none, none, (fD (inC 29 7) (S "is_handed") (S "Lookup.is_handed") 0 [] .none .none .none .none none .none .none 0), #[]⟩
def o245 : Obj := ⟨(.type "code"), none, (.fields #[(.str (S "is_handed") 536), (.str (S "Lookup.is_handed") 537), (.str (S "/claim/cut.py") 538), (.int 113 0), (.int 2 0), (.int 0 0), (.int 0 0), (.int 3 0), (.ref 240), (.bool true), (.int 181 0), (.ref 241), .none, (.ref 242), (.ref 243), (.ref 244), (.int 541 0), (.int 113 0), (.str (S "/claim/cut.py") 542)]), #[]⟩
def o246 : Obj := ⟨(.type "function"), none, (fD (inC 29 7) (S "is_handed") (S "Lookup.is_handed") 3 [] .none .none .none (.str (S "bindertongue.bookwork") 447) none (.ref 245) .none 0), #[]⟩
def o247 : Obj := ⟨(.type "tuple"), none, (.seq #[] 0), #[]⟩
def o248 : Obj := ⟨.none, none, (.fields #[]), #[]⟩
def o249 : Obj := ⟨(.type "tuple"), none, (.seq #[(.str (S "self") 547), (.str (S "name") 548), (.str (S "maker") 549)] 0), #[]⟩
def o250 : Obj := ⟨(.type "tuple"), none, (.seq #[] 0), #[]⟩
def o251 : Obj := ⟨.none, none, (fD (inC 29 8) (S "has_else") (S "Lookup.has_else") 0 [] .none .none .none .none none .none .none 0), #[]⟩
def o252 : Obj := ⟨(.type "code"), none, (.fields #[(.str (S "has_else") 544), (.str (S "Lookup.has_else") 545), (.str (S "/claim/cut.py") 546), (.int 116 0), (.int 3 0), (.int 0 0), (.int 0 0), (.int 3 0), (.ref 247), (.bool true), (.int 181 0), (.ref 248), .none, (.ref 249), (.ref 250), (.ref 251), (.int 550 0), (.int 116 0), (.str (S "/claim/cut.py") 551)]), #[]⟩
def o253 : Obj := ⟨(.type "function"), none, (fD (inC 29 8) (S "has_else") (S "Lookup.has_else") 3 [] .none .none .none (.str (S "bindertongue.bookwork") 447) none (.ref 252) .none 0), #[]⟩
def o254 : Obj := ⟨(.type "tuple"), none, (.seq #[] 0), #[]⟩
def o255 : Obj := ⟨.none, none, (.fields #[]), #[]⟩
def o256 : Obj := ⟨(.type "tuple"), none, (.seq #[(.str (S "self") 556), (.str (S "name") 557), (.str (S "maker") 558)] 0), #[]⟩
def o257 : Obj := ⟨(.type "tuple"), none, (.seq #[] 0), #[]⟩
def o258 : Obj := ⟨.none, none, (fD (inC 29 9) (S "case_of") (S "Lookup.case_of") 0 [] .none .none .none .none none .none .none 0), #[]⟩
def o259 : Obj := ⟨(.type "code"), none, (.fields #[(.str (S "case_of") 553), (.str (S "Lookup.case_of") 554), (.str (S "/claim/cut.py") 555), (.int 119 0), (.int 3 0), (.int 0 0), (.int 0 0), (.int 3 0), (.ref 254), (.bool true), (.int 181 0), (.ref 255), .none, (.ref 256), (.ref 257), (.ref 258), (.int 559 0), (.int 119 0), (.str (S "/claim/cut.py") 560)]), #[]⟩
def o260 : Obj := ⟨(.type "function"), none, (fD (inC 29 9) (S "case_of") (S "Lookup.case_of") 3 [] .none .none .none (.str (S "bindertongue.bookwork") 447) none (.ref 259) .none 0), #[]⟩
def o261 : Obj := ⟨(.type "tuple"), none, (.seq #[(.str (S "asks") 562), (.str (S "cases") 563), (.str (S "elses") 564), (.str (S "givens") 565), (.str (S "judges") 566), (.str (S "kinds") 567), (.str (S "makers") 568), (.str (S "rows") 569), (.str (S "turners") 570)] 0), #[]⟩
def o262 (p : Params) : Obj := ⟨(.type "dict"), none, (.dict #[en p (S "__module__") 478 (.str (S "bindertongue.bookwork") 447), en p (S "__firstlineno__") 482 (.int 74 481), en p (S "__init__") 488 (.ref 199), en p (S "fill") 497 (.ref 206), en p (S "makers_of") 503 (.ref 211), en p (S "places") 511 (.ref 218), en p (S "judges_of") 519 (.ref 225), en p (S "turners_of") 527 (.ref 232), en p (S "handed_name") 535 (.ref 239), en p (S "is_handed") 543 (.ref 246), en p (S "has_else") 552 (.ref 253), en p (S "case_of") 561 (.ref 260), en p (S "__static_attributes__") 571 (.ref 261), en p (S "__dict__") 573 (.ref 264), en p (S "__weakref__") 575 (.ref 265), en p (S "__doc__") 576 .none] 4), #[]⟩
def o263 : Obj := ⟨(.type "type"), none, (.cls ⟨(S "Lookup"), [(.type "object")], [(.ref 263), (.type "object")], 262, (S "Lookup"), true, [], [], false, none, false⟩), #[none, none, (some (.str (S "Lookup") 471)), (some (.str (S "Lookup") 479)), (some (.builtin "object.__new__")), (some (.bool true))]⟩
def o264 : Obj := ⟨(.type "getset_descriptor"), none, (.fields #[(.str (S "__dict__") 572), (.ref 263), (.builtin "function.__dict__"), (.builtin "function.__dict__#set")]), #[]⟩
def o265 : Obj := ⟨(.type "getset_descriptor"), none, (.fields #[(.str (S "__weakref__") 574), (.ref 263), (.builtin "ExceptionGroup.__weakref__"), .none]), #[]⟩
def o266 : Obj := ⟨(.type "super"), none, (.fields #[(.ref 263), (.ref 263), (.ref 263)]), #[]⟩
def o267 : Obj := ⟨(.type "builtin_function_or_method"), none, (.fields #[(.builtin "object.__init_subclass__"), (.ref 263)]), #[]⟩
def o268 : Obj := ⟨(.type "tuple"), none, (.seq #[] 0), #[]⟩
def o269 : Obj := ⟨.none, none, (.fields #[]), #[]⟩
def o270 : Obj := ⟨(.type "tuple"), none, (.seq #[(.str (S "body") 582), (.str (S "line") 583), (.str (S "found") 584), (.str (S "own") 585)] 0), #[]⟩
def o271 : Obj := ⟨(.type "tuple"), none, (.seq #[] 0), #[]⟩
def o272 : Obj := ⟨.none, none, (fD (top 30) (S "ends_in") (S "ends_in") 0 [] .none .none .none .none none .none .none 0), #[]⟩
def o273 : Obj := ⟨(.type "code"), none, (.fields #[(.str (S "ends_in") 579), (.str (S "ends_in") 580), (.str (S "/claim/cut.py") 581), (.int 123 0), (.int 1 0), (.int 0 0), (.int 0 0), (.int 3 0), (.ref 268), (.bool true), (.int 181 0), (.ref 269), .none, (.ref 270), (.ref 271), (.ref 272), (.int 586 0), (.int 123 0), (.str (S "/claim/cut.py") 587)]), #[]⟩
def o274 : Obj := ⟨(.type "function"), none, (fD (top 30) (S "ends_in") (S "ends_in") 3 [] .none .none .none (.str (S "bindertongue.bookwork") 447) none (.ref 273) .none 0), #[]⟩
def o275 : Obj := ⟨(.type "tuple"), none, (.seq #[] 0), #[]⟩
def o276 : Obj := ⟨.none, none, (.fields #[]), #[]⟩
def o277 : Obj := ⟨(.type "tuple"), none, (.seq #[(.str (S "look") 598), (.str (S "value") 599)] 0), #[]⟩
def o278 : Obj := ⟨(.type "tuple"), none, (.seq #[] 0), #[]⟩
def o279 : Obj := ⟨.none, none, (fD (top 34) (S "maker_of") (S "maker_of") 0 [] .none .none .none .none none .none .none 0), #[]⟩
def o280 : Obj := ⟨(.type "code"), none, (.fields #[(.str (S "maker_of") 595), (.str (S "maker_of") 596), (.str (S "/claim/cut.py") 597), (.int 135 0), (.int 2 0), (.int 0 0), (.int 0 0), (.int 3 0), (.ref 275), (.bool true), (.int 181 0), (.ref 276), .none, (.ref 277), (.ref 278), (.ref 279), (.int 600 0), (.int 135 0), (.str (S "/claim/cut.py") 601)]), #[]⟩
def o281 : Obj := ⟨(.type "function"), none, (fD (top 34) (S "maker_of") (S "maker_of") 3 [] .none .none .none (.str (S "bindertongue.treework") 589) none (.ref 280) .none 0), #[]⟩
def o282 : Obj := ⟨(.type "tuple"), none, (.seq #[] 0), #[]⟩
def o283 : Obj := ⟨.none, none, (.fields #[]), #[]⟩
def o284 : Obj := ⟨(.type "tuple"), none, (.seq #[(.str (S "look") 606), (.str (S "value") 607), (.str (S "found") 608), (.str (S "place") 609), (.str (S "own") 610)] 0), #[]⟩
def o285 : Obj := ⟨(.type "tuple"), none, (.seq #[] 0), #[]⟩
def o286 : Obj := ⟨.none, none, (fD (top 35) (S "parts_asked") (S "parts_asked") 0 [] .none .none .none .none none .none .none 0), #[]⟩
def o287 : Obj := ⟨(.type "code"), none, (.fields #[(.str (S "parts_asked") 603), (.str (S "parts_asked") 604), (.str (S "/claim/cut.py") 605), (.int 141 0), (.int 2 0), (.int 0 0), (.int 0 0), (.int 3 0), (.ref 282), (.bool true), (.int 181 0), (.ref 283), .none, (.ref 284), (.ref 285), (.ref 286), (.int 611 0), (.int 141 0), (.str (S "/claim/cut.py") 612)]), #[]⟩
def o288 : Obj := ⟨(.type "function"), none, (fD (top 35) (S "parts_asked") (S "parts_asked") 3 [] .none .none .none (.str (S "bindertongue.treework") 589) none (.ref 287) .none 0), #[]⟩
def o289 : Obj := ⟨(.type "tuple"), none, (.seq #[] 0), #[]⟩
def o290 : Obj := ⟨.none, none, (.fields #[]), #[]⟩
def o291 : Obj := ⟨.none, none, (fD (top 36) (S "is_tree_by") (S "is_tree_by") 0 [] .none .none .none .none none .none .none 0), #[]⟩
def o292 : Obj := ⟨(.type "code"), none, (.fields #[(.str (S "is_tree_by") 614), (.str (S "is_tree_by") 615), (.str (S "/claim/cut.py") 616), (.int 154 0), (.int 3 0), (.int 0 0), (.int 0 0), (.int 3 0), (.ref 289), (.bool true), (.int 181 0), (.ref 290), .none, .none, .none, (.ref 291), (.int 617 0), (.int 154 0), (.str (S "/claim/cut.py") 618)]), #[]⟩
def o293 : Obj := ⟨(.type "function"), none, (fD (top 36) (S "is_tree_by") (S "is_tree_by") 3 [] .none .none .none (.str (S "bindertongue.treework") 589) none (.ref 292) .none 0), #[]⟩
def o294 : Obj := ⟨(.type "tuple"), none, (.seq #[] 0), #[]⟩
def o295 : Obj := ⟨.none, none, (.fields #[]), #[]⟩
def o296 : Obj := ⟨(.type "tuple"), none, (.seq #[(.str (S "look") 623), (.str (S "tree") 624), (.str (S "found") 625), (.str (S "at") 626), (.str (S "place") 627), (.str (S "own") 628)] 0), #[]⟩
def o297 : Obj := ⟨(.type "tuple"), none, (.seq #[] 0), #[]⟩
def o298 : Obj := ⟨.none, none, (fD (top 37) (S "branches_of") (S "branches_of") 0 [] .none .none .none .none none .none .none 0), #[]⟩
def o299 : Obj := ⟨(.type "code"), none, (.fields #[(.str (S "branches_of") 620), (.str (S "branches_of") 621), (.str (S "/claim/cut.py") 622), (.int 168 0), (.int 2 0), (.int 0 0), (.int 0 0), (.int 3 0), (.ref 294), (.bool true), (.int 181 0), (.ref 295), .none, (.ref 296), (.ref 297), (.ref 298), (.int 629 0), (.int 168 0), (.str (S "/claim/cut.py") 630)]), #[]⟩
def o300 : Obj := ⟨(.type "function"), none, (fD (top 37) (S "branches_of") (S "branches_of") 3 [] .none .none .none (.str (S "bindertongue.treework") 589) none (.ref 299) .none 0), #[]⟩
def o301 : Obj := ⟨(.type "tuple"), none, (.seq #[] 0), #[]⟩
def o302 : Obj := ⟨.none, none, (.fields #[]), #[]⟩
def o303 : Obj := ⟨.none, none, (fD (top 38) (S "own_names") (S "own_names") 0 [] .none .none .none .none none .none .none 0), #[]⟩
def o304 : Obj := ⟨(.type "code"), none, (.fields #[(.str (S "own_names") 632), (.str (S "own_names") 633), (.str (S "/claim/cut.py") 634), (.int 176 0), (.int 2 0), (.int 0 0), (.int 0 0), (.int 3 0), (.ref 301), (.bool true), (.int 181 0), (.ref 302), .none, .none, .none, (.ref 303), (.int 635 0), (.int 176 0), (.str (S "/claim/cut.py") 636)]), #[]⟩
def o305 : Obj := ⟨(.type "function"), none, (fD (top 38) (S "own_names") (S "own_names") 3 [] .none .none .none (.str (S "bindertongue.treework") 589) none (.ref 304) .none 0), #[]⟩
def o306 : Obj := ⟨(.type "tuple"), none, (.seq #[] 0), #[]⟩
def o307 : Obj := ⟨.none, none, (.fields #[]), #[]⟩
def o308 : Obj := ⟨.none, none, (fD (top 39) (S "free_by") (S "free_by") 0 [] .none .none .none .none none .none .none 0), #[]⟩
def o309 : Obj := ⟨(.type "code"), none, (.fields #[(.str (S "free_by") 638), (.str (S "free_by") 639), (.str (S "/claim/cut.py") 640), (.int 179 0), (.int 2 0), (.int 0 0), (.int 0 0), (.int 3 0), (.ref 306), (.bool true), (.int 181 0), (.ref 307), .none, .none, .none, (.ref 308), (.int 641 0), (.int 179 0), (.str (S "/claim/cut.py") 642)]), #[]⟩
def o310 : Obj := ⟨(.type "function"), none, (fD (top 39) (S "free_by") (S "free_by") 3 [] .none .none .none (.str (S "bindertongue.treework") 589) none (.ref 309) .none 0), #[]⟩
def o311 : Obj := ⟨(.type "tuple"), none, (.seq #[] 0), #[]⟩
def o312 : Obj := ⟨.none, none, (.fields #[]), #[]⟩
def o313 : Obj := ⟨(.type "tuple"), none, (.seq #[(.str (S "look") 647), (.str (S "tree") 648), (.str (S "words") 649), (.str (S "called") 650), (.str (S "found") 651), (.str (S "place") 652), (.str (S "own") 653), (.str (S "word") 654)] 0), #[]⟩
def o314 : Obj := ⟨(.type "tuple"), none, (.seq #[] 0), #[]⟩
def o315 : Obj := ⟨.none, none, (fD (top 40) (S "renamed") (S "renamed") 0 [] .none .none .none .none none .none .none 0), #[]⟩
def o316 : Obj := ⟨(.type "code"), none, (.fields #[(.str (S "renamed") 644), (.str (S "renamed") 645), (.str (S "/claim/cut.py") 646), (.int 188 0), (.int 4 0), (.int 0 0), (.int 0 0), (.int 3 0), (.ref 311), (.bool true), (.int 181 0), (.ref 312), .none, (.ref 313), (.ref 314), (.ref 315), (.int 655 0), (.int 188 0), (.str (S "/claim/cut.py") 656)]), #[]⟩
def o317 : Obj := ⟨(.type "function"), none, (fD (top 40) (S "renamed") (S "renamed") 3 [] .none .none .none (.str (S "bindertongue.treework") 589) none (.ref 316) .none 0), #[]⟩
def o318 : Obj := ⟨(.type "tuple"), none, (.seq #[] 0), #[]⟩
def o319 : Obj := ⟨.none, none, (.fields #[]), #[]⟩
def o320 : Obj := ⟨(.type "tuple"), none, (.seq #[(.str (S "look") 661), (.str (S "tree") 662), (.str (S "head") 663), (.str (S "names") 664)] 0), #[]⟩
def o321 : Obj := ⟨(.type "tuple"), none, (.seq #[] 0), #[]⟩
def o322 : Obj := ⟨.none, none, (fD (top 41) (S "clear_by") (S "clear_by") 0 [] .none .none .none .none none .none .none 0), #[]⟩
def o323 : Obj := ⟨(.type "code"), none, (.fields #[(.str (S "clear_by") 658), (.str (S "clear_by") 659), (.str (S "/claim/cut.py") 660), (.int 199 0), (.int 4 0), (.int 0 0), (.int 0 0), (.int 3 0), (.ref 318), (.bool true), (.int 181 0), (.ref 319), .none, (.ref 320), (.ref 321), (.ref 322), (.int 665 0), (.int 199 0), (.str (S "/claim/cut.py") 666)]), #[]⟩
def o324 : Obj := ⟨(.type "function"), none, (fD (top 41) (S "clear_by") (S "clear_by") 3 [] .none .none .none (.str (S "bindertongue.treework") 589) none (.ref 323) .none 0), #[]⟩
def o325 : Obj := ⟨(.type "tuple"), none, (.seq #[] 0), #[]⟩
def o326 : Obj := ⟨(.type "builtin_function_or_method"), none, (.fields #[(.builtin "type.__prepare__"), (.type "type")]), #[]⟩
def o327 (p : Params) : Obj := ⟨(.type "dict"), none, (.dict #[en p (S "__module__") 679 (.str (S "bindertongue.judgework") 668), en p (S "__qualname__") 681 (.str (S "Spot") 680), en p (S "__firstlineno__") 683 (.int 203 682), en p (S "__init__") 695 (.ref 338), en p (S "take") 707 (.ref 345), en p (S "__static_attributes__") 714 (.ref 346)] 6), #[]⟩
def o328 : Obj := ⟨(.type "tuple"), none, (.seq #[] 0), #[]⟩
def o329 : Obj := ⟨.none, none, (.fields #[(.int 205 0), (.int 4 0), (.ref 337), (.int 219 0), (.int 4 0), (.ref 344)]), #[]⟩
def o330 : Obj := ⟨(.type "code"), none, (.fields #[(.str (S "Spot") 674), (.str (S "Spot") 675), (.str (S "/claim/cut.py") 676), (.int 203 0), (.int 0 0), (.int 0 0), (.int 0 0), (.int 0 0), (.ref 328), (.bool false), (.int 181 0), (.ref 329), .none, .none, .none, .none, (.int 677 0), (.int 203 0), (.str (S "/claim/cut.py") 678)]), #[]⟩
def o331 : Obj := ⟨(.type "frame"), none, .plain, #[(some (.ref 330)), (some (.ref 3)), (some (.ref 327)), none, (some (.str (S "bindertongue.judgework") 668)), none, (some (.ref 0))]⟩
def o332 : Obj := ⟨(.type "tuple"), none, (.seq #[] 0), #[]⟩
def o333 : Obj := ⟨.none, none, (.fields #[]), #[]⟩
def o334 : Obj := ⟨(.type "tuple"), none, (.seq #[(.str (S "self") 687), (.str (S "look") 688), (.str (S "tree") 689), (.str (S "at") 690), (.str (S "place") 691), (.str (S "own") 692)] 0), #[]⟩
def o335 : Obj := ⟨(.type "tuple"), none, (.seq #[] 0), #[]⟩
def o336 : Obj := ⟨.none, none, (fD (inC 44 0) (S "__init__") (S "Spot.__init__") 0 [] .none .none .none .none none .none .none 0), #[]⟩
def o337 : Obj := ⟨(.type "code"), none, (.fields #[(.str (S "__init__") 684), (.str (S "Spot.__init__") 685), (.str (S "/claim/cut.py") 686), (.int 205 0), (.int 3 0), (.int 0 0), (.int 0 0), (.int 3 0), (.ref 332), (.bool true), (.int 181 0), (.ref 333), .none, (.ref 334), (.ref 335), (.ref 336), (.int 693 0), (.int 205 0), (.str (S "/claim/cut.py") 694)]), #[]⟩
def o338 : Obj := ⟨(.type "function"), none, (fD (inC 44 0) (S "__init__") (S "Spot.__init__") 3 [] .none .none .none (.str (S "bindertongue.judgework") 668) none (.ref 337) .none 0), #[]⟩
def o339 : Obj := ⟨(.type "tuple"), none, (.seq #[] 0), #[]⟩
def o340 : Obj := ⟨.none, none, (.fields #[]), #[]⟩
def o341 : Obj := ⟨(.type "tuple"), none, (.seq #[(.str (S "self") 699), (.str (S "look") 700), (.str (S "at") 701), (.str (S "place") 702), (.str (S "own") 703), (.str (S "name") 704)] 0), #[]⟩
def o342 : Obj := ⟨(.type "tuple"), none, (.seq #[] 0), #[]⟩
def o343 : Obj := ⟨.none, none, (fD (inC 44 1) (S "take") (S "Spot.take") 0 [] .none .none .none .none none .none .none 0), #[]⟩
def o344 : Obj := ⟨(.type "code"), none, (.fields #[(.str (S "take") 696), (.str (S "Spot.take") 697), (.str (S "/claim/cut.py") 698), (.int 219 0), (.int 5 0), (.int 0 0), (.int 0 0), (.int 3 0), (.ref 339), (.bool true), (.int 181 0), (.ref 340), .none, (.ref 341), (.ref 342), (.ref 343), (.int 705 0), (.int 219 0), (.str (S "/claim/cut.py") 706)]), #[]⟩
def o345 : Obj := ⟨(.type "function"), none, (fD (inC 44 1) (S "take") (S "Spot.take") 3 [] .none .none .none (.str (S "bindertongue.judgework") 668) none (.ref 344) .none 0), #[]⟩
def o346 : Obj := ⟨(.type "tuple"), none, (.seq #[(.str (S "bound") 708), (.str (S "free") 709), (.str (S "kept") 710), (.str (S "own") 711), (.str (S "parts") 712), (.str (S "tree") 713)] 0), #[]⟩
def o347 (p : Params) : Obj := ⟨(.type "dict"), none, (.dict #[en p (S "__module__") 679 (.str (S "bindertongue.judgework") 668), en p (S "__firstlineno__") 683 (.int 203 682), en p (S "__init__") 695 (.ref 338), en p (S "take") 707 (.ref 345), en p (S "__static_attributes__") 714 (.ref 346), en p (S "__dict__") 716 (.ref 349), en p (S "__weakref__") 718 (.ref 350), en p (S "__doc__") 719 .none] 4), #[]⟩
def o348 : Obj := ⟨(.type "type"), none, (.cls ⟨(S "Spot"), [(.type "object")], [(.ref 348), (.type "object")], 347, (S "Spot"), true, [], [], false, none, false⟩), #[none, none, (some (.str (S "Spot") 672)), (some (.str (S "Spot") 680)), (some (.builtin "object.__new__")), (some (.bool true))]⟩
def o349 : Obj := ⟨(.type "getset_descriptor"), none, (.fields #[(.str (S "__dict__") 715), (.ref 348), (.builtin "function.__dict__"), (.builtin "function.__dict__#set")]), #[]⟩
def o350 : Obj := ⟨(.type "getset_descriptor"), none, (.fields #[(.str (S "__weakref__") 717), (.ref 348), (.builtin "ExceptionGroup.__weakref__"), .none]), #[]⟩
def o351 : Obj := ⟨(.type "super"), none, (.fields #[(.ref 348), (.ref 348), (.ref 348)]), #[]⟩
def o352 : Obj := ⟨(.type "builtin_function_or_method"), none, (.fields #[(.builtin "object.__init_subclass__"), (.ref 348)]), #[]⟩
def o353 : Obj := ⟨(.type "tuple"), none, (.seq #[] 0), #[]⟩
def o354 : Obj := ⟨.none, none, (.fields #[]), #[]⟩
def o355 : Obj := ⟨(.type "tuple"), none, (.seq #[(.str (S "look") 725), (.str (S "tree") 726), (.str (S "names") 727)] 0), #[]⟩
def o356 : Obj := ⟨(.type "tuple"), none, (.seq #[] 0), #[]⟩
def o357 : Obj := ⟨.none, none, (fD (top 45) (S "spot_of") (S "spot_of") 0 [] .none .none .none .none none .none .none 0), #[]⟩
def o358 : Obj := ⟨(.type "code"), none, (.fields #[(.str (S "spot_of") 722), (.str (S "spot_of") 723), (.str (S "/claim/cut.py") 724), (.int 226 0), (.int 3 0), (.int 0 0), (.int 0 0), (.int 3 0), (.ref 353), (.bool true), (.int 181 0), (.ref 354), .none, (.ref 355), (.ref 356), (.ref 357), (.int 728 0), (.int 226 0), (.str (S "/claim/cut.py") 729)]), #[]⟩
def o359 : Obj := ⟨(.type "function"), none, (fD (top 45) (S "spot_of") (S "spot_of") 3 [] .none .none .none (.str (S "bindertongue.judgework") 668) none (.ref 358) .none 0), #[]⟩
def o360 : Obj := ⟨(.type "tuple"), none, (.seq #[] 0), #[]⟩
def o361 : Obj := ⟨(.type "builtin_function_or_method"), none, (.fields #[(.builtin "type.__prepare__"), (.type "type")]), #[]⟩
def o362 (p : Params) : Obj := ⟨(.type "dict"), none, (.dict #[en p (S "__module__") 738 (.str (S "bindertongue.judgework") 668), en p (S "__qualname__") 740 (.str (S "Case") 739), en p (S "__firstlineno__") 742 (.int 228 741), en p (S "__init__") 748 (.ref 371), en p (S "__static_attributes__") 753 (.ref 372)] 5), #[]⟩
def o363 : Obj := ⟨(.type "tuple"), none, (.seq #[] 0), #[]⟩
def o364 : Obj := ⟨.none, none, (.fields #[(.int 230 0), (.int 4 0), (.ref 370)]), #[]⟩
def o365 : Obj := ⟨(.type "code"), none, (.fields #[(.str (S "Case") 733), (.str (S "Case") 734), (.str (S "/claim/cut.py") 735), (.int 228 0), (.int 0 0), (.int 0 0), (.int 0 0), (.int 0 0), (.ref 363), (.bool false), (.int 181 0), (.ref 364), .none, .none, .none, .none, (.int 736 0), (.int 228 0), (.str (S "/claim/cut.py") 737)]), #[]⟩
def o366 : Obj := ⟨(.type "frame"), none, .plain, #[(some (.ref 365)), (some (.ref 3)), (some (.ref 362)), none, (some (.str (S "bindertongue.judgework") 668)), none, (some (.ref 0))]⟩
def o367 : Obj := ⟨(.type "tuple"), none, (.seq #[] 0), #[]⟩
def o368 : Obj := ⟨.none, none, (.fields #[]), #[]⟩
def o369 : Obj := ⟨.none, none, (fD (inC 46 0) (S "__init__") (S "Case.__init__") 0 [] .none .none .none .none none .none .none 0), #[]⟩
def o370 : Obj := ⟨(.type "code"), none, (.fields #[(.str (S "__init__") 743), (.str (S "Case.__init__") 744), (.str (S "/claim/cut.py") 745), (.int 230 0), (.int 5 0), (.int 0 0), (.int 0 0), (.int 3 0), (.ref 367), (.bool true), (.int 181 0), (.ref 368), .none, .none, .none, (.ref 369), (.int 746 0), (.int 230 0), (.str (S "/claim/cut.py") 747)]), #[]⟩
def o371 : Obj := ⟨(.type "function"), none, (fD (inC 46 0) (S "__init__") (S "Case.__init__") 3 [] .none .none .none (.str (S "bindertongue.judgework") 668) none (.ref 370) .none 0), #[]⟩
def o372 : Obj := ⟨(.type "tuple"), none, (.seq #[(.str (S "body") 749), (.str (S "names") 750), (.str (S "opened") 751), (.str (S "parts") 752)] 0), #[]⟩
def o373 (p : Params) : Obj := ⟨(.type "dict"), none, (.dict #[en p (S "__module__") 738 (.str (S "bindertongue.judgework") 668), en p (S "__firstlineno__") 742 (.int 228 741), en p (S "__init__") 748 (.ref 371), en p (S "__static_attributes__") 753 (.ref 372), en p (S "__dict__") 755 (.ref 375), en p (S "__weakref__") 757 (.ref 376), en p (S "__doc__") 758 .none] 4), #[]⟩
def o374 : Obj := ⟨(.type "type"), none, (.cls ⟨(S "Case"), [(.type "object")], [(.ref 374), (.type "object")], 373, (S "Case"), true, [], [], false, none, false⟩), #[none, none, (some (.str (S "Case") 731)), (some (.str (S "Case") 739)), (some (.builtin "object.__new__")), (some (.bool true))]⟩
def o375 : Obj := ⟨(.type "getset_descriptor"), none, (.fields #[(.str (S "__dict__") 754), (.ref 374), (.builtin "function.__dict__"), (.builtin "function.__dict__#set")]), #[]⟩
def o376 : Obj := ⟨(.type "getset_descriptor"), none, (.fields #[(.str (S "__weakref__") 756), (.ref 374), (.builtin "ExceptionGroup.__weakref__"), .none]), #[]⟩
def o377 : Obj := ⟨(.type "super"), none, (.fields #[(.ref 374), (.ref 374), (.ref 374)]), #[]⟩
def o378 : Obj := ⟨(.type "builtin_function_or_method"), none, (.fields #[(.builtin "object.__init_subclass__"), (.ref 374)]), #[]⟩
def o379 : Obj := ⟨(.type "tuple"), none, (.seq #[] 0), #[]⟩
def o380 : Obj := ⟨(.type "builtin_function_or_method"), none, (.fields #[(.builtin "type.__prepare__"), (.type "type")]), #[]⟩
def o381 (p : Params) : Obj := ⟨(.type "dict"), none, (.dict #[en p (S "__module__") 768 (.str (S "bindertongue.judgework") 668), en p (S "__qualname__") 770 (.str (S "Answers") 769), en p (S "__firstlineno__") 772 (.int 245 771), en p (S "__init__") 780 (.ref 392), en p (S "key_of") 789 (.ref 399), en p (S "says") 800 (.ref 406), en p (S "free") 810 (.ref 413), en p (S "told") 821 (.ref 420), en p (S "end") 830 (.ref 427), en p (S "is_so") 841 (.ref 434), en p (S "__static_attributes__") 844 (.ref 435)] 11), #[]⟩
def o382 : Obj := ⟨(.type "tuple"), none, (.seq #[] 0), #[]⟩
def o383 : Obj := ⟨.none, none, (.fields #[(.int 247 0), (.int 4 0), (.ref 391), (.int 251 0), (.int 4 0), (.ref 398), (.int 256 0), (.int 4 0), (.ref 405), (.int 263 0), (.int 4 0), (.ref 412), (.int 271 0), (.int 4 0), (.ref 419), (.int 275 0), (.int 4 0), (.ref 426), (.int 281 0), (.int 4 0), (.ref 433)]), #[]⟩
def o384 : Obj := ⟨(.type "code"), none, (.fields #[(.str (S "Answers") 763), (.str (S "Answers") 764), (.str (S "/claim/cut.py") 765), (.int 245 0), (.int 0 0), (.int 0 0), (.int 0 0), (.int 0 0), (.ref 382), (.bool false), (.int 181 0), (.ref 383), .none, .none, .none, .none, (.int 766 0), (.int 245 0), (.str (S "/claim/cut.py") 767)]), #[]⟩
def o385 : Obj := ⟨(.type "frame"), none, .plain, #[(some (.ref 384)), (some (.ref 3)), (some (.ref 381)), none, (some (.str (S "bindertongue.judgework") 668)), none, (some (.ref 0))]⟩
def o386 : Obj := ⟨(.type "tuple"), none, (.seq #[] 0), #[]⟩
def o387 : Obj := ⟨.none, none, (.fields #[]), #[]⟩
def o388 : Obj := ⟨(.type "tuple"), none, (.seq #[(.str (S "self") 776), (.str (S "look") 777)] 0), #[]⟩
def o389 : Obj := ⟨(.type "tuple"), none, (.seq #[] 0), #[]⟩
def o390 : Obj := ⟨.none, none, (fD (inC 47 0) (S "__init__") (S "Answers.__init__") 0 [] .none .none .none .none none .none .none 0), #[]⟩
def o391 : Obj := ⟨(.type "code"), none, (.fields #[(.str (S "__init__") 773), (.str (S "Answers.__init__") 774), (.str (S "/claim/cut.py") 775), (.int 247 0), (.int 2 0), (.int 0 0), (.int 0 0), (.int 3 0), (.ref 386), (.bool true), (.int 181 0), (.ref 387), .none, (.ref 388), (.ref 389), (.ref 390), (.int 778 0), (.int 247 0), (.str (S "/claim/cut.py") 779)]), #[]⟩
def o392 : Obj := ⟨(.type "function"), none, (fD (inC 47 0) (S "__init__") (S "Answers.__init__") 3 [] .none .none .none (.str (S "bindertongue.judgework") 668) none (.ref 391) .none 0), #[]⟩
def o393 : Obj := ⟨(.type "tuple"), none, (.seq #[] 0), #[]⟩
def o394 : Obj := ⟨.none, none, (.fields #[]), #[]⟩
def o395 : Obj := ⟨(.type "tuple"), none, (.seq #[(.str (S "self") 784), (.str (S "spot") 785), (.str (S "name") 786)] 0), #[]⟩
def o396 : Obj := ⟨(.type "tuple"), none, (.seq #[] 0), #[]⟩
def o397 : Obj := ⟨.none, none, (fD (inC 47 1) (S "key_of") (S "Answers.key_of") 0 [] .none .none .none .none none .none .none 0), #[]⟩
def o398 : Obj := ⟨(.type "code"), none, (.fields #[(.str (S "key_of") 781), (.str (S "Answers.key_of") 782), (.str (S "/claim/cut.py") 783), (.int 251 0), (.int 3 0), (.int 0 0), (.int 0 0), (.int 3 0), (.ref 393), (.bool true), (.int 181 0), (.ref 394), .none, (.ref 395), (.ref 396), (.ref 397), (.int 787 0), (.int 251 0), (.str (S "/claim/cut.py") 788)]), #[]⟩
def o399 : Obj := ⟨(.type "function"), none, (fD (inC 47 1) (S "key_of") (S "Answers.key_of") 3 [] .none .none .none (.str (S "bindertongue.judgework") 668) none (.ref 398) .none 0), #[]⟩
def o400 : Obj := ⟨(.type "tuple"), none, (.seq #[] 0), #[]⟩
def o401 : Obj := ⟨.none, none, (.fields #[]), #[]⟩
def o402 : Obj := ⟨(.type "tuple"), none, (.seq #[(.str (S "self") 793), (.str (S "spot") 794), (.str (S "judge") 795), (.str (S "name") 796), (.str (S "key") 797)] 0), #[]⟩
def o403 : Obj := ⟨(.type "tuple"), none, (.seq #[] 0), #[]⟩
def o404 : Obj := ⟨.none, none, (fD (inC 47 2) (S "says") (S "Answers.says") 0 [] .none .none .none .none none .none .none 0), #[]⟩
def o405 : Obj := ⟨(.type "code"), none, (.fields #[(.str (S "says") 790), (.str (S "Answers.says") 791), (.str (S "/claim/cut.py") 792), (.int 256 0), (.int 4 0), (.int 0 0), (.int 0 0), (.int 3 0), (.ref 400), (.bool true), (.int 181 0), (.ref 401), .none, (.ref 402), (.ref 403), (.ref 404), (.int 798 0), (.int 256 0), (.str (S "/claim/cut.py") 799)]), #[]⟩
def o406 : Obj := ⟨(.type "function"), none, (fD (inC 47 2) (S "says") (S "Answers.says") 3 [] .none .none .none (.str (S "bindertongue.judgework") 668) none (.ref 405) .none 0), #[]⟩
def o407 : Obj := ⟨(.type "tuple"), none, (.seq #[] 0), #[]⟩
def o408 : Obj := ⟨.none, none, (.fields #[]), #[]⟩
def o409 : Obj := ⟨(.type "tuple"), none, (.seq #[(.str (S "self") 804), (.str (S "spot") 805), (.str (S "name") 806), (.str (S "at") 807)] 0), #[]⟩
def o410 : Obj := ⟨(.type "tuple"), none, (.seq #[] 0), #[]⟩
def o411 : Obj := ⟨.none, none, (fD (inC 47 3) (S "free") (S "Answers.free") 0 [] .none .none .none .none none .none .none 0), #[]⟩
def o412 : Obj := ⟨(.type "code"), none, (.fields #[(.str (S "free") 801), (.str (S "Answers.free") 802), (.str (S "/claim/cut.py") 803), (.int 263 0), (.int 3 0), (.int 0 0), (.int 0 0), (.int 3 0), (.ref 407), (.bool true), (.int 181 0), (.ref 408), .none, (.ref 409), (.ref 410), (.ref 411), (.int 808 0), (.int 263 0), (.str (S "/claim/cut.py") 809)]), #[]⟩
def o413 : Obj := ⟨(.type "function"), none, (fD (inC 47 3) (S "free") (S "Answers.free") 3 [] .none .none .none (.str (S "bindertongue.judgework") 668) none (.ref 412) .none 0), #[]⟩
def o414 : Obj := ⟨(.type "tuple"), none, (.seq #[] 0), #[]⟩
def o415 : Obj := ⟨.none, none, (.fields #[]), #[]⟩
def o416 : Obj := ⟨(.type "tuple"), none, (.seq #[(.str (S "self") 814), (.str (S "spot") 815), (.str (S "judge") 816), (.str (S "name") 817), (.str (S "case") 818)] 0), #[]⟩
def o417 : Obj := ⟨(.type "tuple"), none, (.seq #[] 0), #[]⟩
def o418 : Obj := ⟨.none, none, (fD (inC 47 4) (S "told") (S "Answers.told") 0 [] .none .none .none .none none .none .none 0), #[]⟩
def o419 : Obj := ⟨(.type "code"), none, (.fields #[(.str (S "told") 811), (.str (S "Answers.told") 812), (.str (S "/claim/cut.py") 813), (.int 271 0), (.int 4 0), (.int 0 0), (.int 0 0), (.int 3 0), (.ref 414), (.bool true), (.int 181 0), (.ref 415), .none, (.ref 416), (.ref 417), (.ref 418), (.int 819 0), (.int 271 0), (.str (S "/claim/cut.py") 820)]), #[]⟩
def o420 : Obj := ⟨(.type "function"), none, (fD (inC 47 4) (S "told") (S "Answers.told") 3 [] .none .none .none (.str (S "bindertongue.judgework") 668) none (.ref 419) .none 0), #[]⟩
def o421 : Obj := ⟨(.type "tuple"), none, (.seq #[] 0), #[]⟩
def o422 : Obj := ⟨.none, none, (.fields #[]), #[]⟩
def o423 : Obj := ⟨(.type "tuple"), none, (.seq #[(.str (S "self") 825), (.str (S "case") 826), (.str (S "body") 827)] 0), #[]⟩
def o424 : Obj := ⟨(.type "tuple"), none, (.seq #[] 0), #[]⟩
def o425 : Obj := ⟨.none, none, (fD (inC 47 5) (S "end") (S "Answers.end") 0 [] .none .none .none .none none .none .none 0), #[]⟩
def o426 : Obj := ⟨(.type "code"), none, (.fields #[(.str (S "end") 822), (.str (S "Answers.end") 823), (.str (S "/claim/cut.py") 824), (.int 275 0), (.int 2 0), (.int 0 0), (.int 0 0), (.int 3 0), (.ref 421), (.bool true), (.int 181 0), (.ref 422), .none, (.ref 423), (.ref 424), (.ref 425), (.int 828 0), (.int 275 0), (.str (S "/claim/cut.py") 829)]), #[]⟩
def o427 : Obj := ⟨(.type "function"), none, (fD (inC 47 5) (S "end") (S "Answers.end") 3 [] .none .none .none (.str (S "bindertongue.judgework") 668) none (.ref 426) .none 0), #[]⟩
def o428 : Obj := ⟨(.type "tuple"), none, (.seq #[] 0), #[]⟩
def o429 : Obj := ⟨.none, none, (.fields #[]), #[]⟩
def o430 : Obj := ⟨(.type "tuple"), none, (.seq #[(.str (S "self") 834), (.str (S "case") 835), (.str (S "test") 836), (.str (S "word") 837), (.str (S "name") 838)] 0), #[]⟩
def o431 : Obj := ⟨(.type "tuple"), none, (.seq #[] 0), #[]⟩
def o432 : Obj := ⟨.none, none, (fD (inC 47 6) (S "is_so") (S "Answers.is_so") 0 [] .none .none .none .none none .none .none 0), #[]⟩
def o433 : Obj := ⟨(.type "code"), none, (.fields #[(.str (S "is_so") 831), (.str (S "Answers.is_so") 832), (.str (S "/claim/cut.py") 833), (.int 281 0), (.int 3 0), (.int 0 0), (.int 0 0), (.int 3 0), (.ref 428), (.bool true), (.int 181 0), (.ref 429), .none, (.ref 430), (.ref 431), (.ref 432), (.int 839 0), (.int 281 0), (.str (S "/claim/cut.py") 840)]), #[]⟩
def o434 : Obj := ⟨(.type "function"), none, (fD (inC 47 6) (S "is_so") (S "Answers.is_so") 3 [] .none .none .none (.str (S "bindertongue.judgework") 668) none (.ref 433) .none 0), #[]⟩
def o435 : Obj := ⟨(.type "tuple"), none, (.seq #[(.str (S "look") 842), (.str (S "looks") 843)] 0), #[]⟩
def o436 (p : Params) : Obj := ⟨(.type "dict"), none, (.dict #[en p (S "__module__") 768 (.str (S "bindertongue.judgework") 668), en p (S "__firstlineno__") 772 (.int 245 771), en p (S "__init__") 780 (.ref 392), en p (S "key_of") 789 (.ref 399), en p (S "says") 800 (.ref 406), en p (S "free") 810 (.ref 413), en p (S "told") 821 (.ref 420), en p (S "end") 830 (.ref 427), en p (S "is_so") 841 (.ref 434), en p (S "__static_attributes__") 844 (.ref 435), en p (S "__dict__") 846 (.ref 438), en p (S "__weakref__") 848 (.ref 439), en p (S "__doc__") 849 .none] 4), #[]⟩
def o437 : Obj := ⟨(.type "type"), none, (.cls ⟨(S "Answers"), [(.type "object")], [(.ref 437), (.type "object")], 436, (S "Answers"), true, [], [], false, none, false⟩), #[none, none, (some (.str (S "Answers") 761)), (some (.str (S "Answers") 769)), (some (.builtin "object.__new__")), (some (.bool true))]⟩
def o438 : Obj := ⟨(.type "getset_descriptor"), none, (.fields #[(.str (S "__dict__") 845), (.ref 437), (.builtin "function.__dict__"), (.builtin "function.__dict__#set")]), #[]⟩
def o439 : Obj := ⟨(.type "getset_descriptor"), none, (.fields #[(.str (S "__weakref__") 847), (.ref 437), (.builtin "ExceptionGroup.__weakref__"), .none]), #[]⟩
def o440 : Obj := ⟨(.type "super"), none, (.fields #[(.ref 437), (.ref 437), (.ref 437)]), #[]⟩
def o441 : Obj := ⟨(.type "builtin_function_or_method"), none, (.fields #[(.builtin "object.__init_subclass__"), (.ref 437)]), #[]⟩
def o442 : Obj := ⟨(.type "tuple"), none, (.seq #[] 0), #[]⟩
def o443 : Obj := ⟨.none, none, (.fields #[]), #[]⟩
def o444 : Obj := ⟨(.type "tuple"), none, (.seq #[(.str (S "look") 855), (.str (S "judge") 856), (.str (S "tree") 857), (.str (S "name") 858)] 0), #[]⟩
def o445 : Obj := ⟨(.type "tuple"), none, (.seq #[] 0), #[]⟩
def o446 : Obj := ⟨.none, none, (fD (top 48) (S "says_by") (S "says_by") 0 [] .none .none .none .none none .none .none 0), #[]⟩
def o447 : Obj := ⟨(.type "code"), none, (.fields #[(.str (S "says_by") 852), (.str (S "says_by") 853), (.str (S "/claim/cut.py") 854), (.int 287 0), (.int 4 0), (.int 0 0), (.int 0 0), (.int 3 0), (.ref 442), (.bool true), (.int 181 0), (.ref 443), .none, (.ref 444), (.ref 445), (.ref 446), (.int 859 0), (.int 287 0), (.str (S "/claim/cut.py") 860)]), #[]⟩
def o448 : Obj := ⟨(.type "function"), none, (fD (top 48) (S "says_by") (S "says_by") 3 [] .none .none .none (.str (S "bindertongue.judgework") 668) none (.ref 447) .none 0), #[]⟩
def o449 : Obj := ⟨(.type "tuple"), none, (.seq #[(.str (S "new") 864)] 0), #[]⟩
def o450 : Obj := ⟨(.type "tuple"), none, (.seq #[] 0), #[]⟩
def o451 : Obj := ⟨.none, none, (.fields #[]), #[]⟩
def o452 : Obj := ⟨.none, none, (fD (top 51) (S "translated") (S "translated") 0 [] .none .none .none .none none .none .none 0), #[]⟩
def o453 : Obj := ⟨(.type "code"), none, (.fields #[(.str (S "translated") 866), (.str (S "translated") 867), (.str (S "/claim/cut.py") 868), (.int 291 0), (.int 3 0), (.int 0 0), (.int 0 0), (.int 3 0), (.ref 450), (.bool true), (.int 181 0), (.ref 451), .none, .none, .none, (.ref 452), (.int 869 0), (.int 291 0), (.str (S "/claim/cut.py") 870)]), #[]⟩
def o454 : Obj := ⟨(.type "function"), none, (fD (top 51) (S "translated") (S "translated") 3 [] .none .none .none (.str (S "bindertongue.bodywork") 862) none (.ref 453) .none 0), #[]⟩
def o455 : Obj := ⟨(.type "tuple"), none, (.seq #[] 0), #[]⟩
def o456 : Obj := ⟨(.type "builtin_function_or_method"), none, (.fields #[(.builtin "type.__prepare__"), (.type "type")]), #[]⟩
def o457 (p : Params) : Obj := ⟨(.type "dict"), none, (.dict #[en p (S "__module__") 879 (.str (S "bindertongue.bodywork") 862), en p (S "__qualname__") 881 (.str (S "Node") 880), en p (S "__firstlineno__") 883 (.int 302 882), en p (S "__init__") 892 (.ref 468), en p (S "__static_attributes__") 898 (.ref 469)] 5), #[]⟩
def o458 : Obj := ⟨(.type "tuple"), none, (.seq #[] 0), #[]⟩
def o459 : Obj := ⟨.none, none, (.fields #[(.int 304 0), (.int 4 0), (.ref 467)]), #[]⟩
def o460 : Obj := ⟨(.type "code"), none, (.fields #[(.str (S "Node") 874), (.str (S "Node") 875), (.str (S "/claim/cut.py") 876), (.int 302 0), (.int 0 0), (.int 0 0), (.int 0 0), (.int 0 0), (.ref 458), (.bool false), (.int 181 0), (.ref 459), .none, .none, .none, .none, (.int 877 0), (.int 302 0), (.str (S "/claim/cut.py") 878)]), #[]⟩
def o461 : Obj := ⟨(.type "frame"), none, .plain, #[(some (.ref 460)), (some (.ref 3)), (some (.ref 457)), none, (some (.str (S "bindertongue.bodywork") 862)), none, (some (.ref 0))]⟩
def o462 : Obj := ⟨(.type "tuple"), none, (.seq #[] 0), #[]⟩
def o463 : Obj := ⟨.none, none, (.fields #[]), #[]⟩
def o464 : Obj := ⟨(.type "tuple"), none, (.seq #[(.str (S "self") 887), (.str (S "maker") 888), (.str (S "tag") 889)] 0), #[]⟩
def o465 : Obj := ⟨(.type "tuple"), none, (.seq #[] 0), #[]⟩
def o466 : Obj := ⟨.none, none, (fD (inC 52 0) (S "__init__") (S "Node.__init__") 0 [] .none .none .none .none none .none .none 0), #[]⟩
def o467 : Obj := ⟨(.type "code"), none, (.fields #[(.str (S "__init__") 884), (.str (S "Node.__init__") 885), (.str (S "/claim/cut.py") 886), (.int 304 0), (.int 3 0), (.int 0 0), (.int 0 0), (.int 3 0), (.ref 462), (.bool true), (.int 181 0), (.ref 463), .none, (.ref 464), (.ref 465), (.ref 466), (.int 890 0), (.int 304 0), (.str (S "/claim/cut.py") 891)]), #[]⟩
def o468 : Obj := ⟨(.type "function"), none, (fD (inC 52 0) (S "__init__") (S "Node.__init__") 3 [] .none .none .none (.str (S "bindertongue.bodywork") 862) none (.ref 467) .none 0), #[]⟩
def o469 : Obj := ⟨(.type "tuple"), none, (.seq #[(.str (S "maker") 893), (.str (S "names") 894), (.str (S "opened") 895), (.str (S "parts") 896), (.str (S "tag") 897)] 0), #[]⟩
def o470 (p : Params) : Obj := ⟨(.type "dict"), none, (.dict #[en p (S "__module__") 879 (.str (S "bindertongue.bodywork") 862), en p (S "__firstlineno__") 883 (.int 302 882), en p (S "__init__") 892 (.ref 468), en p (S "__static_attributes__") 898 (.ref 469), en p (S "__dict__") 900 (.ref 472), en p (S "__weakref__") 902 (.ref 473), en p (S "__doc__") 903 .none] 4), #[]⟩
def o471 : Obj := ⟨(.type "type"), none, (.cls ⟨(S "Node"), [(.type "object")], [(.ref 471), (.type "object")], 470, (S "Node"), true, [], [], false, none, false⟩), #[none, none, (some (.str (S "Node") 872)), (some (.str (S "Node") 880)), (some (.builtin "object.__new__")), (some (.bool true))]⟩
def o472 : Obj := ⟨(.type "getset_descriptor"), none, (.fields #[(.str (S "__dict__") 899), (.ref 471), (.builtin "function.__dict__"), (.builtin "function.__dict__#set")]), #[]⟩
def o473 : Obj := ⟨(.type "getset_descriptor"), none, (.fields #[(.str (S "__weakref__") 901), (.ref 471), (.builtin "ExceptionGroup.__weakref__"), .none]), #[]⟩
def o474 : Obj := ⟨(.type "super"), none, (.fields #[(.ref 471), (.ref 471), (.ref 471)]), #[]⟩
def o475 : Obj := ⟨(.type "builtin_function_or_method"), none, (.fields #[(.builtin "object.__init_subclass__"), (.ref 471)]), #[]⟩
def o476 : Obj := ⟨(.type "tuple"), none, (.seq #[] 0), #[]⟩
def o477 : Obj := ⟨.none, none, (.fields #[]), #[]⟩
def o478 : Obj := ⟨(.type "tuple"), none, (.seq #[(.str (S "look") 909), (.str (S "maker") 910), (.str (S "names") 911), (.str (S "found") 912), (.str (S "at") 913), (.str (S "place") 914)] 0), #[]⟩
def o479 : Obj := ⟨(.type "tuple"), none, (.seq #[] 0), #[]⟩
def o480 : Obj := ⟨.none, none, (fD (top 53) (S "root_node") (S "root_node") 0 [] .none .none .none .none none .none .none 0), #[]⟩
def o481 : Obj := ⟨(.type "code"), none, (.fields #[(.str (S "root_node") 906), (.str (S "root_node") 907), (.str (S "/claim/cut.py") 908), (.int 310 0), (.int 3 0), (.int 0 0), (.int 0 0), (.int 3 0), (.ref 476), (.bool true), (.int 181 0), (.ref 477), .none, (.ref 478), (.ref 479), (.ref 480), (.int 915 0), (.int 310 0), (.str (S "/claim/cut.py") 916)]), #[]⟩
def o482 : Obj := ⟨(.type "function"), none, (fD (top 53) (S "root_node") (S "root_node") 3 [] .none .none .none (.str (S "bindertongue.bodywork") 862) none (.ref 481) .none 0), #[]⟩
def T2_0 (p : Params) : PySem.W.BT := N (o3_2 p) (N o7 (N o15 (N o31 (N o63 (N o127 (N1 o255) (N1 o383)) (N o191 (N1 o319) (N1 o447))) (N o95 (N o159 (N1 o287) (N1 o415)) (N o223 (N1 o351) (N1 o479)))) (N o47 (N (o79 p) (N o143 (N1 o271) (N1 o399)) (N o207 (N1 o335) (N1 o463))) (N o111 (N o175 (N1 o303) (N1 o431)) (N o239 (N1 o367) L)))) (N o23 (N o39 (N o71 (N o135 (N1 o263) (N1 o391)) (N o199 (N1 (o327 p)) (N1 o455))) (N o103 (N o167 (N1 o295) (N1 o423)) (N o231 (N1 o359) L))) (N o55 (N o87 (N o151 (N1 o279) (N1 o407)) (N o215 (N1 o343) (N1 o471))) (N o119 (N o183 (N1 o311) (N1 o439)) (N o247 (N1 o375) L))))) (N o11 (N o19 (N o35 (N o67 (N o131 (N1 o259) (N1 o387)) (N o195 (N1 o323) (N1 o451))) (N o99 (N o163 (N1 o291) (N1 o419)) (N o227 (N1 o355) L))) (N o51 (N o83 (N o147 (N1 o275) (N1 o403)) (N o211 (N1 o339) (N1 o467))) (N o115 (N o179 (N1 o307) (N1 o435)) (N o243 (N1 o371) L)))) (N o27 (N o43 (N o75 (N o139 (N1 o267) (N1 o395)) (N o203 (N1 o331) (N1 o459))) (N o107 (N o171 (N1 o299) (N1 o427)) (N o235 (N1 o363) L))) (N o59 (N (o91 p) (N o155 (N1 o283) (N1 o411)) (N o219 (N1 (o347 p)) (N1 o475))) (N o123 (N o187 (N1 o315) (N1 o443)) (N o251 (N1 o379) L)))))
def T2_1 (p : Params) : PySem.W.BT := N o5 (N o9 (N o17 (N o33 (N o65 (N o129 (N1 o257) (N1 o385)) (N o193 (N1 o321) (N1 o449))) (N o97 (N o161 (N1 o289) (N1 o417)) (N o225 (N1 o353) (N1 o481)))) (N o49 (N o81 (N o145 (N1 o273) (N1 o401)) (N o209 (N1 o337) (N1 o465))) (N o113 (N o177 (N1 o305) (N1 o433)) (N o241 (N1 o369) L)))) (N o25 (N o41 (N (o73 p) (N o137 (N1 o265) (N1 o393)) (N o201 (N1 o329) (N1 (o457 p)))) (N o105 (N o169 (N1 o297) (N1 o425)) (N o233 (N1 o361) L))) (N o57 (N o89 (N o153 (N1 o281) (N1 o409)) (N o217 (N1 o345) (N1 o473))) (N o121 (N o185 (N1 o313) (N1 o441)) (N o249 (N1 o377) L))))) (N o13 (N o21 (N (o37 p) (N o69 (N o133 (N1 o261) (N1 o389)) (N o197 (N1 o325) (N1 o453))) (N o101 (N o165 (N1 o293) (N1 o421)) (N o229 (N1 o357) L))) (N o53 (N (o85 p) (N o149 (N1 o277) (N1 o405)) (N o213 (N1 o341) (N1 o469))) (N o117 (N o181 (N1 o309) (N1 o437)) (N o245 (N1 (o373 p)) L)))) (N o29 (N o45 (N o77 (N o141 (N1 o269) (N1 o397)) (N o205 (N1 o333) (N1 o461))) (N o109 (N o173 (N1 o301) (N1 o429)) (N o237 (N1 o365) L))) (N o61 (N o93 (N o157 (N1 o285) (N1 o413)) (N o221 (N1 o349) (N1 o477))) (N o125 (N o189 (N1 o317) (N1 o445)) (N o253 (N1 (o381 p)) L)))))
def T2_2 (p : Params) : PySem.W.BT := N o4 (N o8 (N o16 (N o32 (N o64 (N o128 (N1 o256) (N1 o384)) (N o192 (N1 o320) (N1 o448))) (N o96 (N o160 (N1 o288) (N1 o416)) (N o224 (N1 o352) (N1 o480)))) (N o48 (N o80 (N o144 (N1 o272) (N1 o400)) (N o208 (N1 o336) (N1 o464))) (N o112 (N o176 (N1 o304) (N1 o432)) (N o240 (N1 o368) L)))) (N (o24 p) (N o40 (N o72 (N o136 (N1 o264) (N1 o392)) (N o200 (N1 o328) (N1 o456))) (N o104 (N o168 (N1 o296) (N1 o424)) (N o232 (N1 o360) L))) (N o56 (N o88 (N o152 (N1 o280) (N1 o408)) (N o216 (N1 o344) (N1 o472))) (N o120 (N o184 (N1 o312) (N1 o440)) (N o248 (N1 o376) L))))) (N o12_2 (N o20 (N o36 (N o68 (N o132 (N1 o260) (N1 o388)) (N o196 (N1 o324) (N1 o452))) (N o100 (N o164 (N1 o292) (N1 o420)) (N o228 (N1 o356) L))) (N (o52 p) (N o84 (N o148 (N1 o276) (N1 o404)) (N o212 (N1 o340) (N1 o468))) (N o116 (N o180 (N1 o308) (N1 (o436 p))) (N o244 (N1 o372) L)))) (N o28 (N o44 (N o76 (N o140 (N1 o268) (N1 o396)) (N o204 (N1 o332) (N1 o460))) (N o108 (N o172 (N1 o300) (N1 o428)) (N o236 (N1 o364) L))) (N o60 (N o92 (N (o156 p) (N1 o284) (N1 o412)) (N o220 (N1 o348) (N1 o476))) (N o124 (N o188 (N1 o316) (N1 o444)) (N o252 (N1 o380) L)))))
def T2_3 (p : Params) : PySem.W.BT := N o6 (N o10 (N o18 (N o34 (N o66 (N o130 (N1 o258) (N1 o386)) (N o194 (N1 o322) (N1 o450))) (N o98 (N o162 (N1 o290) (N1 o418)) (N o226 (N1 o354) (N1 o482)))) (N o50 (N o82 (N o146 (N1 o274) (N1 o402)) (N o210 (N1 o338) (N1 o466))) (N o114 (N o178 (N1 o306) (N1 o434)) (N o242 (N1 o370) L)))) (N o26 (N o42 (N o74 (N o138 (N1 o266) (N1 o394)) (N o202 (N1 o330) (N1 o458))) (N (o106 p) (N o170 (N1 o298) (N1 o426)) (N o234 (N1 (o362 p)) L))) (N (o58 p) (N o90 (N o154 (N1 o282) (N1 o410)) (N o218 (N1 o346) (N1 o474))) (N o122 (N o186 (N1 o314) (N1 o442)) (N o250 (N1 o378) L))))) (N o14 (N o22 (N o38 (N o70 (N o134 (N1 (o262 p)) (N1 o390)) (N o198 (N1 o326) (N1 o454))) (N o102 (N o166 (N1 o294) (N1 o422)) (N o230 (N1 o358) L))) (N o54 (N o86 (N o150 (N1 o278) (N1 o406)) (N o214 (N1 o342) (N1 (o470 p)))) (N o118 (N o182 (N1 o310) (N1 o438)) (N o246 (N1 o374) L)))) (N (o30 p) (N o46 (N o78 (N o142 (N1 o270) (N1 o398)) (N o206 (N1 o334) (N1 o462))) (N o110 (N (o174 p) (N1 o302) (N1 o430)) (N o238 (N1 o366) L))) (N o62 (N o94 (N o158 (N1 o286) (N1 o414)) (N o222 (N1 o350) (N1 o478))) (N o126 (N (o190 p) (N1 o318) (N1 o446)) (N o254 (N1 o382) L)))))
def T2 (p : Params) : PySem.W.BT := N (o0 p) (N (o1 p) (T2_0 p) (T2_1 p)) (N (o2_2 p) (T2_2 p) (T2_3 p))
def o3_3 (p : Params) : Obj := ⟨(.type "dict"), none, (.dict #[en p (S "__name__") 165 (.str (S "bindertongue.askwork") 1769), en p (S "__doc__") 166 .none, en p (S "__package__") 167 .none, en p (S "__loader__") 168 (.builtin "__main__.__loader__#opaque"), en p (S "__spec__") 169 .none, en p (S "__annotations__") 170 (.ref 6), en p (S "__builtins__") 171 (.ref 4), en p (S "__file__") 173 (.str (S "/claim/cut.py") 172), en p (S "__cached__") 174 .none, en p (S "_wall") 193 (.ref 21), en p (S "BinderError") 215 (.ref 31), en p (S "Barred") 242 (.ref 53), en p (S "InvalidDeed") 269 (.ref 74), en p (S "TooWide") 285 (.ref 86), en p (S "InvalidText") 312 (.ref 107), en p (S "is_whole") 321 (.ref 116), en p (S "is_number") 328 (.ref 123), en p (S "is_string") 335 (.ref 130), en p (S "is_tuple_of") 343 (.ref 137), en p (S "LANGUAGE") 372 (.ref 138), en p (S "LETTERS") 374 (.str (S "abcdefghijklmnopqrstuvwxyz") 373), en p (S "MOST_LETTERS") 376 (.int 6 375), en p (S "HANDED") 378 (.str (S "x") 377), en p (S "PART_WORDS") 382 (.ref 139), en p (S "OPENED_WORDS") 386 (.ref 140), en p (S "NOT_GIVEN") 394 (.ref 141), en p (S "is_name") 400 (.ref 146), en p (S "word_told") 409 (.ref 153), en p (S "Words") 446 (.ref 175), en p (S "ASKS") 454 (.ref 180), en p (S "FREE") 456 (.str (S "free") 455), en p (S "NAME") 458 (.str (S "name") 457), en p (S "UNDER") 460 (.str (S "under") 459), en p (S "standard_pattern") 470 (.ref 187), en p (S "Lookup") 578 (.ref 263), en p (S "ends_in") 588 (.ref 274), en p (S "MOST_MAKERS") 592 (.int 1000 591), en p (S "MOST_DEEP") 594 (.int 50 593), en p (S "maker_of") 602 (.ref 281), en p (S "parts_asked") 613 (.ref 288), en p (S "is_tree_by") 619 (.ref 293), en p (S "branches_of") 631 (.ref 300), en p (S "own_names") 637 (.ref 305), en p (S "free_by") 643 (.ref 310), en p (S "renamed") 657 (.ref 317), en p (S "clear_by") 667 (.ref 324), en p (S "NEW_judgework") 671 (.str (S "new") 670), en p (S "Spot") 721 (.ref 348), en p (S "spot_of") 730 (.ref 359), en p (S "Case") 760 (.ref 374), en p (S "Answers") 851 (.ref 437), en p (S "says_by") 861 (.ref 448), en p (S "NEW_bodywork") 865 (.ref 449), en p (S "translated") 871 (.ref 454), en p (S "Node") 905 (.ref 471), en p (S "root_node") 917 (.ref 482), en p (S "Scope") 949 (.ref 497), en p (S "Walk") 1117 (.ref 595), en p (S "token_for") 1123 (.ref 604), en p (S "reference_at") 1136 (.ref 611), en p (S "Road") 1204 (.ref 654), en p (S "NamedRoad") 1240 (.ref 682), en p (S "next_script") 1248 (.ref 691), en p (S "MOST_ENDS_behindwork") 1252 (.int 40 1251), en p (S "is_handed_by") 1261 (.ref 698), en p (S "word_of") 1268 (.ref 705), en p (S "test_of") 1275 (.ref 712), en p (S "Making") 1319 (.ref 734), en p (S "made_case") 1329 (.ref 745), en p (S "made_cases") 1335 (.ref 750), en p (S "MOST_DEMANDS") 1339 (.int 16 1338), en p (S "is_part_of") 1345 (.ref 755), en p (S "formed") 1351 (.ref 760), en p (S "count_demands") 1357 (.ref 765), en p (S "all_demands") 1363 (.ref 770), en p (S "cuts_of") 1374 (.ref 777), en p (S "lots_of") 1380 (.ref 782), en p (S "MOST_WAYS") 1384 (.int 3000 1383), en p (S "Way") 1426 (.ref 806), en p (S "namings") 1432 (.ref 815), en p (S "names_for") 1438 (.ref 820), en p (S "names_by_place") 1444 (.ref 825), en p (S "demanded") 1450 (.ref 830), en p (S "part_target") 1456 (.ref 835), en p (S "parts_of_way") 1462 (.ref 840), en p (S "demands_of") 1468 (.ref 845), en p (S "joined") 1478 (.ref 852), en p (S "Shop") 1566 (.ref 900), en p (S "MOST_TARGETS") 1570 (.int 150 1569), en p (S "MOST_ROUND") 1572 (.int 3 1571), en p (S "Round") 1660 (.ref 964), en p (S "telling") 1670 (.ref 975), en p (S "is_ever_by") 1678 (.ref 982), en p (S "given_at") 1686 (.ref 987), en p (S "for_a_name") 1692 (.ref 992), en p (S "demanding") 1702 (.ref 999), en p (S "ever_by") 1712 (.ref 1006), en p (S "alike_by") 1724 (.ref 1013), en p (S "right_by") 1732 (.ref 1020), en p (S "keeps_by") 1744 (.ref 1027), en p (S "is_never_in") 1753 (.ref 1034), en p (S "shop_of") 1760 (.ref 1041), en p (S "is_never_by") 1768 (.ref 1048)] 103), #[]⟩
def o12_3 : Obj := ⟨.none, none, (.fields #[(.int 1 0), (.int 0 0), (.ref 20), (.int 5 0), (.int 0 0), (.ref 27), (.int 7 0), (.int 0 0), (.ref 41), (.int 12 0), (.int 0 0), (.ref 62), (.int 17 0), (.int 0 0), (.ref 82), (.int 19 0), (.int 0 0), (.ref 95), (.int 25 0), (.int 0 0), (.ref 115), (.int 27 0), (.int 0 0), (.ref 122), (.int 29 0), (.int 0 0), (.ref 129), (.int 31 0), (.int 0 0), (.ref 136), (.int 41 0), (.int 0 0), (.ref 145), (.int 45 0), (.int 0 0), (.ref 152), (.int 50 0), (.int 0 0), (.ref 159), (.int 69 0), (.int 0 0), (.ref 186), (.int 74 0), (.int 0 0), (.ref 193), (.int 123 0), (.int 0 0), (.ref 273), (.int 135 0), (.int 0 0), (.ref 280), (.int 141 0), (.int 0 0), (.ref 287), (.int 154 0), (.int 0 0), (.ref 292), (.int 168 0), (.int 0 0), (.ref 299), (.int 176 0), (.int 0 0), (.ref 304), (.int 179 0), (.int 0 0), (.ref 309), (.int 188 0), (.int 0 0), (.ref 316), (.int 199 0), (.int 0 0), (.ref 323), (.int 203 0), (.int 0 0), (.ref 330), (.int 226 0), (.int 0 0), (.ref 358), (.int 228 0), (.int 0 0), (.ref 365), (.int 245 0), (.int 0 0), (.ref 384), (.int 287 0), (.int 0 0), (.ref 447), (.int 291 0), (.int 0 0), (.ref 453), (.int 302 0), (.int 0 0), (.ref 460), (.int 310 0), (.int 0 0), (.ref 481), (.int 320 0), (.int 0 0), (.ref 488), (.int 339 0), (.int 0 0), (.ref 507), (.int 449 0), (.int 0 0), (.ref 603), (.int 452 0), (.int 0 0), (.ref 610), (.int 465 0), (.int 0 0), (.ref 617), (.int 488 0), (.int 0 0), (.ref 664), (.int 496 0), (.int 0 0), (.ref 690), (.int 503 0), (.int 0 0), (.ref 697), (.int 508 0), (.int 0 0), (.ref 704), (.int 518 0), (.int 0 0), (.ref 711), (.int 522 0), (.int 0 0), (.ref 718), (.int 544 0), (.int 0 0), (.ref 744), (.int 547 0), (.int 0 0), (.ref 749), (.int 551 0), (.int 0 0), (.ref 754), (.int 553 0), (.int 0 0), (.ref 759), (.int 556 0), (.int 0 0), (.ref 764), (.int 558 0), (.int 0 0), (.ref 769), (.int 560 0), (.int 0 0), (.ref 776), (.int 569 0), (.int 0 0), (.ref 781), (.int 577 0), (.int 0 0), (.ref 788), (.int 587 0), (.int 0 0), (.ref 814), (.int 593 0), (.int 0 0), (.ref 819), (.int 597 0), (.int 0 0), (.ref 824), (.int 600 0), (.int 0 0), (.ref 829), (.int 602 0), (.int 0 0), (.ref 834), (.int 614 0), (.int 0 0), (.ref 839), (.int 620 0), (.int 0 0), (.ref 844), (.int 627 0), (.int 0 0), (.ref 851), (.int 632 0), (.int 0 0), (.ref 858), (.int 693 0), (.int 0 0), (.ref 910), (.int 756 0), (.int 0 0), (.ref 974), (.int 762 0), (.int 0 0), (.ref 981), (.int 765 0), (.int 0 0), (.ref 986), (.int 767 0), (.int 0 0), (.ref 991), (.int 771 0), (.int 0 0), (.ref 998), (.int 775 0), (.int 0 0), (.ref 1005), (.int 777 0), (.int 0 0), (.ref 1012), (.int 782 0), (.int 0 0), (.ref 1019), (.int 784 0), (.int 0 0), (.ref 1026), (.int 787 0), (.int 0 0), (.ref 1033), (.int 792 0), (.int 0 0), (.ref 1040), (.int 794 0), (.int 0 0), (.ref 1047)]), #[]⟩
def o483 : Obj := ⟨(.type "tuple"), none, (.seq #[] 0), #[]⟩
def o484 : Obj := ⟨(.type "builtin_function_or_method"), none, (.fields #[(.builtin "type.__prepare__"), (.type "type")]), #[]⟩
def o485 (p : Params) : Obj := ⟨(.type "dict"), none, (.dict #[en p (S "__module__") 925 (.str (S "bindertongue.bodywork") 862), en p (S "__qualname__") 927 (.str (S "Scope") 926), en p (S "__firstlineno__") 929 (.int 320 928), en p (S "__init__") 935 (.ref 494), en p (S "__static_attributes__") 942 (.ref 495)] 5), #[]⟩
def o486 : Obj := ⟨(.type "tuple"), none, (.seq #[] 0), #[]⟩
def o487 : Obj := ⟨.none, none, (.fields #[(.int 322 0), (.int 4 0), (.ref 493)]), #[]⟩
def o488 : Obj := ⟨(.type "code"), none, (.fields #[(.str (S "Scope") 920), (.str (S "Scope") 921), (.str (S "/claim/cut.py") 922), (.int 320 0), (.int 0 0), (.int 0 0), (.int 0 0), (.int 0 0), (.ref 486), (.bool false), (.int 181 0), (.ref 487), .none, .none, .none, .none, (.int 923 0), (.int 320 0), (.str (S "/claim/cut.py") 924)]), #[]⟩
def o489 : Obj := ⟨(.type "frame"), none, .plain, #[(some (.ref 488)), (some (.ref 3)), (some (.ref 485)), none, (some (.str (S "bindertongue.bodywork") 862)), none, (some (.ref 0))]⟩
def o490 : Obj := ⟨(.type "tuple"), none, (.seq #[] 0), #[]⟩
def o491 : Obj := ⟨.none, none, (.fields #[]), #[]⟩
def o492 : Obj := ⟨.none, none, (fD (inC 54 0) (S "__init__") (S "Scope.__init__") 0 [] .none .none .none .none none .none .none 0), #[]⟩
def o493 : Obj := ⟨(.type "code"), none, (.fields #[(.str (S "__init__") 930), (.str (S "Scope.__init__") 931), (.str (S "/claim/cut.py") 932), (.int 322 0), (.int 5 0), (.int 0 0), (.int 0 0), (.int 3 0), (.ref 490), (.bool true), (.int 181 0), (.ref 491), .none, .none, .none, (.ref 492), (.int 933 0), (.int 322 0), (.str (S "/claim/cut.py") 934)]), #[]⟩
def o494 : Obj := ⟨(.type "function"), none, (fD (inC 54 0) (S "__init__") (S "Scope.__init__") 3 [] .none .none .none (.str (S "bindertongue.bodywork") 862) none (.ref 493) .none 0), #[]⟩
def o495 : Obj := ⟨(.type "tuple"), none, (.seq #[(.str (S "body") 936), (.str (S "names") 937), (.str (S "opened") 938), (.str (S "parts") 939), (.str (S "tag") 940), (.str (S "under") 941)] 0), #[]⟩
def o496 (p : Params) : Obj := ⟨(.type "dict"), none, (.dict #[en p (S "__module__") 925 (.str (S "bindertongue.bodywork") 862), en p (S "__firstlineno__") 929 (.int 320 928), en p (S "__init__") 935 (.ref 494), en p (S "__static_attributes__") 942 (.ref 495), en p (S "__dict__") 944 (.ref 498), en p (S "__weakref__") 946 (.ref 499), en p (S "__doc__") 947 .none] 4), #[]⟩
def o497 : Obj := ⟨(.type "type"), none, (.cls ⟨(S "Scope"), [(.type "object")], [(.ref 497), (.type "object")], 496, (S "Scope"), true, [], [], false, none, false⟩), #[none, none, (some (.str (S "Scope") 918)), (some (.str (S "Scope") 926)), (some (.builtin "object.__new__")), (some (.bool true))]⟩
def o498 : Obj := ⟨(.type "getset_descriptor"), none, (.fields #[(.str (S "__dict__") 943), (.ref 497), (.builtin "function.__dict__"), (.builtin "function.__dict__#set")]), #[]⟩
def o499 : Obj := ⟨(.type "getset_descriptor"), none, (.fields #[(.str (S "__weakref__") 945), (.ref 497), (.builtin "ExceptionGroup.__weakref__"), .none]), #[]⟩
def o500 : Obj := ⟨(.type "super"), none, (.fields #[(.ref 497), (.ref 497), (.ref 497)]), #[]⟩
def o501 : Obj := ⟨(.type "builtin_function_or_method"), none, (.fields #[(.builtin "object.__init_subclass__"), (.ref 497)]), #[]⟩
def o502 : Obj := ⟨(.type "tuple"), none, (.seq #[] 0), #[]⟩
def o503 : Obj := ⟨(.type "builtin_function_or_method"), none, (.fields #[(.builtin "type.__prepare__"), (.type "type")]), #[]⟩
def o504 (p : Params) : Obj := ⟨(.type "dict"), none, (.dict #[en p (S "__module__") 957 (.str (S "bindertongue.bodywork") 862), en p (S "__qualname__") 959 (.str (S "Walk") 958), en p (S "__firstlineno__") 961 (.int 339 960), en p (S "__init__") 970 (.ref 515), en p (S "same") 980 (.ref 522), en p (S "says") 995 (.ref 529), en p (S "judged") 1006 (.ref 536), en p (S "is_free") 1016 (.ref 543), en p (S "run") 1026 (.ref 550), en p (S "is_so") 1037 (.ref 557), en p (S "resolved") 1055 (.ref 564), en p (S "spot_for") 1071 (.ref 571), en p (S "escapes") 1081 (.ref 578), en p (S "does_escape") 1093 (.ref 585), en p (S "does_part_escape") 1107 (.ref 592), en p (S "__static_attributes__") 1110 (.ref 593)] 16), #[]⟩
def o505 : Obj := ⟨(.type "tuple"), none, (.seq #[] 0), #[]⟩
def o506 : Obj := ⟨.none, none, (.fields #[(.int 341 0), (.int 4 0), (.ref 514), (.int 345 0), (.int 4 0), (.ref 521), (.int 353 0), (.int 4 0), (.ref 528), (.int 362 0), (.int 4 0), (.ref 535), (.int 368 0), (.int 4 0), (.ref 542), (.int 376 0), (.int 4 0), (.ref 549), (.int 385 0), (.int 4 0), (.ref 556), (.int 392 0), (.int 4 0), (.ref 563), (.int 406 0), (.int 4 0), (.ref 570), (.int 423 0), (.int 4 0), (.ref 577), (.int 427 0), (.int 4 0), (.ref 584), (.int 441 0), (.int 4 0), (.ref 591)]), #[]⟩
def o507 : Obj := ⟨(.type "code"), none, (.fields #[(.str (S "Walk") 952), (.str (S "Walk") 953), (.str (S "/claim/cut.py") 954), (.int 339 0), (.int 0 0), (.int 0 0), (.int 0 0), (.int 0 0), (.ref 505), (.bool false), (.int 181 0), (.ref 506), .none, .none, .none, .none, (.int 955 0), (.int 339 0), (.str (S "/claim/cut.py") 956)]), #[]⟩
def o508 : Obj := ⟨(.type "frame"), none, .plain, #[(some (.ref 507)), (some (.ref 3)), (some (.ref 504)), none, (some (.str (S "bindertongue.bodywork") 862)), none, (some (.ref 0))]⟩
def o509 : Obj := ⟨(.type "tuple"), none, (.seq #[] 0), #[]⟩
def o510 : Obj := ⟨.none, none, (.fields #[]), #[]⟩
def o511 : Obj := ⟨(.type "tuple"), none, (.seq #[(.str (S "self") 965), (.str (S "look") 966), (.str (S "road") 967)] 0), #[]⟩
def o512 : Obj := ⟨(.type "tuple"), none, (.seq #[] 0), #[]⟩
def o513 : Obj := ⟨.none, none, (fD (inC 55 0) (S "__init__") (S "Walk.__init__") 0 [] .none .none .none .none none .none .none 0), #[]⟩
def o514 : Obj := ⟨(.type "code"), none, (.fields #[(.str (S "__init__") 962), (.str (S "Walk.__init__") 963), (.str (S "/claim/cut.py") 964), (.int 341 0), (.int 3 0), (.int 0 0), (.int 0 0), (.int 3 0), (.ref 509), (.bool true), (.int 181 0), (.ref 510), .none, (.ref 511), (.ref 512), (.ref 513), (.int 968 0), (.int 341 0), (.str (S "/claim/cut.py") 969)]), #[]⟩
def o515 : Obj := ⟨(.type "function"), none, (fD (inC 55 0) (S "__init__") (S "Walk.__init__") 3 [] .none .none .none (.str (S "bindertongue.bodywork") 862) none (.ref 514) .none 0), #[]⟩
def o516 : Obj := ⟨(.type "tuple"), none, (.seq #[] 0), #[]⟩
def o517 : Obj := ⟨.none, none, (.fields #[]), #[]⟩
def o518 : Obj := ⟨(.type "tuple"), none, (.seq #[(.str (S "self") 974), (.str (S "one") 975), (.str (S "other") 976), (.str (S "heads") 977)] 0), #[]⟩
def o519 : Obj := ⟨(.type "tuple"), none, (.seq #[] 0), #[]⟩
def o520 : Obj := ⟨.none, none, (fD (inC 55 1) (S "same") (S "Walk.same") 0 [] .none .none .none .none none .none .none 0), #[]⟩
def o521 : Obj := ⟨(.type "code"), none, (.fields #[(.str (S "same") 971), (.str (S "Walk.same") 972), (.str (S "/claim/cut.py") 973), (.int 345 0), (.int 3 0), (.int 0 0), (.int 0 0), (.int 3 0), (.ref 516), (.bool true), (.int 181 0), (.ref 517), .none, (.ref 518), (.ref 519), (.ref 520), (.int 978 0), (.int 345 0), (.str (S "/claim/cut.py") 979)]), #[]⟩
def o522 : Obj := ⟨(.type "function"), none, (fD (inC 55 1) (S "same") (S "Walk.same") 3 [] .none .none .none (.str (S "bindertongue.bodywork") 862) none (.ref 521) .none 0), #[]⟩
def o523 : Obj := ⟨(.type "tuple"), none, (.seq #[] 0), #[]⟩
def o524 : Obj := ⟨.none, none, (.fields #[]), #[]⟩
def o525 : Obj := ⟨(.type "tuple"), none, (.seq #[(.str (S "self") 984), (.str (S "judge") 985), (.str (S "spot") 986), (.str (S "token") 987), (.str (S "envs") 988), (.str (S "core") 989), (.str (S "here") 990), (.str (S "env") 991), (.str (S "tag") 992)] 0), #[]⟩
def o526 : Obj := ⟨(.type "tuple"), none, (.seq #[] 0), #[]⟩
def o527 : Obj := ⟨.none, none, (fD (inC 55 2) (S "says") (S "Walk.says") 0 [] .none .none .none .none none .none .none 0), #[]⟩
def o528 : Obj := ⟨(.type "code"), none, (.fields #[(.str (S "says") 981), (.str (S "Walk.says") 982), (.str (S "/claim/cut.py") 983), (.int 353 0), (.int 4 0), (.int 0 0), (.int 0 0), (.int 3 0), (.ref 523), (.bool true), (.int 181 0), (.ref 524), .none, (.ref 525), (.ref 526), (.ref 527), (.int 993 0), (.int 353 0), (.str (S "/claim/cut.py") 994)]), #[]⟩
def o529 : Obj := ⟨(.type "function"), none, (fD (inC 55 2) (S "says") (S "Walk.says") 3 [] .none .none .none (.str (S "bindertongue.bodywork") 862) none (.ref 528) .none 0), #[]⟩
def o530 : Obj := ⟨(.type "tuple"), none, (.seq #[] 0), #[]⟩
def o531 : Obj := ⟨.none, none, (.fields #[]), #[]⟩
def o532 : Obj := ⟨(.type "tuple"), none, (.seq #[(.str (S "self") 999), (.str (S "judge") 1000), (.str (S "node") 1001), (.str (S "token") 1002), (.str (S "scope") 1003)] 0), #[]⟩
def o533 : Obj := ⟨(.type "tuple"), none, (.seq #[] 0), #[]⟩
def o534 : Obj := ⟨.none, none, (fD (inC 55 3) (S "judged") (S "Walk.judged") 0 [] .none .none .none .none none .none .none 0), #[]⟩
def o535 : Obj := ⟨(.type "code"), none, (.fields #[(.str (S "judged") 996), (.str (S "Walk.judged") 997), (.str (S "/claim/cut.py") 998), (.int 362 0), (.int 4 0), (.int 0 0), (.int 0 0), (.int 3 0), (.ref 530), (.bool true), (.int 181 0), (.ref 531), .none, (.ref 532), (.ref 533), (.ref 534), (.int 1004 0), (.int 362 0), (.str (S "/claim/cut.py") 1005)]), #[]⟩
def o536 : Obj := ⟨(.type "function"), none, (fD (inC 55 3) (S "judged") (S "Walk.judged") 3 [] .none .none .none (.str (S "bindertongue.bodywork") 862) none (.ref 535) .none 0), #[]⟩
def o537 : Obj := ⟨(.type "tuple"), none, (.seq #[] 0), #[]⟩
def o538 : Obj := ⟨.none, none, (.fields #[]), #[]⟩
def o539 : Obj := ⟨(.type "tuple"), none, (.seq #[(.str (S "self") 1010), (.str (S "node") 1011), (.str (S "token") 1012), (.str (S "at") 1013)] 0), #[]⟩
def o540 : Obj := ⟨(.type "tuple"), none, (.seq #[] 0), #[]⟩
def o541 : Obj := ⟨.none, none, (fD (inC 55 4) (S "is_free") (S "Walk.is_free") 0 [] .none .none .none .none none .none .none 0), #[]⟩
def o542 : Obj := ⟨(.type "code"), none, (.fields #[(.str (S "is_free") 1007), (.str (S "Walk.is_free") 1008), (.str (S "/claim/cut.py") 1009), (.int 368 0), (.int 3 0), (.int 0 0), (.int 0 0), (.int 3 0), (.ref 537), (.bool true), (.int 181 0), (.ref 538), .none, (.ref 539), (.ref 540), (.ref 541), (.int 1014 0), (.int 368 0), (.str (S "/claim/cut.py") 1015)]), #[]⟩
def o543 : Obj := ⟨(.type "function"), none, (fD (inC 55 4) (S "is_free") (S "Walk.is_free") 3 [] .none .none .none (.str (S "bindertongue.bodywork") 862) none (.ref 542) .none 0), #[]⟩
def o544 : Obj := ⟨(.type "tuple"), none, (.seq #[] 0), #[]⟩
def o545 : Obj := ⟨.none, none, (.fields #[]), #[]⟩
def o546 : Obj := ⟨(.type "tuple"), none, (.seq #[(.str (S "self") 1020), (.str (S "scope") 1021), (.str (S "number") 1022), (.str (S "body") 1023)] 0), #[]⟩
def o547 : Obj := ⟨(.type "tuple"), none, (.seq #[] 0), #[]⟩
def o548 : Obj := ⟨.none, none, (fD (inC 55 5) (S "run") (S "Walk.run") 0 [] .none .none .none .none none .none .none 0), #[]⟩
def o549 : Obj := ⟨(.type "code"), none, (.fields #[(.str (S "run") 1017), (.str (S "Walk.run") 1018), (.str (S "/claim/cut.py") 1019), (.int 376 0), (.int 2 0), (.int 0 0), (.int 0 0), (.int 3 0), (.ref 544), (.bool true), (.int 181 0), (.ref 545), .none, (.ref 546), (.ref 547), (.ref 548), (.int 1024 0), (.int 376 0), (.str (S "/claim/cut.py") 1025)]), #[]⟩
def o550 : Obj := ⟨(.type "function"), none, (fD (inC 55 5) (S "run") (S "Walk.run") 3 [] .none .none .none (.str (S "bindertongue.bodywork") 862) none (.ref 549) .none 0), #[]⟩
def o551 : Obj := ⟨(.type "tuple"), none, (.seq #[] 0), #[]⟩
def o552 : Obj := ⟨.none, none, (.fields #[]), #[]⟩
def o553 : Obj := ⟨(.type "tuple"), none, (.seq #[(.str (S "self") 1030), (.str (S "scope") 1031), (.str (S "test") 1032), (.str (S "word") 1033), (.str (S "token") 1034)] 0), #[]⟩
def o554 : Obj := ⟨(.type "tuple"), none, (.seq #[] 0), #[]⟩
def o555 : Obj := ⟨.none, none, (fD (inC 55 6) (S "is_so") (S "Walk.is_so") 0 [] .none .none .none .none none .none .none 0), #[]⟩
def o556 : Obj := ⟨(.type "code"), none, (.fields #[(.str (S "is_so") 1027), (.str (S "Walk.is_so") 1028), (.str (S "/claim/cut.py") 1029), (.int 385 0), (.int 3 0), (.int 0 0), (.int 0 0), (.int 3 0), (.ref 551), (.bool true), (.int 181 0), (.ref 552), .none, (.ref 553), (.ref 554), (.ref 555), (.int 1035 0), (.int 385 0), (.str (S "/claim/cut.py") 1036)]), #[]⟩
def o557 : Obj := ⟨(.type "function"), none, (fD (inC 55 6) (S "is_so") (S "Walk.is_so") 3 [] .none .none .none (.str (S "bindertongue.bodywork") 862) none (.ref 556) .none 0), #[]⟩
def o558 : Obj := ⟨(.type "tuple"), none, (.seq #[] 0), #[]⟩
def o559 : Obj := ⟨.none, none, (.fields #[]), #[]⟩
def o560 : Obj := ⟨(.type "tuple"), none, (.seq #[(.str (S "self") 1041), (.str (S "spot") 1042), (.str (S "envs") 1043), (.str (S "core") 1044), (.str (S "word") 1045), (.str (S "turner") 1046), (.str (S "inner") 1047), (.str (S "env") 1048), (.str (S "tag") 1049), (.str (S "scope") 1050), (.str (S "more") 1051), (.str (S "last") 1052)] 0), #[]⟩
def o561 : Obj := ⟨(.type "tuple"), none, (.seq #[] 0), #[]⟩
def o562 : Obj := ⟨.none, none, (fD (inC 55 7) (S "resolved") (S "Walk.resolved") 0 [] .none .none .none .none none .none .none 0), #[]⟩
def o563 : Obj := ⟨(.type "code"), none, (.fields #[(.str (S "resolved") 1038), (.str (S "Walk.resolved") 1039), (.str (S "/claim/cut.py") 1040), (.int 392 0), (.int 2 0), (.int 0 0), (.int 0 0), (.int 3 0), (.ref 558), (.bool true), (.int 181 0), (.ref 559), .none, (.ref 560), (.ref 561), (.ref 562), (.int 1053 0), (.int 392 0), (.str (S "/claim/cut.py") 1054)]), #[]⟩
def o564 : Obj := ⟨(.type "function"), none, (fD (inC 55 7) (S "resolved") (S "Walk.resolved") 3 [] .none .none .none (.str (S "bindertongue.bodywork") 862) none (.ref 563) .none 0), #[]⟩
def o565 : Obj := ⟨(.type "tuple"), none, (.seq #[] 0), #[]⟩
def o566 : Obj := ⟨.none, none, (.fields #[]), #[]⟩
def o567 : Obj := ⟨(.type "tuple"), none, (.seq #[(.str (S "self") 1059), (.str (S "expression") 1060), (.str (S "scope") 1061), (.str (S "env") 1062), (.str (S "places") 1063), (.str (S "found") 1064), (.str (S "at") 1065), (.str (S "place") 1066), (.str (S "own") 1067), (.str (S "inner") 1068)] 0), #[]⟩
def o568 : Obj := ⟨(.type "tuple"), none, (.seq #[] 0), #[]⟩
def o569 : Obj := ⟨.none, none, (fD (inC 55 8) (S "spot_for") (S "Walk.spot_for") 0 [] .none .none .none .none none .none .none 0), #[]⟩
def o570 : Obj := ⟨(.type "code"), none, (.fields #[(.str (S "spot_for") 1056), (.str (S "Walk.spot_for") 1057), (.str (S "/claim/cut.py") 1058), (.int 406 0), (.int 5 0), (.int 0 0), (.int 0 0), (.int 3 0), (.ref 565), (.bool true), (.int 181 0), (.ref 566), .none, (.ref 567), (.ref 568), (.ref 569), (.int 1069 0), (.int 406 0), (.str (S "/claim/cut.py") 1070)]), #[]⟩
def o571 : Obj := ⟨(.type "function"), none, (fD (inC 55 8) (S "spot_for") (S "Walk.spot_for") 3 [] .none .none .none (.str (S "bindertongue.bodywork") 862) none (.ref 570) .none 0), #[]⟩
def o572 : Obj := ⟨(.type "tuple"), none, (.seq #[] 0), #[]⟩
def o573 : Obj := ⟨.none, none, (.fields #[]), #[]⟩
def o574 : Obj := ⟨(.type "tuple"), none, (.seq #[(.str (S "self") 1075), (.str (S "turner") 1076), (.str (S "node") 1077), (.str (S "scope") 1078)] 0), #[]⟩
def o575 : Obj := ⟨(.type "tuple"), none, (.seq #[] 0), #[]⟩
def o576 : Obj := ⟨.none, none, (fD (inC 55 9) (S "escapes") (S "Walk.escapes") 0 [] .none .none .none .none none .none .none 0), #[]⟩
def o577 : Obj := ⟨(.type "code"), none, (.fields #[(.str (S "escapes") 1072), (.str (S "Walk.escapes") 1073), (.str (S "/claim/cut.py") 1074), (.int 423 0), (.int 3 0), (.int 0 0), (.int 0 0), (.int 3 0), (.ref 572), (.bool true), (.int 181 0), (.ref 573), .none, (.ref 574), (.ref 575), (.ref 576), (.int 1079 0), (.int 423 0), (.str (S "/claim/cut.py") 1080)]), #[]⟩
def o578 : Obj := ⟨(.type "function"), none, (fD (inC 55 9) (S "escapes") (S "Walk.escapes") 3 [] .none .none .none (.str (S "bindertongue.bodywork") 862) none (.ref 577) .none 0), #[]⟩
def o579 : Obj := ⟨(.type "tuple"), none, (.seq #[] 0), #[]⟩
def o580 : Obj := ⟨.none, none, (.fields #[]), #[]⟩
def o581 : Obj := ⟨(.type "tuple"), none, (.seq #[(.str (S "self") 1085), (.str (S "expression") 1086), (.str (S "scope") 1087), (.str (S "words") 1088), (.str (S "place") 1089), (.str (S "own") 1090)] 0), #[]⟩
def o582 : Obj := ⟨(.type "tuple"), none, (.seq #[] 0), #[]⟩
def o583 : Obj := ⟨.none, none, (fD (inC 55 10) (S "does_escape") (S "Walk.does_escape") 0 [] .none .none .none .none none .none .none 0), #[]⟩
def o584 : Obj := ⟨(.type "code"), none, (.fields #[(.str (S "does_escape") 1082), (.str (S "Walk.does_escape") 1083), (.str (S "/claim/cut.py") 1084), (.int 427 0), (.int 4 0), (.int 0 0), (.int 0 0), (.int 3 0), (.ref 579), (.bool true), (.int 181 0), (.ref 580), .none, (.ref 581), (.ref 582), (.ref 583), (.int 1091 0), (.int 427 0), (.str (S "/claim/cut.py") 1092)]), #[]⟩
def o585 : Obj := ⟨(.type "function"), none, (fD (inC 55 10) (S "does_escape") (S "Walk.does_escape") 3 [] .none .none .none (.str (S "bindertongue.bodywork") 862) none (.ref 584) .none 0), #[]⟩
def o586 : Obj := ⟨(.type "tuple"), none, (.seq #[] 0), #[]⟩
def o587 : Obj := ⟨.none, none, (.fields #[]), #[]⟩
def o588 : Obj := ⟨(.type "tuple"), none, (.seq #[(.str (S "self") 1097), (.str (S "expression") 1098), (.str (S "scope") 1099), (.str (S "words") 1100), (.str (S "part") 1101), (.str (S "spot") 1102), (.str (S "word") 1103), (.str (S "here") 1104)] 0), #[]⟩
def o589 : Obj := ⟨(.type "tuple"), none, (.seq #[] 0), #[]⟩
def o590 : Obj := ⟨.none, none, (fD (inC 55 11) (S "does_part_escape") (S "Walk.does_part_escape") 0 [] .none .none .none .none none .none .none 0), #[]⟩
def o591 : Obj := ⟨(.type "code"), none, (.fields #[(.str (S "does_part_escape") 1094), (.str (S "Walk.does_part_escape") 1095), (.str (S "/claim/cut.py") 1096), (.int 441 0), (.int 4 0), (.int 0 0), (.int 0 0), (.int 3 0), (.ref 586), (.bool true), (.int 181 0), (.ref 587), .none, (.ref 588), (.ref 589), (.ref 590), (.int 1105 0), (.int 441 0), (.str (S "/claim/cut.py") 1106)]), #[]⟩
def o592 : Obj := ⟨(.type "function"), none, (fD (inC 55 11) (S "does_part_escape") (S "Walk.does_part_escape") 3 [] .none .none .none (.str (S "bindertongue.bodywork") 862) none (.ref 591) .none 0), #[]⟩
def o593 : Obj := ⟨(.type "tuple"), none, (.seq #[(.str (S "look") 1108), (.str (S "road") 1109)] 0), #[]⟩
def o594 (p : Params) : Obj := ⟨(.type "dict"), none, (.dict #[en p (S "__module__") 957 (.str (S "bindertongue.bodywork") 862), en p (S "__firstlineno__") 961 (.int 339 960), en p (S "__init__") 970 (.ref 515), en p (S "same") 980 (.ref 522), en p (S "says") 995 (.ref 529), en p (S "judged") 1006 (.ref 536), en p (S "is_free") 1016 (.ref 543), en p (S "run") 1026 (.ref 550), en p (S "is_so") 1037 (.ref 557), en p (S "resolved") 1055 (.ref 564), en p (S "spot_for") 1071 (.ref 571), en p (S "escapes") 1081 (.ref 578), en p (S "does_escape") 1093 (.ref 585), en p (S "does_part_escape") 1107 (.ref 592), en p (S "__static_attributes__") 1110 (.ref 593), en p (S "__dict__") 1112 (.ref 596), en p (S "__weakref__") 1114 (.ref 597), en p (S "__doc__") 1115 .none] 4), #[]⟩
def o595 : Obj := ⟨(.type "type"), none, (.cls ⟨(S "Walk"), [(.type "object")], [(.ref 595), (.type "object")], 594, (S "Walk"), true, [], [], false, none, false⟩), #[none, none, (some (.str (S "Walk") 950)), (some (.str (S "Walk") 958)), (some (.builtin "object.__new__")), (some (.bool true))]⟩
def o596 : Obj := ⟨(.type "getset_descriptor"), none, (.fields #[(.str (S "__dict__") 1111), (.ref 595), (.builtin "function.__dict__"), (.builtin "function.__dict__#set")]), #[]⟩
def o597 : Obj := ⟨(.type "getset_descriptor"), none, (.fields #[(.str (S "__weakref__") 1113), (.ref 595), (.builtin "ExceptionGroup.__weakref__"), .none]), #[]⟩
def o598 : Obj := ⟨(.type "super"), none, (.fields #[(.ref 595), (.ref 595), (.ref 595)]), #[]⟩
def o599 : Obj := ⟨(.type "builtin_function_or_method"), none, (.fields #[(.builtin "object.__init_subclass__"), (.ref 595)]), #[]⟩
def o600 : Obj := ⟨(.type "tuple"), none, (.seq #[] 0), #[]⟩
def o601 : Obj := ⟨.none, none, (.fields #[]), #[]⟩
def o602 : Obj := ⟨.none, none, (fD (top 56) (S "token_for") (S "token_for") 0 [] .none .none .none .none none .none .none 0), #[]⟩
def o603 : Obj := ⟨(.type "code"), none, (.fields #[(.str (S "token_for") 1118), (.str (S "token_for") 1119), (.str (S "/claim/cut.py") 1120), (.int 449 0), (.int 3 0), (.int 0 0), (.int 0 0), (.int 3 0), (.ref 600), (.bool true), (.int 181 0), (.ref 601), .none, .none, .none, (.ref 602), (.int 1121 0), (.int 449 0), (.str (S "/claim/cut.py") 1122)]), #[]⟩
def o604 : Obj := ⟨(.type "function"), none, (fD (top 56) (S "token_for") (S "token_for") 3 [] .none .none .none (.str (S "bindertongue.bodywork") 862) none (.ref 603) .none 0), #[]⟩
def o605 : Obj := ⟨(.type "tuple"), none, (.seq #[] 0), #[]⟩
def o606 : Obj := ⟨.none, none, (.fields #[]), #[]⟩
def o607 : Obj := ⟨(.type "tuple"), none, (.seq #[(.str (S "walk") 1127), (.str (S "reference") 1128), (.str (S "node") 1129), (.str (S "token") 1130), (.str (S "look") 1131), (.str (S "spot") 1132), (.str (S "turner") 1133)] 0), #[]⟩
def o608 : Obj := ⟨(.type "tuple"), none, (.seq #[] 0), #[]⟩
def o609 : Obj := ⟨.none, none, (fD (top 57) (S "reference_at") (S "reference_at") 0 [] .none .none .none .none none .none .none 0), #[]⟩
def o610 : Obj := ⟨(.type "code"), none, (.fields #[(.str (S "reference_at") 1124), (.str (S "reference_at") 1125), (.str (S "/claim/cut.py") 1126), (.int 452 0), (.int 4 0), (.int 0 0), (.int 0 0), (.int 3 0), (.ref 605), (.bool true), (.int 181 0), (.ref 606), .none, (.ref 607), (.ref 608), (.ref 609), (.int 1134 0), (.int 452 0), (.str (S "/claim/cut.py") 1135)]), #[]⟩
def o611 : Obj := ⟨(.type "function"), none, (fD (top 57) (S "reference_at") (S "reference_at") 3 [] .none .none .none (.str (S "bindertongue.bodywork") 862) none (.ref 610) .none 0), #[]⟩
def o612 : Obj := ⟨(.type "tuple"), none, (.seq #[] 0), #[]⟩
def o613 : Obj := ⟨(.type "builtin_function_or_method"), none, (.fields #[(.builtin "type.__prepare__"), (.type "type")]), #[]⟩
def o614 (p : Params) : Obj := ⟨(.type "dict"), none, (.dict #[en p (S "__module__") 1146 (.str (S "bindertongue.roadwork") 1137), en p (S "__qualname__") 1148 (.str (S "Road") 1147), en p (S "__firstlineno__") 1150 (.int 465 1149), en p (S "__init__") 1158 (.ref 625), en p (S "answer") 1167 (.ref 632), en p (S "answers") 1173 (.ref 637), en p (S "ask") 1183 (.ref 644), en p (S "same") 1193 (.ref 651), en p (S "__static_attributes__") 1197 (.ref 652)] 9), #[]⟩
def o615 : Obj := ⟨(.type "tuple"), none, (.seq #[] 0), #[]⟩
def o616 : Obj := ⟨.none, none, (.fields #[(.int 467 0), (.int 4 0), (.ref 624), (.int 472 0), (.int 4 0), (.ref 631), (.int 479 0), (.int 4 0), (.ref 636), (.int 482 0), (.int 4 0), (.ref 643), (.int 485 0), (.int 4 0), (.ref 650)]), #[]⟩
def o617 : Obj := ⟨(.type "code"), none, (.fields #[(.str (S "Road") 1141), (.str (S "Road") 1142), (.str (S "/claim/cut.py") 1143), (.int 465 0), (.int 0 0), (.int 0 0), (.int 0 0), (.int 0 0), (.ref 615), (.bool false), (.int 181 0), (.ref 616), .none, .none, .none, .none, (.int 1144 0), (.int 465 0), (.str (S "/claim/cut.py") 1145)]), #[]⟩
def o618 : Obj := ⟨(.type "frame"), none, .plain, #[(some (.ref 617)), (some (.ref 3)), (some (.ref 614)), none, (some (.str (S "bindertongue.roadwork") 1137)), none, (some (.ref 0))]⟩
def o619 : Obj := ⟨(.type "tuple"), none, (.seq #[] 0), #[]⟩
def o620 : Obj := ⟨.none, none, (.fields #[]), #[]⟩
def o621 : Obj := ⟨(.type "tuple"), none, (.seq #[(.str (S "self") 1154), (.str (S "script") 1155)] 0), #[]⟩
def o622 : Obj := ⟨(.type "tuple"), none, (.seq #[] 0), #[]⟩
def o623 : Obj := ⟨.none, none, (fD (inC 59 0) (S "__init__") (S "Road.__init__") 0 [] .none .none .none .none none .none .none 0), #[]⟩
def o624 : Obj := ⟨(.type "code"), none, (.fields #[(.str (S "__init__") 1151), (.str (S "Road.__init__") 1152), (.str (S "/claim/cut.py") 1153), (.int 467 0), (.int 2 0), (.int 0 0), (.int 0 0), (.int 3 0), (.ref 619), (.bool true), (.int 181 0), (.ref 620), .none, (.ref 621), (.ref 622), (.ref 623), (.int 1156 0), (.int 467 0), (.str (S "/claim/cut.py") 1157)]), #[]⟩
def o625 : Obj := ⟨(.type "function"), none, (fD (inC 59 0) (S "__init__") (S "Road.__init__") 3 [] .none .none .none (.str (S "bindertongue.roadwork") 1137) none (.ref 624) .none 0), #[]⟩
def o626 : Obj := ⟨(.type "tuple"), none, (.seq #[] 0), #[]⟩
def o627 : Obj := ⟨.none, none, (.fields #[]), #[]⟩
def o628 : Obj := ⟨(.type "tuple"), none, (.seq #[(.str (S "self") 1162), (.str (S "own") 1163), (.str (S "at") 1164)] 0), #[]⟩
def o629 : Obj := ⟨(.type "tuple"), none, (.seq #[] 0), #[]⟩
def o630 : Obj := ⟨.none, none, (fD (inC 59 1) (S "answer") (S "Road.answer") 0 [] .none .none .none .none none .none .none 0), #[]⟩
def o631 : Obj := ⟨(.type "code"), none, (.fields #[(.str (S "answer") 1159), (.str (S "Road.answer") 1160), (.str (S "/claim/cut.py") 1161), (.int 472 0), (.int 2 0), (.int 0 0), (.int 0 0), (.int 3 0), (.ref 626), (.bool true), (.int 181 0), (.ref 627), .none, (.ref 628), (.ref 629), (.ref 630), (.int 1165 0), (.int 472 0), (.str (S "/claim/cut.py") 1166)]), #[]⟩
def o632 : Obj := ⟨(.type "function"), none, (fD (inC 59 1) (S "answer") (S "Road.answer") 3 [] .none .none .none (.str (S "bindertongue.roadwork") 1137) none (.ref 631) .none 0), #[]⟩
def o633 : Obj := ⟨(.type "tuple"), none, (.seq #[] 0), #[]⟩
def o634 : Obj := ⟨.none, none, (.fields #[]), #[]⟩
def o635 : Obj := ⟨.none, none, (fD (inC 59 2) (S "answers") (S "Road.answers") 0 [] .none .none .none .none none .none .none 0), #[]⟩
def o636 : Obj := ⟨(.type "code"), none, (.fields #[(.str (S "answers") 1168), (.str (S "Road.answers") 1169), (.str (S "/claim/cut.py") 1170), (.int 479 0), (.int 1 0), (.int 0 0), (.int 0 0), (.int 3 0), (.ref 633), (.bool true), (.int 181 0), (.ref 634), .none, .none, .none, (.ref 635), (.int 1171 0), (.int 479 0), (.str (S "/claim/cut.py") 1172)]), #[]⟩
def o637 : Obj := ⟨(.type "function"), none, (fD (inC 59 2) (S "answers") (S "Road.answers") 3 [] .none .none .none (.str (S "bindertongue.roadwork") 1137) none (.ref 636) .none 0), #[]⟩
def o638 : Obj := ⟨(.type "tuple"), none, (.seq #[] 0), #[]⟩
def o639 : Obj := ⟨.none, none, (.fields #[]), #[]⟩
def o640 : Obj := ⟨(.type "tuple"), none, (.seq #[(.str (S "self") 1177), (.str (S "at") 1178), (.str (S "reference") 1179), (.str (S "token") 1180)] 0), #[]⟩
def o641 : Obj := ⟨(.type "tuple"), none, (.seq #[] 0), #[]⟩
def o642 : Obj := ⟨.none, none, (fD (inC 59 3) (S "ask") (S "Road.ask") 0 [] .none .none .none .none none .none .none 0), #[]⟩
def o643 : Obj := ⟨(.type "code"), none, (.fields #[(.str (S "ask") 1174), (.str (S "Road.ask") 1175), (.str (S "/claim/cut.py") 1176), (.int 482 0), (.int 4 0), (.int 0 0), (.int 0 0), (.int 3 0), (.ref 638), (.bool true), (.int 181 0), (.ref 639), .none, (.ref 640), (.ref 641), (.ref 642), (.int 1181 0), (.int 482 0), (.str (S "/claim/cut.py") 1182)]), #[]⟩
def o644 : Obj := ⟨(.type "function"), none, (fD (inC 59 3) (S "ask") (S "Road.ask") 3 [] .none .none .none (.str (S "bindertongue.roadwork") 1137) none (.ref 643) .none 0), #[]⟩
def o645 : Obj := ⟨(.type "tuple"), none, (.seq #[] 0), #[]⟩
def o646 : Obj := ⟨.none, none, (.fields #[]), #[]⟩
def o647 : Obj := ⟨(.type "tuple"), none, (.seq #[(.str (S "self") 1187), (.str (S "one") 1188), (.str (S "other") 1189), (.str (S "turned") 1190)] 0), #[]⟩
def o648 : Obj := ⟨(.type "tuple"), none, (.seq #[] 0), #[]⟩
def o649 : Obj := ⟨.none, none, (fD (inC 59 4) (S "same") (S "Road.same") 0 [] .none .none .none .none none .none .none 0), #[]⟩
def o650 : Obj := ⟨(.type "code"), none, (.fields #[(.str (S "same") 1184), (.str (S "Road.same") 1185), (.str (S "/claim/cut.py") 1186), (.int 485 0), (.int 3 0), (.int 0 0), (.int 0 0), (.int 3 0), (.ref 645), (.bool true), (.int 181 0), (.ref 646), .none, (.ref 647), (.ref 648), (.ref 649), (.int 1191 0), (.int 485 0), (.str (S "/claim/cut.py") 1192)]), #[]⟩
def o651 : Obj := ⟨(.type "function"), none, (fD (inC 59 4) (S "same") (S "Road.same") 3 [] .none .none .none (.str (S "bindertongue.roadwork") 1137) none (.ref 650) .none 0), #[]⟩
def o652 : Obj := ⟨(.type "tuple"), none, (.seq #[(.str (S "asked") 1194), (.str (S "known") 1195), (.str (S "script") 1196)] 0), #[]⟩
def o653 (p : Params) : Obj := ⟨(.type "dict"), none, (.dict #[en p (S "__module__") 1146 (.str (S "bindertongue.roadwork") 1137), en p (S "__firstlineno__") 1150 (.int 465 1149), en p (S "__init__") 1158 (.ref 625), en p (S "answer") 1167 (.ref 632), en p (S "answers") 1173 (.ref 637), en p (S "ask") 1183 (.ref 644), en p (S "same") 1193 (.ref 651), en p (S "__static_attributes__") 1197 (.ref 652), en p (S "__dict__") 1199 (.ref 655), en p (S "__weakref__") 1201 (.ref 656), en p (S "__doc__") 1202 .none] 4), #[]⟩
def o654 : Obj := ⟨(.type "type"), none, (.cls ⟨(S "Road"), [(.type "object")], [(.ref 654), (.type "object")], 653, (S "Road"), true, [], [(.ref 682)], false, none, false⟩), #[none, none, (some (.str (S "Road") 1139)), (some (.str (S "Road") 1147)), (some (.builtin "object.__new__")), (some (.bool true))]⟩
def o655 : Obj := ⟨(.type "getset_descriptor"), none, (.fields #[(.str (S "__dict__") 1198), (.ref 654), (.builtin "function.__dict__"), (.builtin "function.__dict__#set")]), #[]⟩
def o656 : Obj := ⟨(.type "getset_descriptor"), none, (.fields #[(.str (S "__weakref__") 1200), (.ref 654), (.builtin "ExceptionGroup.__weakref__"), .none]), #[]⟩
def o657 : Obj := ⟨(.type "super"), none, (.fields #[(.ref 654), (.ref 654), (.ref 654)]), #[]⟩
def o658 : Obj := ⟨(.type "builtin_function_or_method"), none, (.fields #[(.builtin "object.__init_subclass__"), (.ref 654)]), #[]⟩
def o659 : Obj := ⟨(.type "tuple"), none, (.seq #[(.ref 654)] 0), #[]⟩
def o660 : Obj := ⟨(.type "builtin_function_or_method"), none, (.fields #[(.builtin "type.__prepare__"), (.type "type")]), #[]⟩
def o661 (p : Params) : Obj := ⟨(.type "dict"), none, (.dict #[en p (S "__module__") 1212 (.str (S "bindertongue.roadwork") 1137), en p (S "__qualname__") 1214 (.str (S "NamedRoad") 1213), en p (S "__firstlineno__") 1216 (.int 488 1215), en p (S "ask") 1227 (.ref 672), en p (S "same") 1236 (.ref 679), en p (S "__static_attributes__") 1237 (.ref 680)] 6), #[]⟩
def o662 : Obj := ⟨(.type "tuple"), none, (.seq #[] 0), #[]⟩
def o663 : Obj := ⟨.none, none, (.fields #[(.int 490 0), (.int 4 0), (.ref 671), (.int 494 0), (.int 4 0), (.ref 678)]), #[]⟩
def o664 : Obj := ⟨(.type "code"), none, (.fields #[(.str (S "NamedRoad") 1207), (.str (S "NamedRoad") 1208), (.str (S "/claim/cut.py") 1209), (.int 488 0), (.int 0 0), (.int 0 0), (.int 0 0), (.int 0 0), (.ref 662), (.bool false), (.int 181 0), (.ref 663), .none, .none, .none, .none, (.int 1210 0), (.int 488 0), (.str (S "/claim/cut.py") 1211)]), #[]⟩
def o665 : Obj := ⟨(.type "frame"), none, .plain, #[(some (.ref 664)), (some (.ref 3)), (some (.ref 661)), none, (some (.str (S "bindertongue.roadwork") 1137)), none, (some (.ref 0))]⟩
def o666 : Obj := ⟨(.type "tuple"), none, (.seq #[] 0), #[]⟩
def o667 : Obj := ⟨.none, none, (.fields #[]), #[]⟩
def o668 : Obj := ⟨(.type "tuple"), none, (.seq #[(.str (S "self") 1220), (.str (S "at") 1221), (.str (S "reference") 1222), (.str (S "token") 1223), (.str (S "is_far") 1224)] 0), #[]⟩
def o669 : Obj := ⟨(.type "tuple"), none, (.seq #[] 0), #[]⟩
def o670 : Obj := ⟨.none, none, (fD (inC 60 0) (S "ask") (S "NamedRoad.ask") 0 [] .none .none .none .none none .none .none 0), #[]⟩
def o671 : Obj := ⟨(.type "code"), none, (.fields #[(.str (S "ask") 1217), (.str (S "NamedRoad.ask") 1218), (.str (S "/claim/cut.py") 1219), (.int 490 0), (.int 4 0), (.int 0 0), (.int 0 0), (.int 3 0), (.ref 666), (.bool true), (.int 181 0), (.ref 667), .none, (.ref 668), (.ref 669), (.ref 670), (.int 1225 0), (.int 490 0), (.str (S "/claim/cut.py") 1226)]), #[]⟩
def o672 : Obj := ⟨(.type "function"), none, (fD (inC 60 0) (S "ask") (S "NamedRoad.ask") 3 [] .none .none .none (.str (S "bindertongue.roadwork") 1137) none (.ref 671) .none 0), #[]⟩
def o673 : Obj := ⟨(.type "tuple"), none, (.seq #[] 0), #[]⟩
def o674 : Obj := ⟨.none, none, (.fields #[]), #[]⟩
def o675 : Obj := ⟨(.type "tuple"), none, (.seq #[(.str (S "self") 1231), (.str (S "one") 1232), (.str (S "other") 1233)] 0), #[]⟩
def o676 : Obj := ⟨(.type "tuple"), none, (.seq #[] 0), #[]⟩
def o677 : Obj := ⟨.none, none, (fD (inC 60 1) (S "same") (S "NamedRoad.same") 0 [] .none .none .none .none none .none .none 0), #[]⟩
def o678 : Obj := ⟨(.type "code"), none, (.fields #[(.str (S "same") 1228), (.str (S "NamedRoad.same") 1229), (.str (S "/claim/cut.py") 1230), (.int 494 0), (.int 3 0), (.int 0 0), (.int 0 0), (.int 3 0), (.ref 673), (.bool true), (.int 181 0), (.ref 674), .none, (.ref 675), (.ref 676), (.ref 677), (.int 1234 0), (.int 494 0), (.str (S "/claim/cut.py") 1235)]), #[]⟩
def o679 : Obj := ⟨(.type "function"), none, (fD (inC 60 1) (S "same") (S "NamedRoad.same") 3 [] .none .none .none (.str (S "bindertongue.roadwork") 1137) none (.ref 678) .none 0), #[]⟩
def o680 : Obj := ⟨(.type "tuple"), none, (.seq #[] 0), #[]⟩
def o681 (p : Params) : Obj := ⟨(.type "dict"), none, (.dict #[en p (S "__module__") 1212 (.str (S "bindertongue.roadwork") 1137), en p (S "__firstlineno__") 1216 (.int 488 1215), en p (S "ask") 1227 (.ref 672), en p (S "same") 1236 (.ref 679), en p (S "__static_attributes__") 1237 (.ref 680), en p (S "__doc__") 1238 .none] 2), #[]⟩
def o682 : Obj := ⟨(.type "type"), none, (.cls ⟨(S "NamedRoad"), [(.ref 654)], [(.ref 682), (.ref 654), (.type "object")], 681, (S "NamedRoad"), true, [], [], false, none, false⟩), #[(some (.ref 659)), none, (some (.str (S "NamedRoad") 1205)), (some (.str (S "NamedRoad") 1213)), (some (.builtin "object.__new__")), (some (.bool true))]⟩
def o683 : Obj := ⟨(.type "super"), none, (.fields #[(.ref 682), (.ref 682), (.ref 682)]), #[]⟩
def o684 : Obj := ⟨(.type "builtin_function_or_method"), none, (.fields #[(.builtin "object.__init_subclass__"), (.ref 682)]), #[]⟩
def o685 : Obj := ⟨(.type "tuple"), none, (.seq #[] 0), #[]⟩
def o686 : Obj := ⟨.none, none, (.fields #[]), #[]⟩
def o687 : Obj := ⟨(.type "tuple"), none, (.seq #[(.str (S "answers") 1244), (.str (S "found") 1245)] 0), #[]⟩
def o688 : Obj := ⟨(.type "tuple"), none, (.seq #[] 0), #[]⟩
def o689 : Obj := ⟨.none, none, (fD (top 61) (S "next_script") (S "next_script") 0 [] .none .none .none .none none .none .none 0), #[]⟩
def o690 : Obj := ⟨(.type "code"), none, (.fields #[(.str (S "next_script") 1241), (.str (S "next_script") 1242), (.str (S "/claim/cut.py") 1243), (.int 496 0), (.int 1 0), (.int 0 0), (.int 0 0), (.int 3 0), (.ref 685), (.bool true), (.int 181 0), (.ref 686), .none, (.ref 687), (.ref 688), (.ref 689), (.int 1246 0), (.int 496 0), (.str (S "/claim/cut.py") 1247)]), #[]⟩
def o691 : Obj := ⟨(.type "function"), none, (fD (top 61) (S "next_script") (S "next_script") 3 [] .none .none .none (.str (S "bindertongue.roadwork") 1137) none (.ref 690) .none 0), #[]⟩
def o692 : Obj := ⟨(.type "tuple"), none, (.seq #[] 0), #[]⟩
def o693 : Obj := ⟨.none, none, (.fields #[]), #[]⟩
def o694 : Obj := ⟨(.type "tuple"), none, (.seq #[(.str (S "look") 1256), (.str (S "reference") 1257), (.str (S "name") 1258)] 0), #[]⟩
def o695 : Obj := ⟨(.type "tuple"), none, (.seq #[] 0), #[]⟩
def o696 : Obj := ⟨.none, none, (fD (top 64) (S "is_handed_by") (S "is_handed_by") 0 [] .none .none .none .none none .none .none 0), #[]⟩
def o697 : Obj := ⟨(.type "code"), none, (.fields #[(.str (S "is_handed_by") 1253), (.str (S "is_handed_by") 1254), (.str (S "/claim/cut.py") 1255), (.int 503 0), (.int 2 0), (.int 0 0), (.int 0 0), (.int 3 0), (.ref 692), (.bool true), (.int 181 0), (.ref 693), .none, (.ref 694), (.ref 695), (.ref 696), (.int 1259 0), (.int 503 0), (.str (S "/claim/cut.py") 1260)]), #[]⟩
def o698 : Obj := ⟨(.type "function"), none, (fD (top 64) (S "is_handed_by") (S "is_handed_by") 3 [] .none .none .none (.str (S "bindertongue.behindwork") 1249) none (.ref 697) .none 0), #[]⟩
def o699 : Obj := ⟨(.type "tuple"), none, (.seq #[] 0), #[]⟩
def o700 : Obj := ⟨.none, none, (.fields #[]), #[]⟩
def o701 : Obj := ⟨(.type "tuple"), none, (.seq #[(.str (S "token") 1265)] 0), #[]⟩
def o702 : Obj := ⟨(.type "tuple"), none, (.seq #[] 0), #[]⟩
def o703 : Obj := ⟨.none, none, (fD (top 65) (S "word_of") (S "word_of") 0 [] .none .none .none .none none .none .none 0), #[]⟩
def o704 : Obj := ⟨(.type "code"), none, (.fields #[(.str (S "word_of") 1262), (.str (S "word_of") 1263), (.str (S "/claim/cut.py") 1264), (.int 508 0), (.int 1 0), (.int 0 0), (.int 0 0), (.int 3 0), (.ref 699), (.bool true), (.int 181 0), (.ref 700), .none, (.ref 701), (.ref 702), (.ref 703), (.int 1266 0), (.int 508 0), (.str (S "/claim/cut.py") 1267)]), #[]⟩
def o705 : Obj := ⟨(.type "function"), none, (fD (top 65) (S "word_of") (S "word_of") 3 [] .none .none .none (.str (S "bindertongue.behindwork") 1249) none (.ref 704) .none 0), #[]⟩
def o706 : Obj := ⟨(.type "tuple"), none, (.seq #[] 0), #[]⟩
def o707 : Obj := ⟨.none, none, (.fields #[]), #[]⟩
def o708 : Obj := ⟨(.type "tuple"), none, (.seq #[(.str (S "own") 1272)] 0), #[]⟩
def o709 : Obj := ⟨(.type "tuple"), none, (.seq #[] 0), #[]⟩
def o710 : Obj := ⟨.none, none, (fD (top 66) (S "test_of") (S "test_of") 0 [] .none .none .none .none none .none .none 0), #[]⟩
def o711 : Obj := ⟨(.type "code"), none, (.fields #[(.str (S "test_of") 1269), (.str (S "test_of") 1270), (.str (S "/claim/cut.py") 1271), (.int 518 0), (.int 1 0), (.int 0 0), (.int 0 0), (.int 3 0), (.ref 706), (.bool true), (.int 181 0), (.ref 707), .none, (.ref 708), (.ref 709), (.ref 710), (.int 1273 0), (.int 518 0), (.str (S "/claim/cut.py") 1274)]), #[]⟩
def o712 : Obj := ⟨(.type "function"), none, (fD (top 66) (S "test_of") (S "test_of") 3 [] .none .none .none (.str (S "bindertongue.behindwork") 1249) none (.ref 711) .none 0), #[]⟩
def o713 : Obj := ⟨(.type "tuple"), none, (.seq #[] 0), #[]⟩
def o714 : Obj := ⟨(.type "builtin_function_or_method"), none, (.fields #[(.builtin "type.__prepare__"), (.type "type")]), #[]⟩
def o715 (p : Params) : Obj := ⟨(.type "dict"), none, (.dict #[en p (S "__module__") 1283 (.str (S "bindertongue.behindwork") 1249), en p (S "__qualname__") 1285 (.str (S "Making") 1284), en p (S "__firstlineno__") 1287 (.int 522 1286), en p (S "__init__") 1293 (.ref 724), en p (S "body") 1305 (.ref 731), en p (S "__static_attributes__") 1312 (.ref 732)] 6), #[]⟩
def o716 : Obj := ⟨(.type "tuple"), none, (.seq #[] 0), #[]⟩
def o717 : Obj := ⟨.none, none, (.fields #[(.int 524 0), (.int 4 0), (.ref 723), (.int 533 0), (.int 4 0), (.ref 730)]), #[]⟩
def o718 : Obj := ⟨(.type "code"), none, (.fields #[(.str (S "Making") 1278), (.str (S "Making") 1279), (.str (S "/claim/cut.py") 1280), (.int 522 0), (.int 0 0), (.int 0 0), (.int 0 0), (.int 0 0), (.ref 716), (.bool false), (.int 181 0), (.ref 717), .none, .none, .none, .none, (.int 1281 0), (.int 522 0), (.str (S "/claim/cut.py") 1282)]), #[]⟩
def o719 : Obj := ⟨(.type "frame"), none, .plain, #[(some (.ref 718)), (some (.ref 3)), (some (.ref 715)), none, (some (.str (S "bindertongue.behindwork") 1249)), none, (some (.ref 0))]⟩
def o720 : Obj := ⟨(.type "tuple"), none, (.seq #[] 0), #[]⟩
def o721 : Obj := ⟨.none, none, (.fields #[]), #[]⟩
def o722 : Obj := ⟨.none, none, (fD (inC 67 0) (S "__init__") (S "Making.__init__") 0 [] .none .none .none .none none .none .none 0), #[]⟩
def o723 : Obj := ⟨(.type "code"), none, (.fields #[(.str (S "__init__") 1288), (.str (S "Making.__init__") 1289), (.str (S "/claim/cut.py") 1290), (.int 524 0), (.int 4 0), (.int 0 0), (.int 0 0), (.int 3 0), (.ref 720), (.bool true), (.int 181 0), (.ref 721), .none, .none, .none, (.ref 722), (.int 1291 0), (.int 524 0), (.str (S "/claim/cut.py") 1292)]), #[]⟩
def o724 : Obj := ⟨(.type "function"), none, (fD (inC 67 0) (S "__init__") (S "Making.__init__") 3 [] .none .none .none (.str (S "bindertongue.behindwork") 1249) none (.ref 723) .none 0), #[]⟩
def o725 : Obj := ⟨(.type "tuple"), none, (.seq #[] 0), #[]⟩
def o726 : Obj := ⟨.none, none, (.fields #[]), #[]⟩
def o727 : Obj := ⟨(.type "tuple"), none, (.seq #[(.str (S "self") 1297), (.str (S "script") 1298), (.str (S "road") 1299), (.str (S "node") 1300), (.str (S "truth") 1301), (.str (S "test") 1302)] 0), #[]⟩
def o728 : Obj := ⟨(.type "tuple"), none, (.seq #[] 0), #[]⟩
def o729 : Obj := ⟨.none, none, (fD (inC 67 1) (S "body") (S "Making.body") 0 [] .none .none .none .none none .none .none 0), #[]⟩
def o730 : Obj := ⟨(.type "code"), none, (.fields #[(.str (S "body") 1294), (.str (S "Making.body") 1295), (.str (S "/claim/cut.py") 1296), (.int 533 0), (.int 2 0), (.int 0 0), (.int 0 0), (.int 3 0), (.ref 725), (.bool true), (.int 181 0), (.ref 726), .none, (.ref 727), (.ref 728), (.ref 729), (.int 1303 0), (.int 533 0), (.str (S "/claim/cut.py") 1304)]), #[]⟩
def o731 : Obj := ⟨(.type "function"), none, (fD (inC 67 1) (S "body") (S "Making.body") 3 [] .none .none .none (.str (S "bindertongue.behindwork") 1249) none (.ref 730) .none 0), #[]⟩
def o732 : Obj := ⟨(.type "tuple"), none, (.seq #[(.str (S "ends") 1306), (.str (S "look") 1307), (.str (S "maker") 1308), (.str (S "names") 1309), (.str (S "reference") 1310), (.str (S "token") 1311)] 0), #[]⟩
def o733 (p : Params) : Obj := ⟨(.type "dict"), none, (.dict #[en p (S "__module__") 1283 (.str (S "bindertongue.behindwork") 1249), en p (S "__firstlineno__") 1287 (.int 522 1286), en p (S "__init__") 1293 (.ref 724), en p (S "body") 1305 (.ref 731), en p (S "__static_attributes__") 1312 (.ref 732), en p (S "__dict__") 1314 (.ref 735), en p (S "__weakref__") 1316 (.ref 736), en p (S "__doc__") 1317 .none] 4), #[]⟩
def o734 : Obj := ⟨(.type "type"), none, (.cls ⟨(S "Making"), [(.type "object")], [(.ref 734), (.type "object")], 733, (S "Making"), true, [], [], false, none, false⟩), #[none, none, (some (.str (S "Making") 1276)), (some (.str (S "Making") 1284)), (some (.builtin "object.__new__")), (some (.bool true))]⟩
def o735 : Obj := ⟨(.type "getset_descriptor"), none, (.fields #[(.str (S "__dict__") 1313), (.ref 734), (.builtin "function.__dict__"), (.builtin "function.__dict__#set")]), #[]⟩
def o736 : Obj := ⟨(.type "getset_descriptor"), none, (.fields #[(.str (S "__weakref__") 1315), (.ref 734), (.builtin "ExceptionGroup.__weakref__"), .none]), #[]⟩
def o737 : Obj := ⟨(.type "super"), none, (.fields #[(.ref 734), (.ref 734), (.ref 734)]), #[]⟩
def o738 : Obj := ⟨(.type "builtin_function_or_method"), none, (.fields #[(.builtin "object.__init_subclass__"), (.ref 734)]), #[]⟩
def o739 : Obj := ⟨(.type "tuple"), none, (.seq #[] 0), #[]⟩
def o740 : Obj := ⟨.none, none, (.fields #[]), #[]⟩
def o741 : Obj := ⟨(.type "tuple"), none, (.seq #[(.str (S "look") 1323), (.str (S "reference") 1324), (.str (S "maker") 1325), (.str (S "body") 1326)] 0), #[]⟩
def o742 : Obj := ⟨(.type "tuple"), none, (.seq #[] 0), #[]⟩
def o743 : Obj := ⟨.none, none, (fD (top 68) (S "made_case") (S "made_case") 0 [] .none .none .none .none none .none .none 0), #[]⟩
def o744 : Obj := ⟨(.type "code"), none, (.fields #[(.str (S "made_case") 1320), (.str (S "made_case") 1321), (.str (S "/claim/cut.py") 1322), (.int 544 0), (.int 3 0), (.int 0 0), (.int 0 0), (.int 3 0), (.ref 739), (.bool true), (.int 181 0), (.ref 740), .none, (.ref 741), (.ref 742), (.ref 743), (.int 1327 0), (.int 544 0), (.str (S "/claim/cut.py") 1328)]), #[]⟩
def o745 : Obj := ⟨(.type "function"), none, (fD (top 68) (S "made_case") (S "made_case") 3 [] .none .none .none (.str (S "bindertongue.behindwork") 1249) none (.ref 744) .none 0), #[]⟩
def o746 : Obj := ⟨(.type "tuple"), none, (.seq #[] 0), #[]⟩
def o747 : Obj := ⟨.none, none, (.fields #[]), #[]⟩
def o748 : Obj := ⟨.none, none, (fD (top 69) (S "made_cases") (S "made_cases") 0 [] .none .none .none .none none .none .none 0), #[]⟩
def o749 : Obj := ⟨(.type "code"), none, (.fields #[(.str (S "made_cases") 1330), (.str (S "made_cases") 1331), (.str (S "/claim/cut.py") 1332), (.int 547 0), (.int 3 0), (.int 0 0), (.int 0 0), (.int 3 0), (.ref 746), (.bool true), (.int 181 0), (.ref 747), .none, .none, .none, (.ref 748), (.int 1333 0), (.int 547 0), (.str (S "/claim/cut.py") 1334)]), #[]⟩
def o750 : Obj := ⟨(.type "function"), none, (fD (top 69) (S "made_cases") (S "made_cases") 3 [] .none .none .none (.str (S "bindertongue.behindwork") 1249) none (.ref 749) .none 0), #[]⟩
def o751 : Obj := ⟨(.type "tuple"), none, (.seq #[] 0), #[]⟩
def o752 : Obj := ⟨.none, none, (.fields #[]), #[]⟩
def o753 : Obj := ⟨.none, none, (fD (top 72) (S "is_part_of") (S "is_part_of") 0 [] .none .none .none .none none .none .none 0), #[]⟩
def o754 : Obj := ⟨(.type "code"), none, (.fields #[(.str (S "is_part_of") 1340), (.str (S "is_part_of") 1341), (.str (S "/claim/cut.py") 1342), (.int 551 0), (.int 2 0), (.int 0 0), (.int 0 0), (.int 3 0), (.ref 751), (.bool true), (.int 181 0), (.ref 752), .none, .none, .none, (.ref 753), (.int 1343 0), (.int 551 0), (.str (S "/claim/cut.py") 1344)]), #[]⟩
def o755 : Obj := ⟨(.type "function"), none, (fD (top 72) (S "is_part_of") (S "is_part_of") 3 [] .none .none .none (.str (S "bindertongue.targetwork") 1336) none (.ref 754) .none 0), #[]⟩
def o756 : Obj := ⟨(.type "tuple"), none, (.seq #[] 0), #[]⟩
def o757 : Obj := ⟨.none, none, (.fields #[]), #[]⟩
def o758 : Obj := ⟨.none, none, (fD (top 73) (S "formed") (S "formed") 0 [] .none .none .none .none none .none .none 0), #[]⟩
def o759 : Obj := ⟨(.type "code"), none, (.fields #[(.str (S "formed") 1346), (.str (S "formed") 1347), (.str (S "/claim/cut.py") 1348), (.int 553 0), (.int 1 0), (.int 0 0), (.int 0 0), (.int 3 0), (.ref 756), (.bool true), (.int 181 0), (.ref 757), .none, .none, .none, (.ref 758), (.int 1349 0), (.int 553 0), (.str (S "/claim/cut.py") 1350)]), #[]⟩
def o760 : Obj := ⟨(.type "function"), none, (fD (top 73) (S "formed") (S "formed") 3 [] .none .none .none (.str (S "bindertongue.targetwork") 1336) none (.ref 759) .none 0), #[]⟩
def o761 : Obj := ⟨(.type "tuple"), none, (.seq #[] 0), #[]⟩
def o762 : Obj := ⟨.none, none, (.fields #[]), #[]⟩
def o763 : Obj := ⟨.none, none, (fD (top 74) (S "count_demands") (S "count_demands") 0 [] .none .none .none .none none .none .none 0), #[]⟩
def o764 : Obj := ⟨(.type "code"), none, (.fields #[(.str (S "count_demands") 1352), (.str (S "count_demands") 1353), (.str (S "/claim/cut.py") 1354), (.int 556 0), (.int 1 0), (.int 0 0), (.int 0 0), (.int 3 0), (.ref 761), (.bool true), (.int 181 0), (.ref 762), .none, .none, .none, (.ref 763), (.int 1355 0), (.int 556 0), (.str (S "/claim/cut.py") 1356)]), #[]⟩
def o765 : Obj := ⟨(.type "function"), none, (fD (top 74) (S "count_demands") (S "count_demands") 3 [] .none .none .none (.str (S "bindertongue.targetwork") 1336) none (.ref 764) .none 0), #[]⟩
def o766 : Obj := ⟨(.type "tuple"), none, (.seq #[] 0), #[]⟩
def o767 : Obj := ⟨.none, none, (.fields #[]), #[]⟩
def o768 : Obj := ⟨.none, none, (fD (top 75) (S "all_demands") (S "all_demands") 0 [] .none .none .none .none none .none .none 0), #[]⟩
def o769 : Obj := ⟨(.type "code"), none, (.fields #[(.str (S "all_demands") 1358), (.str (S "all_demands") 1359), (.str (S "/claim/cut.py") 1360), (.int 558 0), (.int 1 0), (.int 0 0), (.int 0 0), (.int 3 0), (.ref 766), (.bool true), (.int 181 0), (.ref 767), .none, .none, .none, (.ref 768), (.int 1361 0), (.int 558 0), (.str (S "/claim/cut.py") 1362)]), #[]⟩
def o770 : Obj := ⟨(.type "function"), none, (fD (top 75) (S "all_demands") (S "all_demands") 3 [] .none .none .none (.str (S "bindertongue.targetwork") 1336) none (.ref 769) .none 0), #[]⟩
def o771 : Obj := ⟨(.type "tuple"), none, (.seq #[] 0), #[]⟩
def o772 : Obj := ⟨.none, none, (.fields #[]), #[]⟩
def o773 : Obj := ⟨(.type "tuple"), none, (.seq #[(.str (S "target") 1367), (.str (S "most") 1368), (.str (S "found") 1369), (.str (S "some") 1370), (.str (S "own") 1371)] 0), #[]⟩
def o774 : Obj := ⟨(.type "tuple"), none, (.seq #[] 0), #[]⟩
def o775 : Obj := ⟨.none, none, (fD (top 76) (S "cuts_of") (S "cuts_of") 0 [] .none .none .none .none none .none .none 0), #[]⟩
def o776 : Obj := ⟨(.type "code"), none, (.fields #[(.str (S "cuts_of") 1364), (.str (S "cuts_of") 1365), (.str (S "/claim/cut.py") 1366), (.int 560 0), (.int 2 0), (.int 0 0), (.int 0 0), (.int 3 0), (.ref 771), (.bool true), (.int 181 0), (.ref 772), .none, (.ref 773), (.ref 774), (.ref 775), (.int 1372 0), (.int 560 0), (.str (S "/claim/cut.py") 1373)]), #[]⟩
def o777 : Obj := ⟨(.type "function"), none, (fD (top 76) (S "cuts_of") (S "cuts_of") 3 [] .none .none .none (.str (S "bindertongue.targetwork") 1336) none (.ref 776) .none 0), #[]⟩
def o778 : Obj := ⟨(.type "tuple"), none, (.seq #[] 0), #[]⟩
def o779 : Obj := ⟨.none, none, (.fields #[]), #[]⟩
def o780 : Obj := ⟨.none, none, (fD (top 77) (S "lots_of") (S "lots_of") 0 [] .none .none .none .none none .none .none 0), #[]⟩
def o781 : Obj := ⟨(.type "code"), none, (.fields #[(.str (S "lots_of") 1375), (.str (S "lots_of") 1376), (.str (S "/claim/cut.py") 1377), (.int 569 0), (.int 2 0), (.int 0 0), (.int 0 0), (.int 3 0), (.ref 778), (.bool true), (.int 181 0), (.ref 779), .none, .none, .none, (.ref 780), (.int 1378 0), (.int 569 0), (.str (S "/claim/cut.py") 1379)]), #[]⟩
def o782 : Obj := ⟨(.type "function"), none, (fD (top 77) (S "lots_of") (S "lots_of") 3 [] .none .none .none (.str (S "bindertongue.targetwork") 1336) none (.ref 781) .none 0), #[]⟩
def o783 : Obj := ⟨(.type "tuple"), none, (.seq #[] 0), #[]⟩
def o784 : Obj := ⟨(.type "builtin_function_or_method"), none, (.fields #[(.builtin "type.__prepare__"), (.type "type")]), #[]⟩
def o785 (p : Params) : Obj := ⟨(.type "dict"), none, (.dict #[en p (S "__module__") 1392 (.str (S "bindertongue.waywork") 1381), en p (S "__qualname__") 1394 (.str (S "Way") 1393), en p (S "__firstlineno__") 1396 (.int 577 1395), en p (S "__init__") 1407 (.ref 796), en p (S "told") 1414 (.ref 803), en p (S "__static_attributes__") 1419 (.ref 804)] 6), #[]⟩
def o786 : Obj := ⟨(.type "tuple"), none, (.seq #[] 0), #[]⟩
def o787 : Obj := ⟨.none, none, (.fields #[(.int 579 0), (.int 4 0), (.ref 795), (.int 585 0), (.int 4 0), (.ref 802)]), #[]⟩
def o788 : Obj := ⟨(.type "code"), none, (.fields #[(.str (S "Way") 1387), (.str (S "Way") 1388), (.str (S "/claim/cut.py") 1389), (.int 577 0), (.int 0 0), (.int 0 0), (.int 0 0), (.int 0 0), (.ref 786), (.bool false), (.int 181 0), (.ref 787), .none, .none, .none, .none, (.int 1390 0), (.int 577 0), (.str (S "/claim/cut.py") 1391)]), #[]⟩
def o789 : Obj := ⟨(.type "frame"), none, .plain, #[(some (.ref 788)), (some (.ref 3)), (some (.ref 785)), none, (some (.str (S "bindertongue.waywork") 1381)), none, (some (.ref 0))]⟩
def o790 : Obj := ⟨(.type "tuple"), none, (.seq #[] 0), #[]⟩
def o791 : Obj := ⟨.none, none, (.fields #[]), #[]⟩
def o792 : Obj := ⟨(.type "tuple"), none, (.seq #[(.str (S "self") 1400), (.str (S "maker") 1401), (.str (S "naming") 1402), (.str (S "parts") 1403), (.str (S "tokens") 1404)] 0), #[]⟩
def o793 : Obj := ⟨(.type "tuple"), none, (.seq #[] 0), #[]⟩
def o794 : Obj := ⟨.none, none, (fD (inC 80 0) (S "__init__") (S "Way.__init__") 0 [] .none .none .none .none none .none .none 0), #[]⟩
def o795 : Obj := ⟨(.type "code"), none, (.fields #[(.str (S "__init__") 1397), (.str (S "Way.__init__") 1398), (.str (S "/claim/cut.py") 1399), (.int 579 0), (.int 5 0), (.int 0 0), (.int 0 0), (.int 3 0), (.ref 790), (.bool true), (.int 181 0), (.ref 791), .none, (.ref 792), (.ref 793), (.ref 794), (.int 1405 0), (.int 579 0), (.str (S "/claim/cut.py") 1406)]), #[]⟩
def o796 : Obj := ⟨(.type "function"), none, (fD (inC 80 0) (S "__init__") (S "Way.__init__") 3 [] .none .none .none (.str (S "bindertongue.waywork") 1381) none (.ref 795) .none 0), #[]⟩
def o797 : Obj := ⟨(.type "tuple"), none, (.seq #[] 0), #[]⟩
def o798 : Obj := ⟨.none, none, (.fields #[]), #[]⟩
def o799 : Obj := ⟨(.type "tuple"), none, (.seq #[(.str (S "self") 1411)] 0), #[]⟩
def o800 : Obj := ⟨(.type "tuple"), none, (.seq #[] 0), #[]⟩
def o801 : Obj := ⟨.none, none, (fD (inC 80 1) (S "told") (S "Way.told") 0 [] .none .none .none .none none .none .none 0), #[]⟩
def o802 : Obj := ⟨(.type "code"), none, (.fields #[(.str (S "told") 1408), (.str (S "Way.told") 1409), (.str (S "/claim/cut.py") 1410), (.int 585 0), (.int 1 0), (.int 0 0), (.int 0 0), (.int 3 0), (.ref 797), (.bool true), (.int 181 0), (.ref 798), .none, (.ref 799), (.ref 800), (.ref 801), (.int 1412 0), (.int 585 0), (.str (S "/claim/cut.py") 1413)]), #[]⟩
def o803 : Obj := ⟨(.type "function"), none, (fD (inC 80 1) (S "told") (S "Way.told") 3 [] .none .none .none (.str (S "bindertongue.waywork") 1381) none (.ref 802) .none 0), #[]⟩
def o804 : Obj := ⟨(.type "tuple"), none, (.seq #[(.str (S "maker") 1415), (.str (S "naming") 1416), (.str (S "parts") 1417), (.str (S "tokens") 1418)] 0), #[]⟩
def o805 (p : Params) : Obj := ⟨(.type "dict"), none, (.dict #[en p (S "__module__") 1392 (.str (S "bindertongue.waywork") 1381), en p (S "__firstlineno__") 1396 (.int 577 1395), en p (S "__init__") 1407 (.ref 796), en p (S "told") 1414 (.ref 803), en p (S "__static_attributes__") 1419 (.ref 804), en p (S "__dict__") 1421 (.ref 807), en p (S "__weakref__") 1423 (.ref 808), en p (S "__doc__") 1424 .none] 4), #[]⟩
def o806 : Obj := ⟨(.type "type"), none, (.cls ⟨(S "Way"), [(.type "object")], [(.ref 806), (.type "object")], 805, (S "Way"), true, [], [], false, none, false⟩), #[none, none, (some (.str (S "Way") 1385)), (some (.str (S "Way") 1393)), (some (.builtin "object.__new__")), (some (.bool true))]⟩
def o807 : Obj := ⟨(.type "getset_descriptor"), none, (.fields #[(.str (S "__dict__") 1420), (.ref 806), (.builtin "function.__dict__"), (.builtin "function.__dict__#set")]), #[]⟩
def o808 : Obj := ⟨(.type "getset_descriptor"), none, (.fields #[(.str (S "__weakref__") 1422), (.ref 806), (.builtin "ExceptionGroup.__weakref__"), .none]), #[]⟩
def o809 : Obj := ⟨(.type "super"), none, (.fields #[(.ref 806), (.ref 806), (.ref 806)]), #[]⟩
def o810 : Obj := ⟨(.type "builtin_function_or_method"), none, (.fields #[(.builtin "object.__init_subclass__"), (.ref 806)]), #[]⟩
def o811 : Obj := ⟨(.type "tuple"), none, (.seq #[] 0), #[]⟩
def o812 : Obj := ⟨.none, none, (.fields #[]), #[]⟩
def o813 : Obj := ⟨.none, none, (fD (top 81) (S "namings") (S "namings") 0 [] .none .none .none .none none .none .none 0), #[]⟩
def o814 : Obj := ⟨(.type "code"), none, (.fields #[(.str (S "namings") 1427), (.str (S "namings") 1428), (.str (S "/claim/cut.py") 1429), (.int 587 0), (.int 3 0), (.int 0 0), (.int 0 0), (.int 3 0), (.ref 811), (.bool true), (.int 181 0), (.ref 812), .none, .none, .none, (.ref 813), (.int 1430 0), (.int 587 0), (.str (S "/claim/cut.py") 1431)]), #[]⟩
def o815 : Obj := ⟨(.type "function"), none, (fD (top 81) (S "namings") (S "namings") 3 [] .none .none .none (.str (S "bindertongue.waywork") 1381) none (.ref 814) .none 0), #[]⟩
def o816 : Obj := ⟨(.type "tuple"), none, (.seq #[] 0), #[]⟩
def o817 : Obj := ⟨.none, none, (.fields #[]), #[]⟩
def o818 : Obj := ⟨.none, none, (fD (top 82) (S "names_for") (S "names_for") 0 [] .none .none .none .none none .none .none 0), #[]⟩
def o819 : Obj := ⟨(.type "code"), none, (.fields #[(.str (S "names_for") 1433), (.str (S "names_for") 1434), (.str (S "/claim/cut.py") 1435), (.int 593 0), (.int 3 0), (.int 0 0), (.int 0 0), (.int 3 0), (.ref 816), (.bool true), (.int 181 0), (.ref 817), .none, .none, .none, (.ref 818), (.int 1436 0), (.int 593 0), (.str (S "/claim/cut.py") 1437)]), #[]⟩
def o820 : Obj := ⟨(.type "function"), none, (fD (top 82) (S "names_for") (S "names_for") 3 [] .none .none .none (.str (S "bindertongue.waywork") 1381) none (.ref 819) .none 0), #[]⟩
def o821 : Obj := ⟨(.type "tuple"), none, (.seq #[] 0), #[]⟩
def o822 : Obj := ⟨.none, none, (.fields #[]), #[]⟩
def o823 : Obj := ⟨.none, none, (fD (top 83) (S "names_by_place") (S "names_by_place") 0 [] .none .none .none .none none .none .none 0), #[]⟩
def o824 : Obj := ⟨(.type "code"), none, (.fields #[(.str (S "names_by_place") 1439), (.str (S "names_by_place") 1440), (.str (S "/claim/cut.py") 1441), (.int 597 0), (.int 3 0), (.int 0 0), (.int 0 0), (.int 3 0), (.ref 821), (.bool true), (.int 181 0), (.ref 822), .none, .none, .none, (.ref 823), (.int 1442 0), (.int 597 0), (.str (S "/claim/cut.py") 1443)]), #[]⟩
def o825 : Obj := ⟨(.type "function"), none, (fD (top 83) (S "names_by_place") (S "names_by_place") 3 [] .none .none .none (.str (S "bindertongue.waywork") 1381) none (.ref 824) .none 0), #[]⟩
def o826 : Obj := ⟨(.type "tuple"), none, (.seq #[] 0), #[]⟩
def o827 : Obj := ⟨.none, none, (.fields #[]), #[]⟩
def o828 : Obj := ⟨.none, none, (fD (top 84) (S "demanded") (S "demanded") 0 [] .none .none .none .none none .none .none 0), #[]⟩
def o829 : Obj := ⟨(.type "code"), none, (.fields #[(.str (S "demanded") 1445), (.str (S "demanded") 1446), (.str (S "/claim/cut.py") 1447), (.int 600 0), (.int 2 0), (.int 0 0), (.int 0 0), (.int 3 0), (.ref 826), (.bool true), (.int 181 0), (.ref 827), .none, .none, .none, (.ref 828), (.int 1448 0), (.int 600 0), (.str (S "/claim/cut.py") 1449)]), #[]⟩
def o830 : Obj := ⟨(.type "function"), none, (fD (top 84) (S "demanded") (S "demanded") 3 [] .none .none .none (.str (S "bindertongue.waywork") 1381) none (.ref 829) .none 0), #[]⟩
def o831 : Obj := ⟨(.type "tuple"), none, (.seq #[] 0), #[]⟩
def o832 : Obj := ⟨.none, none, (.fields #[]), #[]⟩
def o833 : Obj := ⟨.none, none, (fD (top 85) (S "part_target") (S "part_target") 0 [] .none .none .none .none none .none .none 0), #[]⟩
def o834 : Obj := ⟨(.type "code"), none, (.fields #[(.str (S "part_target") 1451), (.str (S "part_target") 1452), (.str (S "/claim/cut.py") 1453), (.int 602 0), (.int 3 0), (.int 0 0), (.int 0 0), (.int 3 0), (.ref 831), (.bool true), (.int 181 0), (.ref 832), .none, .none, .none, (.ref 833), (.int 1454 0), (.int 602 0), (.str (S "/claim/cut.py") 1455)]), #[]⟩
def o835 : Obj := ⟨(.type "function"), none, (fD (top 85) (S "part_target") (S "part_target") 3 [] .none .none .none (.str (S "bindertongue.waywork") 1381) none (.ref 834) .none 0), #[]⟩
def o836 : Obj := ⟨(.type "tuple"), none, (.seq #[] 0), #[]⟩
def o837 : Obj := ⟨.none, none, (.fields #[]), #[]⟩
def o838 : Obj := ⟨.none, none, (fD (top 86) (S "parts_of_way") (S "parts_of_way") 0 [] .none .none .none .none none .none .none 0), #[]⟩
def o839 : Obj := ⟨(.type "code"), none, (.fields #[(.str (S "parts_of_way") 1457), (.str (S "parts_of_way") 1458), (.str (S "/claim/cut.py") 1459), (.int 614 0), (.int 3 0), (.int 0 0), (.int 0 0), (.int 3 0), (.ref 836), (.bool true), (.int 181 0), (.ref 837), .none, .none, .none, (.ref 838), (.int 1460 0), (.int 614 0), (.str (S "/claim/cut.py") 1461)]), #[]⟩
def o840 : Obj := ⟨(.type "function"), none, (fD (top 86) (S "parts_of_way") (S "parts_of_way") 3 [] .none .none .none (.str (S "bindertongue.waywork") 1381) none (.ref 839) .none 0), #[]⟩
def o841 : Obj := ⟨(.type "tuple"), none, (.seq #[] 0), #[]⟩
def o842 : Obj := ⟨.none, none, (.fields #[]), #[]⟩
def o843 : Obj := ⟨.none, none, (fD (top 87) (S "demands_of") (S "demands_of") 0 [] .none .none .none .none none .none .none 0), #[]⟩
def o844 : Obj := ⟨(.type "code"), none, (.fields #[(.str (S "demands_of") 1463), (.str (S "demands_of") 1464), (.str (S "/claim/cut.py") 1465), (.int 620 0), (.int 2 0), (.int 0 0), (.int 0 0), (.int 3 0), (.ref 841), (.bool true), (.int 181 0), (.ref 842), .none, .none, .none, (.ref 843), (.int 1466 0), (.int 620 0), (.str (S "/claim/cut.py") 1467)]), #[]⟩
def o845 : Obj := ⟨(.type "function"), none, (fD (top 87) (S "demands_of") (S "demands_of") 3 [] .none .none .none (.str (S "bindertongue.waywork") 1381) none (.ref 844) .none 0), #[]⟩
def o846 : Obj := ⟨(.type "tuple"), none, (.seq #[] 0), #[]⟩
def o847 : Obj := ⟨.none, none, (.fields #[]), #[]⟩
def o848 : Obj := ⟨(.type "tuple"), none, (.seq #[(.str (S "one") 1472), (.str (S "other") 1473), (.str (S "own") 1474), (.str (S "truth") 1475)] 0), #[]⟩
def o849 : Obj := ⟨(.type "tuple"), none, (.seq #[] 0), #[]⟩
def o850 : Obj := ⟨.none, none, (fD (top 88) (S "joined") (S "joined") 0 [] .none .none .none .none none .none .none 0), #[]⟩
def o851 : Obj := ⟨(.type "code"), none, (.fields #[(.str (S "joined") 1469), (.str (S "joined") 1470), (.str (S "/claim/cut.py") 1471), (.int 627 0), (.int 2 0), (.int 0 0), (.int 0 0), (.int 3 0), (.ref 846), (.bool true), (.int 181 0), (.ref 847), .none, (.ref 848), (.ref 849), (.ref 850), (.int 1476 0), (.int 627 0), (.str (S "/claim/cut.py") 1477)]), #[]⟩
def o852 : Obj := ⟨(.type "function"), none, (fD (top 88) (S "joined") (S "joined") 3 [] .none .none .none (.str (S "bindertongue.waywork") 1381) none (.ref 851) .none 0), #[]⟩
def o853 : Obj := ⟨(.type "tuple"), none, (.seq #[] 0), #[]⟩
def o854 : Obj := ⟨(.type "builtin_function_or_method"), none, (.fields #[(.builtin "type.__prepare__"), (.type "type")]), #[]⟩
def o855 (p : Params) : Obj := ⟨(.type "dict"), none, (.dict #[en p (S "__module__") 1486 (.str (S "bindertongue.waywork") 1381), en p (S "__qualname__") 1488 (.str (S "Shop") 1487), en p (S "__firstlineno__") 1490 (.int 632 1489), en p (S "__init__") 1499 (.ref 866), en p (S "check") 1509 (.ref 873), en p (S "roads_of") 1526 (.ref 880), en p (S "answers_for") 1532 (.ref 885), en p (S "ways") 1538 (.ref 890), en p (S "seek") 1553 (.ref 897), en p (S "__static_attributes__") 1559 (.ref 898)] 10), #[]⟩
def o856 : Obj := ⟨(.type "tuple"), none, (.seq #[] 0), #[]⟩
def o857 : Obj := ⟨.none, none, (.fields #[(.int 634 0), (.int 4 0), (.ref 865), (.int 641 0), (.int 4 0), (.ref 872), (.int 649 0), (.int 4 0), (.ref 879), (.int 661 0), (.int 4 0), (.ref 884), (.int 672 0), (.int 4 0), (.ref 889), (.int 682 0), (.int 4 0), (.ref 896)]), #[]⟩
def o858 : Obj := ⟨(.type "code"), none, (.fields #[(.str (S "Shop") 1481), (.str (S "Shop") 1482), (.str (S "/claim/cut.py") 1483), (.int 632 0), (.int 0 0), (.int 0 0), (.int 0 0), (.int 0 0), (.ref 856), (.bool false), (.int 181 0), (.ref 857), .none, .none, .none, .none, (.int 1484 0), (.int 632 0), (.str (S "/claim/cut.py") 1485)]), #[]⟩
def o859 : Obj := ⟨(.type "frame"), none, .plain, #[(some (.ref 858)), (some (.ref 3)), (some (.ref 855)), none, (some (.str (S "bindertongue.waywork") 1381)), none, (some (.ref 0))]⟩
def o860 : Obj := ⟨(.type "tuple"), none, (.seq #[] 0), #[]⟩
def o861 : Obj := ⟨.none, none, (.fields #[]), #[]⟩
def o862 : Obj := ⟨(.type "tuple"), none, (.seq #[(.str (S "self") 1494), (.str (S "look") 1495), (.str (S "most") 1496)] 0), #[]⟩
def o863 : Obj := ⟨(.type "tuple"), none, (.seq #[] 0), #[]⟩
def o864 : Obj := ⟨.none, none, (fD (inC 89 0) (S "__init__") (S "Shop.__init__") 0 [] .none .none .none .none none .none .none 0), #[]⟩
def o865 : Obj := ⟨(.type "code"), none, (.fields #[(.str (S "__init__") 1491), (.str (S "Shop.__init__") 1492), (.str (S "/claim/cut.py") 1493), (.int 634 0), (.int 3 0), (.int 0 0), (.int 0 0), (.int 3 0), (.ref 860), (.bool true), (.int 181 0), (.ref 861), .none, (.ref 862), (.ref 863), (.ref 864), (.int 1497 0), (.int 634 0), (.str (S "/claim/cut.py") 1498)]), #[]⟩
def o866 : Obj := ⟨(.type "function"), none, (fD (inC 89 0) (S "__init__") (S "Shop.__init__") 3 [] .none .none .none (.str (S "bindertongue.waywork") 1381) none (.ref 865) .none 0), #[]⟩
def o867 : Obj := ⟨(.type "tuple"), none, (.seq #[] 0), #[]⟩
def o868 : Obj := ⟨.none, none, (.fields #[]), #[]⟩
def o869 : Obj := ⟨(.type "tuple"), none, (.seq #[(.str (S "self") 1503), (.str (S "target") 1504), (.str (S "reference") 1505), (.str (S "truth") 1506)] 0), #[]⟩
def o870 : Obj := ⟨(.type "tuple"), none, (.seq #[] 0), #[]⟩
def o871 : Obj := ⟨.none, none, (fD (inC 89 1) (S "check") (S "Shop.check") 0 [] .none .none .none .none none .none .none 0), #[]⟩
def o872 : Obj := ⟨(.type "code"), none, (.fields #[(.str (S "check") 1500), (.str (S "Shop.check") 1501), (.str (S "/claim/cut.py") 1502), (.int 641 0), (.int 2 0), (.int 0 0), (.int 0 0), (.int 3 0), (.ref 867), (.bool true), (.int 181 0), (.ref 868), .none, (.ref 869), (.ref 870), (.ref 871), (.int 1507 0), (.int 641 0), (.str (S "/claim/cut.py") 1508)]), #[]⟩
def o873 : Obj := ⟨(.type "function"), none, (fD (inC 89 1) (S "check") (S "Shop.check") 3 [] .none .none .none (.str (S "bindertongue.waywork") 1381) none (.ref 872) .none 0), #[]⟩
def o874 : Obj := ⟨(.type "tuple"), none, (.seq #[] 0), #[]⟩
def o875 : Obj := ⟨.none, none, (.fields #[]), #[]⟩
def o876 : Obj := ⟨(.type "tuple"), none, (.seq #[(.str (S "self") 1513), (.str (S "reference") 1514), (.str (S "maker") 1515), (.str (S "naming") 1516), (.str (S "token") 1517), (.str (S "key") 1518), (.str (S "found") 1519), (.str (S "script") 1520), (.str (S "names") 1521), (.str (S "road") 1522), (.str (S "node") 1523)] 0), #[]⟩
def o877 : Obj := ⟨(.type "tuple"), none, (.seq #[] 0), #[]⟩
def o878 : Obj := ⟨.none, none, (fD (inC 89 2) (S "roads_of") (S "Shop.roads_of") 0 [] .none .none .none .none none .none .none 0), #[]⟩
def o879 : Obj := ⟨(.type "code"), none, (.fields #[(.str (S "roads_of") 1510), (.str (S "Shop.roads_of") 1511), (.str (S "/claim/cut.py") 1512), (.int 649 0), (.int 5 0), (.int 0 0), (.int 0 0), (.int 3 0), (.ref 874), (.bool true), (.int 181 0), (.ref 875), .none, (.ref 876), (.ref 877), (.ref 878), (.int 1524 0), (.int 649 0), (.str (S "/claim/cut.py") 1525)]), #[]⟩
def o880 : Obj := ⟨(.type "function"), none, (fD (inC 89 2) (S "roads_of") (S "Shop.roads_of") 3 [] .none .none .none (.str (S "bindertongue.waywork") 1381) none (.ref 879) .none 0), #[]⟩
def o881 : Obj := ⟨(.type "tuple"), none, (.seq #[] 0), #[]⟩
def o882 : Obj := ⟨.none, none, (.fields #[]), #[]⟩
def o883 : Obj := ⟨.none, none, (fD (inC 89 3) (S "answers_for") (S "Shop.answers_for") 0 [] .none .none .none .none none .none .none 0), #[]⟩
def o884 : Obj := ⟨(.type "code"), none, (.fields #[(.str (S "answers_for") 1527), (.str (S "Shop.answers_for") 1528), (.str (S "/claim/cut.py") 1529), (.int 661 0), (.int 4 0), (.int 0 0), (.int 0 0), (.int 3 0), (.ref 881), (.bool true), (.int 181 0), (.ref 882), .none, .none, .none, (.ref 883), (.int 1530 0), (.int 661 0), (.str (S "/claim/cut.py") 1531)]), #[]⟩
def o885 : Obj := ⟨(.type "function"), none, (fD (inC 89 3) (S "answers_for") (S "Shop.answers_for") 3 [] .none .none .none (.str (S "bindertongue.waywork") 1381) none (.ref 884) .none 0), #[]⟩
def o886 : Obj := ⟨(.type "tuple"), none, (.seq #[] 0), #[]⟩
def o887 : Obj := ⟨.none, none, (.fields #[]), #[]⟩
def o888 : Obj := ⟨.none, none, (fD (inC 89 4) (S "ways") (S "Shop.ways") 0 [] .none .none .none .none none .none .none 0), #[]⟩
def o889 : Obj := ⟨(.type "code"), none, (.fields #[(.str (S "ways") 1533), (.str (S "Shop.ways") 1534), (.str (S "/claim/cut.py") 1535), (.int 672 0), (.int 2 0), (.int 0 0), (.int 0 0), (.int 3 0), (.ref 886), (.bool true), (.int 181 0), (.ref 887), .none, .none, .none, (.ref 888), (.int 1536 0), (.int 672 0), (.str (S "/claim/cut.py") 1537)]), #[]⟩
def o890 : Obj := ⟨(.type "function"), none, (fD (inC 89 4) (S "ways") (S "Shop.ways") 3 [] .none .none .none (.str (S "bindertongue.waywork") 1381) none (.ref 889) .none 0), #[]⟩
def o891 : Obj := ⟨(.type "tuple"), none, (.seq #[] 0), #[]⟩
def o892 : Obj := ⟨.none, none, (.fields #[]), #[]⟩
def o893 : Obj := ⟨(.type "tuple"), none, (.seq #[(.str (S "self") 1542), (.str (S "target") 1543), (.str (S "maker") 1544), (.str (S "naming") 1545), (.str (S "found") 1546), (.str (S "known") 1547), (.str (S "parts") 1548), (.str (S "tokens") 1549), (.str (S "own") 1550)] 0), #[]⟩
def o894 : Obj := ⟨(.type "tuple"), none, (.seq #[] 0), #[]⟩
def o895 : Obj := ⟨.none, none, (fD (inC 89 5) (S "seek") (S "Shop.seek") 0 [] .none .none .none .none none .none .none 0), #[]⟩
def o896 : Obj := ⟨(.type "code"), none, (.fields #[(.str (S "seek") 1539), (.str (S "Shop.seek") 1540), (.str (S "/claim/cut.py") 1541), (.int 682 0), (.int 5 0), (.int 0 0), (.int 0 0), (.int 3 0), (.ref 891), (.bool true), (.int 181 0), (.ref 892), .none, (.ref 893), (.ref 894), (.ref 895), (.int 1551 0), (.int 682 0), (.str (S "/claim/cut.py") 1552)]), #[]⟩
def o897 : Obj := ⟨(.type "function"), none, (fD (inC 89 5) (S "seek") (S "Shop.seek") 3 [] .none .none .none (.str (S "bindertongue.waywork") 1381) none (.ref 896) .none 0), #[]⟩
def o898 : Obj := ⟨(.type "tuple"), none, (.seq #[(.str (S "kept") 1554), (.str (S "look") 1555), (.str (S "most") 1556), (.str (S "roads") 1557), (.str (S "short") 1558)] 0), #[]⟩
def o899 (p : Params) : Obj := ⟨(.type "dict"), none, (.dict #[en p (S "__module__") 1486 (.str (S "bindertongue.waywork") 1381), en p (S "__firstlineno__") 1490 (.int 632 1489), en p (S "__init__") 1499 (.ref 866), en p (S "check") 1509 (.ref 873), en p (S "roads_of") 1526 (.ref 880), en p (S "answers_for") 1532 (.ref 885), en p (S "ways") 1538 (.ref 890), en p (S "seek") 1553 (.ref 897), en p (S "__static_attributes__") 1559 (.ref 898), en p (S "__dict__") 1561 (.ref 901), en p (S "__weakref__") 1563 (.ref 902), en p (S "__doc__") 1564 .none] 4), #[]⟩
def o900 : Obj := ⟨(.type "type"), none, (.cls ⟨(S "Shop"), [(.type "object")], [(.ref 900), (.type "object")], 899, (S "Shop"), true, [], [], false, none, false⟩), #[none, none, (some (.str (S "Shop") 1479)), (some (.str (S "Shop") 1487)), (some (.builtin "object.__new__")), (some (.bool true))]⟩
def o901 : Obj := ⟨(.type "getset_descriptor"), none, (.fields #[(.str (S "__dict__") 1560), (.ref 900), (.builtin "function.__dict__"), (.builtin "function.__dict__#set")]), #[]⟩
def o902 : Obj := ⟨(.type "getset_descriptor"), none, (.fields #[(.str (S "__weakref__") 1562), (.ref 900), (.builtin "ExceptionGroup.__weakref__"), .none]), #[]⟩
def o903 : Obj := ⟨(.type "super"), none, (.fields #[(.ref 900), (.ref 900), (.ref 900)]), #[]⟩
def o904 : Obj := ⟨(.type "builtin_function_or_method"), none, (.fields #[(.builtin "object.__init_subclass__"), (.ref 900)]), #[]⟩
def o905 : Obj := ⟨(.type "tuple"), none, (.seq #[] 0), #[]⟩
def o906 : Obj := ⟨(.type "builtin_function_or_method"), none, (.fields #[(.builtin "type.__prepare__"), (.type "type")]), #[]⟩
def o907 (p : Params) : Obj := ⟨(.type "dict"), none, (.dict #[en p (S "__module__") 1580 (.str (S "bindertongue.roundwork") 1567), en p (S "__qualname__") 1582 (.str (S "Round") 1581), en p (S "__firstlineno__") 1584 (.int 693 1583), en p (S "__init__") 1594 (.ref 918), en p (S "cuts_for") 1602 (.ref 925), en p (S "closed") 1608 (.ref 930), en p (S "upper_for") 1619 (.ref 937), en p (S "lower_for") 1625 (.ref 942), en p (S "settled") 1631 (.ref 947), en p (S "upper") 1638 (.ref 954), en p (S "lower") 1645 (.ref 961), en p (S "__static_attributes__") 1653 (.ref 962)] 12), #[]⟩
def o908 : Obj := ⟨(.type "tuple"), none, (.seq #[] 0), #[]⟩
def o909 : Obj := ⟨.none, none, (.fields #[(.int 695 0), (.int 4 0), (.ref 917), (.int 704 0), (.int 4 0), (.ref 924), (.int 709 0), (.int 4 0), (.ref 929), (.int 723 0), (.int 4 0), (.ref 936), (.int 731 0), (.int 4 0), (.ref 941), (.int 740 0), (.int 4 0), (.ref 946), (.int 751 0), (.int 4 0), (.ref 953), (.int 754 0), (.int 4 0), (.ref 960)]), #[]⟩
def o910 : Obj := ⟨(.type "code"), none, (.fields #[(.str (S "Round") 1575), (.str (S "Round") 1576), (.str (S "/claim/cut.py") 1577), (.int 693 0), (.int 0 0), (.int 0 0), (.int 0 0), (.int 0 0), (.ref 908), (.bool false), (.int 181 0), (.ref 909), .none, .none, .none, .none, (.int 1578 0), (.int 693 0), (.str (S "/claim/cut.py") 1579)]), #[]⟩
def o911 : Obj := ⟨(.type "frame"), none, .plain, #[(some (.ref 910)), (some (.ref 3)), (some (.ref 907)), none, (some (.str (S "bindertongue.roundwork") 1567)), none, (some (.ref 0))]⟩
def o912 : Obj := ⟨(.type "tuple"), none, (.seq #[] 0), #[]⟩
def o913 : Obj := ⟨.none, none, (.fields #[]), #[]⟩
def o914 : Obj := ⟨(.type "tuple"), none, (.seq #[(.str (S "self") 1588), (.str (S "shop") 1589), (.str (S "target") 1590), (.str (S "most") 1591)] 0), #[]⟩
def o915 : Obj := ⟨(.type "tuple"), none, (.seq #[] 0), #[]⟩
def o916 : Obj := ⟨.none, none, (fD (inC 93 0) (S "__init__") (S "Round.__init__") 0 [] .none .none .none .none none .none .none 0), #[]⟩
def o917 : Obj := ⟨(.type "code"), none, (.fields #[(.str (S "__init__") 1585), (.str (S "Round.__init__") 1586), (.str (S "/claim/cut.py") 1587), (.int 695 0), (.int 4 0), (.int 0 0), (.int 0 0), (.int 3 0), (.ref 912), (.bool true), (.int 181 0), (.ref 913), .none, (.ref 914), (.ref 915), (.ref 916), (.int 1592 0), (.int 695 0), (.str (S "/claim/cut.py") 1593)]), #[]⟩
def o918 : Obj := ⟨(.type "function"), none, (fD (inC 93 0) (S "__init__") (S "Round.__init__") 3 [] .none .none .none (.str (S "bindertongue.roundwork") 1567) none (.ref 917) .none 0), #[]⟩
def o919 : Obj := ⟨(.type "tuple"), none, (.seq #[] 0), #[]⟩
def o920 : Obj := ⟨.none, none, (.fields #[]), #[]⟩
def o921 : Obj := ⟨(.type "tuple"), none, (.seq #[(.str (S "self") 1598), (.str (S "part") 1599)] 0), #[]⟩
def o922 : Obj := ⟨(.type "tuple"), none, (.seq #[] 0), #[]⟩
def o923 : Obj := ⟨.none, none, (fD (inC 93 1) (S "cuts_for") (S "Round.cuts_for") 0 [] .none .none .none .none none .none .none 0), #[]⟩
def o924 : Obj := ⟨(.type "code"), none, (.fields #[(.str (S "cuts_for") 1595), (.str (S "Round.cuts_for") 1596), (.str (S "/claim/cut.py") 1597), (.int 704 0), (.int 2 0), (.int 0 0), (.int 0 0), (.int 3 0), (.ref 919), (.bool true), (.int 181 0), (.ref 920), .none, (.ref 921), (.ref 922), (.ref 923), (.int 1600 0), (.int 704 0), (.str (S "/claim/cut.py") 1601)]), #[]⟩
def o925 : Obj := ⟨(.type "function"), none, (fD (inC 93 1) (S "cuts_for") (S "Round.cuts_for") 3 [] .none .none .none (.str (S "bindertongue.roundwork") 1567) none (.ref 924) .none 0), #[]⟩
def o926 : Obj := ⟨(.type "tuple"), none, (.seq #[] 0), #[]⟩
def o927 : Obj := ⟨.none, none, (.fields #[]), #[]⟩
def o928 : Obj := ⟨.none, none, (fD (inC 93 2) (S "closed") (S "Round.closed") 0 [] .none .none .none .none none .none .none 0), #[]⟩
def o929 : Obj := ⟨(.type "code"), none, (.fields #[(.str (S "closed") 1603), (.str (S "Round.closed") 1604), (.str (S "/claim/cut.py") 1605), (.int 709 0), (.int 1 0), (.int 0 0), (.int 0 0), (.int 3 0), (.ref 926), (.bool true), (.int 181 0), (.ref 927), .none, .none, .none, (.ref 928), (.int 1606 0), (.int 709 0), (.str (S "/claim/cut.py") 1607)]), #[]⟩
def o930 : Obj := ⟨(.type "function"), none, (fD (inC 93 2) (S "closed") (S "Round.closed") 3 [] .none .none .none (.str (S "bindertongue.roundwork") 1567) none (.ref 929) .none 0), #[]⟩
def o931 : Obj := ⟨(.type "tuple"), none, (.seq #[] 0), #[]⟩
def o932 : Obj := ⟨.none, none, (.fields #[]), #[]⟩
def o933 : Obj := ⟨(.type "tuple"), none, (.seq #[(.str (S "self") 1612), (.str (S "way") 1613), (.str (S "sizes") 1614), (.str (S "found") 1615), (.str (S "part") 1616)] 0), #[]⟩
def o934 : Obj := ⟨(.type "tuple"), none, (.seq #[] 0), #[]⟩
def o935 : Obj := ⟨.none, none, (fD (inC 93 3) (S "upper_for") (S "Round.upper_for") 0 [] .none .none .none .none none .none .none 0), #[]⟩
def o936 : Obj := ⟨(.type "code"), none, (.fields #[(.str (S "upper_for") 1609), (.str (S "Round.upper_for") 1610), (.str (S "/claim/cut.py") 1611), (.int 723 0), (.int 3 0), (.int 0 0), (.int 0 0), (.int 3 0), (.ref 931), (.bool true), (.int 181 0), (.ref 932), .none, (.ref 933), (.ref 934), (.ref 935), (.int 1617 0), (.int 723 0), (.str (S "/claim/cut.py") 1618)]), #[]⟩
def o937 : Obj := ⟨(.type "function"), none, (fD (inC 93 3) (S "upper_for") (S "Round.upper_for") 3 [] .none .none .none (.str (S "bindertongue.roundwork") 1567) none (.ref 936) .none 0), #[]⟩
def o938 : Obj := ⟨(.type "tuple"), none, (.seq #[] 0), #[]⟩
def o939 : Obj := ⟨.none, none, (.fields #[]), #[]⟩
def o940 : Obj := ⟨.none, none, (fD (inC 93 4) (S "lower_for") (S "Round.lower_for") 0 [] .none .none .none .none none .none .none 0), #[]⟩
def o941 : Obj := ⟨(.type "code"), none, (.fields #[(.str (S "lower_for") 1620), (.str (S "Round.lower_for") 1621), (.str (S "/claim/cut.py") 1622), (.int 731 0), (.int 3 0), (.int 0 0), (.int 0 0), (.int 3 0), (.ref 938), (.bool true), (.int 181 0), (.ref 939), .none, .none, .none, (.ref 940), (.int 1623 0), (.int 731 0), (.str (S "/claim/cut.py") 1624)]), #[]⟩
def o942 : Obj := ⟨(.type "function"), none, (fD (inC 93 4) (S "lower_for") (S "Round.lower_for") 3 [] .none .none .none (.str (S "bindertongue.roundwork") 1567) none (.ref 941) .none 0), #[]⟩
def o943 : Obj := ⟨(.type "tuple"), none, (.seq #[] 0), #[]⟩
def o944 : Obj := ⟨.none, none, (.fields #[]), #[]⟩
def o945 : Obj := ⟨.none, none, (fD (inC 93 5) (S "settled") (S "Round.settled") 0 [] .none .none .none .none none .none .none 0), #[]⟩
def o946 : Obj := ⟨(.type "code"), none, (.fields #[(.str (S "settled") 1626), (.str (S "Round.settled") 1627), (.str (S "/claim/cut.py") 1628), (.int 740 0), (.int 2 0), (.int 0 0), (.int 0 0), (.int 3 0), (.ref 943), (.bool true), (.int 181 0), (.ref 944), .none, .none, .none, (.ref 945), (.int 1629 0), (.int 740 0), (.str (S "/claim/cut.py") 1630)]), #[]⟩
def o947 : Obj := ⟨(.type "function"), none, (fD (inC 93 5) (S "settled") (S "Round.settled") 3 [] .none .none .none (.str (S "bindertongue.roundwork") 1567) none (.ref 946) .none 0), #[]⟩
def o948 : Obj := ⟨(.type "tuple"), none, (.seq #[] 0), #[]⟩
def o949 : Obj := ⟨.none, none, (.fields #[]), #[]⟩
def o950 : Obj := ⟨(.type "tuple"), none, (.seq #[(.str (S "self") 1635)] 0), #[]⟩
def o951 : Obj := ⟨(.type "tuple"), none, (.seq #[] 0), #[]⟩
def o952 : Obj := ⟨.none, none, (fD (inC 93 6) (S "upper") (S "Round.upper") 0 [] .none .none .none .none none .none .none 0), #[]⟩
def o953 : Obj := ⟨(.type "code"), none, (.fields #[(.str (S "upper") 1632), (.str (S "Round.upper") 1633), (.str (S "/claim/cut.py") 1634), (.int 751 0), (.int 1 0), (.int 0 0), (.int 0 0), (.int 3 0), (.ref 948), (.bool true), (.int 181 0), (.ref 949), .none, (.ref 950), (.ref 951), (.ref 952), (.int 1636 0), (.int 751 0), (.str (S "/claim/cut.py") 1637)]), #[]⟩
def o954 : Obj := ⟨(.type "function"), none, (fD (inC 93 6) (S "upper") (S "Round.upper") 3 [] .none .none .none (.str (S "bindertongue.roundwork") 1567) none (.ref 953) .none 0), #[]⟩
def o955 : Obj := ⟨(.type "tuple"), none, (.seq #[] 0), #[]⟩
def o956 : Obj := ⟨.none, none, (.fields #[]), #[]⟩
def o957 : Obj := ⟨(.type "tuple"), none, (.seq #[(.str (S "self") 1642)] 0), #[]⟩
def o958 : Obj := ⟨(.type "tuple"), none, (.seq #[] 0), #[]⟩
def o959 : Obj := ⟨.none, none, (fD (inC 93 7) (S "lower") (S "Round.lower") 0 [] .none .none .none .none none .none .none 0), #[]⟩
def o960 : Obj := ⟨(.type "code"), none, (.fields #[(.str (S "lower") 1639), (.str (S "Round.lower") 1640), (.str (S "/claim/cut.py") 1641), (.int 754 0), (.int 1 0), (.int 0 0), (.int 0 0), (.int 3 0), (.ref 955), (.bool true), (.int 181 0), (.ref 956), .none, (.ref 957), (.ref 958), (.ref 959), (.int 1643 0), (.int 754 0), (.str (S "/claim/cut.py") 1644)]), #[]⟩
def o961 : Obj := ⟨(.type "function"), none, (fD (inC 93 7) (S "lower") (S "Round.lower") 3 [] .none .none .none (.str (S "bindertongue.roundwork") 1567) none (.ref 960) .none 0), #[]⟩
def o962 : Obj := ⟨(.type "tuple"), none, (.seq #[(.str (S "cuts") 1646), (.str (S "lowers") 1647), (.str (S "most") 1648), (.str (S "shop") 1649), (.str (S "target") 1650), (.str (S "targets") 1651), (.str (S "uppers") 1652)] 0), #[]⟩
def o963 (p : Params) : Obj := ⟨(.type "dict"), none, (.dict #[en p (S "__module__") 1580 (.str (S "bindertongue.roundwork") 1567), en p (S "__firstlineno__") 1584 (.int 693 1583), en p (S "__init__") 1594 (.ref 918), en p (S "cuts_for") 1602 (.ref 925), en p (S "closed") 1608 (.ref 930), en p (S "upper_for") 1619 (.ref 937), en p (S "lower_for") 1625 (.ref 942), en p (S "settled") 1631 (.ref 947), en p (S "upper") 1638 (.ref 954), en p (S "lower") 1645 (.ref 961), en p (S "__static_attributes__") 1653 (.ref 962), en p (S "__dict__") 1655 (.ref 965), en p (S "__weakref__") 1657 (.ref 966), en p (S "__doc__") 1658 .none] 4), #[]⟩
def o964 : Obj := ⟨(.type "type"), none, (.cls ⟨(S "Round"), [(.type "object")], [(.ref 964), (.type "object")], 963, (S "Round"), true, [], [], false, none, false⟩), #[none, none, (some (.str (S "Round") 1573)), (some (.str (S "Round") 1581)), (some (.builtin "object.__new__")), (some (.bool true))]⟩
def o965 : Obj := ⟨(.type "getset_descriptor"), none, (.fields #[(.str (S "__dict__") 1654), (.ref 964), (.builtin "function.__dict__"), (.builtin "function.__dict__#set")]), #[]⟩
def o966 : Obj := ⟨(.type "getset_descriptor"), none, (.fields #[(.str (S "__weakref__") 1656), (.ref 964), (.builtin "ExceptionGroup.__weakref__"), .none]), #[]⟩
def o967 : Obj := ⟨(.type "super"), none, (.fields #[(.ref 964), (.ref 964), (.ref 964)]), #[]⟩
def o968 : Obj := ⟨(.type "builtin_function_or_method"), none, (.fields #[(.builtin "object.__init_subclass__"), (.ref 964)]), #[]⟩
def o969 : Obj := ⟨(.type "tuple"), none, (.seq #[] 0), #[]⟩
def o970 : Obj := ⟨.none, none, (.fields #[]), #[]⟩
def o971 : Obj := ⟨(.type "tuple"), none, (.seq #[(.str (S "shop") 1664), (.str (S "target") 1665), (.str (S "most") 1666), (.str (S "found") 1667)] 0), #[]⟩
def o972 : Obj := ⟨(.type "tuple"), none, (.seq #[] 0), #[]⟩
def o973 : Obj := ⟨.none, none, (fD (top 94) (S "telling") (S "telling") 0 [] .none .none .none .none none .none .none 0), #[]⟩
def o974 : Obj := ⟨(.type "code"), none, (.fields #[(.str (S "telling") 1661), (.str (S "telling") 1662), (.str (S "/claim/cut.py") 1663), (.int 756 0), (.int 2 0), (.int 0 0), (.int 0 0), (.int 3 0), (.ref 969), (.bool true), (.int 181 0), (.ref 970), .none, (.ref 971), (.ref 972), (.ref 973), (.int 1668 0), (.int 756 0), (.str (S "/claim/cut.py") 1669)]), #[]⟩
def o975 : Obj := ⟨(.type "function"), none, (fD (top 94) (S "telling") (S "telling") 3 [] .none .none .none (.str (S "bindertongue.roundwork") 1567) none (.ref 974) .none 0), #[]⟩
def o976 : Obj := ⟨(.type "tuple"), none, (.seq #[] 0), #[]⟩
def o977 : Obj := ⟨.none, none, (.fields #[]), #[]⟩
def o978 : Obj := ⟨(.type "tuple"), none, (.seq #[(.str (S "shop") 1674), (.str (S "target") 1675)] 0), #[]⟩
def o979 : Obj := ⟨(.type "tuple"), none, (.seq #[] 0), #[]⟩
def o980 : Obj := ⟨.none, none, (fD (top 95) (S "is_ever_by") (S "is_ever_by") 0 [] .none .none .none .none none .none .none 0), #[]⟩
def o981 : Obj := ⟨(.type "code"), none, (.fields #[(.str (S "is_ever_by") 1671), (.str (S "is_ever_by") 1672), (.str (S "/claim/cut.py") 1673), (.int 762 0), (.int 2 0), (.int 0 0), (.int 0 0), (.int 3 0), (.ref 976), (.bool true), (.int 181 0), (.ref 977), .none, (.ref 978), (.ref 979), (.ref 980), (.int 1676 0), (.int 762 0), (.str (S "/claim/cut.py") 1677)]), #[]⟩
def o982 : Obj := ⟨(.type "function"), none, (fD (top 95) (S "is_ever_by") (S "is_ever_by") 3 [] .none .none .none (.str (S "bindertongue.roundwork") 1567) none (.ref 981) .none 0), #[]⟩
def o983 : Obj := ⟨(.type "tuple"), none, (.seq #[] 0), #[]⟩
def o984 : Obj := ⟨.none, none, (.fields #[]), #[]⟩
def o985 : Obj := ⟨.none, none, (fD (top 97) (S "given_at") (S "given_at") 0 [] .none .none .none .none none .none .none 0), #[]⟩
def o986 : Obj := ⟨(.type "code"), none, (.fields #[(.str (S "given_at") 1681), (.str (S "given_at") 1682), (.str (S "/claim/cut.py") 1683), (.int 765 0), (.int 3 0), (.int 0 0), (.int 0 0), (.int 3 0), (.ref 983), (.bool true), (.int 181 0), (.ref 984), .none, .none, .none, (.ref 985), (.int 1684 0), (.int 765 0), (.str (S "/claim/cut.py") 1685)]), #[]⟩
def o987 : Obj := ⟨(.type "function"), none, (fD (top 97) (S "given_at") (S "given_at") 3 [] .none .none .none (.str (S "bindertongue.questionwork") 1679) none (.ref 986) .none 0), #[]⟩
def o988 : Obj := ⟨(.type "tuple"), none, (.seq #[] 0), #[]⟩
def o989 : Obj := ⟨.none, none, (.fields #[]), #[]⟩
def o990 : Obj := ⟨.none, none, (fD (top 98) (S "for_a_name") (S "for_a_name") 0 [] .none .none .none .none none .none .none 0), #[]⟩
def o991 : Obj := ⟨(.type "code"), none, (.fields #[(.str (S "for_a_name") 1687), (.str (S "for_a_name") 1688), (.str (S "/claim/cut.py") 1689), (.int 767 0), (.int 3 0), (.int 0 0), (.int 0 0), (.int 3 0), (.ref 988), (.bool true), (.int 181 0), (.ref 989), .none, .none, .none, (.ref 990), (.int 1690 0), (.int 767 0), (.str (S "/claim/cut.py") 1691)]), #[]⟩
def o992 : Obj := ⟨(.type "function"), none, (fD (top 98) (S "for_a_name") (S "for_a_name") 3 [] .none .none .none (.str (S "bindertongue.questionwork") 1679) none (.ref 991) .none 0), #[]⟩
def o993 : Obj := ⟨(.type "tuple"), none, (.seq #[] 0), #[]⟩
def o994 : Obj := ⟨.none, none, (.fields #[]), #[]⟩
def o995 : Obj := ⟨(.type "tuple"), none, (.seq #[(.str (S "look") 1696), (.str (S "kind") 1697), (.str (S "demands") 1698), (.str (S "is_handed") 1699)] 0), #[]⟩
def o996 : Obj := ⟨(.type "tuple"), none, (.seq #[] 0), #[]⟩
def o997 : Obj := ⟨.none, none, (fD (top 99) (S "demanding") (S "demanding") 0 [] .none .none .none .none none .none .none 0), #[]⟩
def o998 : Obj := ⟨(.type "code"), none, (.fields #[(.str (S "demanding") 1693), (.str (S "demanding") 1694), (.str (S "/claim/cut.py") 1695), (.int 771 0), (.int 4 0), (.int 0 0), (.int 0 0), (.int 3 0), (.ref 993), (.bool true), (.int 181 0), (.ref 994), .none, (.ref 995), (.ref 996), (.ref 997), (.int 1700 0), (.int 771 0), (.str (S "/claim/cut.py") 1701)]), #[]⟩
def o999 : Obj := ⟨(.type "function"), none, (fD (top 99) (S "demanding") (S "demanding") 3 [] .none .none .none (.str (S "bindertongue.questionwork") 1679) none (.ref 998) .none 0), #[]⟩
def o1000 : Obj := ⟨(.type "tuple"), none, (.seq #[] 0), #[]⟩
def o1001 : Obj := ⟨.none, none, (.fields #[]), #[]⟩
def o1002 : Obj := ⟨(.type "tuple"), none, (.seq #[(.str (S "look") 1706), (.str (S "kind") 1707), (.str (S "reference") 1708), (.str (S "is_handed") 1709)] 0), #[]⟩
def o1003 : Obj := ⟨(.type "tuple"), none, (.seq #[] 0), #[]⟩
def o1004 : Obj := ⟨.none, none, (fD (top 100) (S "ever_by") (S "ever_by") 0 [] .none .none .none .none none .none .none 0), #[]⟩
def o1005 : Obj := ⟨(.type "code"), none, (.fields #[(.str (S "ever_by") 1703), (.str (S "ever_by") 1704), (.str (S "/claim/cut.py") 1705), (.int 775 0), (.int 4 0), (.int 0 0), (.int 0 0), (.int 3 0), (.ref 1000), (.bool true), (.int 181 0), (.ref 1001), .none, (.ref 1002), (.ref 1003), (.ref 1004), (.int 1710 0), (.int 775 0), (.str (S "/claim/cut.py") 1711)]), #[]⟩
def o1006 : Obj := ⟨(.type "function"), none, (fD (top 100) (S "ever_by") (S "ever_by") 3 [] .none .none .none (.str (S "bindertongue.questionwork") 1679) none (.ref 1005) .none 0), #[]⟩
def o1007 : Obj := ⟨(.type "tuple"), none, (.seq #[] 0), #[]⟩
def o1008 : Obj := ⟨.none, none, (.fields #[]), #[]⟩
def o1009 : Obj := ⟨(.type "tuple"), none, (.seq #[(.str (S "look") 1716), (.str (S "kind") 1717), (.str (S "reference") 1718), (.str (S "other") 1719), (.str (S "is_handed") 1720), (.str (S "one") 1721)] 0), #[]⟩
def o1010 : Obj := ⟨(.type "tuple"), none, (.seq #[] 0), #[]⟩
def o1011 : Obj := ⟨.none, none, (fD (top 101) (S "alike_by") (S "alike_by") 0 [] .none .none .none .none none .none .none 0), #[]⟩
def o1012 : Obj := ⟨(.type "code"), none, (.fields #[(.str (S "alike_by") 1713), (.str (S "alike_by") 1714), (.str (S "/claim/cut.py") 1715), (.int 777 0), (.int 5 0), (.int 0 0), (.int 0 0), (.int 3 0), (.ref 1007), (.bool true), (.int 181 0), (.ref 1008), .none, (.ref 1009), (.ref 1010), (.ref 1011), (.int 1722 0), (.int 777 0), (.str (S "/claim/cut.py") 1723)]), #[]⟩
def o1013 : Obj := ⟨(.type "function"), none, (fD (top 101) (S "alike_by") (S "alike_by") 3 [] .none .none .none (.str (S "bindertongue.questionwork") 1679) none (.ref 1012) .none 0), #[]⟩
def o1014 : Obj := ⟨(.type "tuple"), none, (.seq #[] 0), #[]⟩
def o1015 : Obj := ⟨.none, none, (.fields #[]), #[]⟩
def o1016 : Obj := ⟨(.type "tuple"), none, (.seq #[(.str (S "look") 1728), (.str (S "turner") 1729)] 0), #[]⟩
def o1017 : Obj := ⟨(.type "tuple"), none, (.seq #[] 0), #[]⟩
def o1018 : Obj := ⟨.none, none, (fD (top 102) (S "right_by") (S "right_by") 0 [] .none .none .none .none none .none .none 0), #[]⟩
def o1019 : Obj := ⟨(.type "code"), none, (.fields #[(.str (S "right_by") 1725), (.str (S "right_by") 1726), (.str (S "/claim/cut.py") 1727), (.int 782 0), (.int 2 0), (.int 0 0), (.int 0 0), (.int 3 0), (.ref 1014), (.bool true), (.int 181 0), (.ref 1015), .none, (.ref 1016), (.ref 1017), (.ref 1018), (.int 1730 0), (.int 782 0), (.str (S "/claim/cut.py") 1731)]), #[]⟩
def o1020 : Obj := ⟨(.type "function"), none, (fD (top 102) (S "right_by") (S "right_by") 3 [] .none .none .none (.str (S "bindertongue.questionwork") 1679) none (.ref 1019) .none 0), #[]⟩
def o1021 : Obj := ⟨(.type "tuple"), none, (.seq #[] 0), #[]⟩
def o1022 : Obj := ⟨.none, none, (.fields #[]), #[]⟩
def o1023 : Obj := ⟨(.type "tuple"), none, (.seq #[(.str (S "look") 1736), (.str (S "turner") 1737), (.str (S "judge") 1738), (.str (S "other") 1739), (.str (S "is_handed") 1740), (.str (S "demands") 1741)] 0), #[]⟩
def o1024 : Obj := ⟨(.type "tuple"), none, (.seq #[] 0), #[]⟩
def o1025 : Obj := ⟨.none, none, (fD (top 103) (S "keeps_by") (S "keeps_by") 0 [] .none .none .none .none none .none .none 0), #[]⟩
def o1026 : Obj := ⟨(.type "code"), none, (.fields #[(.str (S "keeps_by") 1733), (.str (S "keeps_by") 1734), (.str (S "/claim/cut.py") 1735), (.int 784 0), (.int 5 0), (.int 0 0), (.int 0 0), (.int 3 0), (.ref 1021), (.bool true), (.int 181 0), (.ref 1022), .none, (.ref 1023), (.ref 1024), (.ref 1025), (.int 1742 0), (.int 784 0), (.str (S "/claim/cut.py") 1743)]), #[]⟩
def o1027 : Obj := ⟨(.type "function"), none, (fD (top 103) (S "keeps_by") (S "keeps_by") 3 [] .none .none .none (.str (S "bindertongue.questionwork") 1679) none (.ref 1026) .none 0), #[]⟩
def o1028 : Obj := ⟨(.type "tuple"), none, (.seq #[] 0), #[]⟩
def o1029 : Obj := ⟨.none, none, (.fields #[]), #[]⟩
def o1030 : Obj := ⟨(.type "tuple"), none, (.seq #[(.str (S "shop") 1748), (.str (S "targets") 1749), (.str (S "own") 1750)] 0), #[]⟩
def o1031 : Obj := ⟨(.type "tuple"), none, (.seq #[] 0), #[]⟩
def o1032 : Obj := ⟨.none, none, (fD (top 104) (S "is_never_in") (S "is_never_in") 0 [] .none .none .none .none none .none .none 0), #[]⟩
def o1033 : Obj := ⟨(.type "code"), none, (.fields #[(.str (S "is_never_in") 1745), (.str (S "is_never_in") 1746), (.str (S "/claim/cut.py") 1747), (.int 787 0), (.int 2 0), (.int 0 0), (.int 0 0), (.int 3 0), (.ref 1028), (.bool true), (.int 181 0), (.ref 1029), .none, (.ref 1030), (.ref 1031), (.ref 1032), (.int 1751 0), (.int 787 0), (.str (S "/claim/cut.py") 1752)]), #[]⟩
def o1034 : Obj := ⟨(.type "function"), none, (fD (top 104) (S "is_never_in") (S "is_never_in") 3 [] .none .none .none (.str (S "bindertongue.questionwork") 1679) none (.ref 1033) .none 0), #[]⟩
def o1035 : Obj := ⟨(.type "tuple"), none, (.seq #[] 0), #[]⟩
def o1036 : Obj := ⟨.none, none, (.fields #[]), #[]⟩
def o1037 : Obj := ⟨(.type "tuple"), none, (.seq #[(.str (S "look") 1757)] 0), #[]⟩
def o1038 : Obj := ⟨(.type "tuple"), none, (.seq #[] 0), #[]⟩
def o1039 : Obj := ⟨.none, none, (fD (top 105) (S "shop_of") (S "shop_of") 0 [] .none .none .none .none none .none .none 0), #[]⟩
def o1040 : Obj := ⟨(.type "code"), none, (.fields #[(.str (S "shop_of") 1754), (.str (S "shop_of") 1755), (.str (S "/claim/cut.py") 1756), (.int 792 0), (.int 1 0), (.int 0 0), (.int 0 0), (.int 3 0), (.ref 1035), (.bool true), (.int 181 0), (.ref 1036), .none, (.ref 1037), (.ref 1038), (.ref 1039), (.int 1758 0), (.int 792 0), (.str (S "/claim/cut.py") 1759)]), #[]⟩
def o1041 : Obj := ⟨(.type "function"), none, (fD (top 105) (S "shop_of") (S "shop_of") 3 [] .none .none .none (.str (S "bindertongue.questionwork") 1679) none (.ref 1040) .none 0), #[]⟩
def o1042 : Obj := ⟨(.type "tuple"), none, (.seq #[] 0), #[]⟩
def o1043 : Obj := ⟨.none, none, (.fields #[]), #[]⟩
def o1044 : Obj := ⟨(.type "tuple"), none, (.seq #[(.str (S "look") 1764), (.str (S "targets") 1765)] 0), #[]⟩
def o1045 : Obj := ⟨(.type "tuple"), none, (.seq #[] 0), #[]⟩
def o1046 : Obj := ⟨.none, none, (fD (top 106) (S "is_never_by") (S "is_never_by") 0 [] .none .none .none .none none .none .none 0), #[]⟩
def o1047 : Obj := ⟨(.type "code"), none, (.fields #[(.str (S "is_never_by") 1761), (.str (S "is_never_by") 1762), (.str (S "/claim/cut.py") 1763), (.int 794 0), (.int 2 0), (.int 0 0), (.int 0 0), (.int 3 0), (.ref 1042), (.bool true), (.int 181 0), (.ref 1043), .none, (.ref 1044), (.ref 1045), (.ref 1046), (.int 1766 0), (.int 794 0), (.str (S "/claim/cut.py") 1767)]), #[]⟩
def o1048 : Obj := ⟨(.type "function"), none, (fD (top 106) (S "is_never_by") (S "is_never_by") 3 [] .none .none .none (.str (S "bindertongue.questionwork") 1679) none (.ref 1047) .none 0), #[]⟩
def T3_0 (p : Params) : PySem.W.BT := N (o3_3 p) (N o7 (N o15 (N o31 (N o63 (N o127 (N o255 (N o511 (N1 o1023) L) (N1 o767)) (N o383 (N1 o639) (N1 o895))) (N o191 (N o319 (N1 o575) (N1 o831)) (N o447 (N1 o703) (N1 o959)))) (N o95 (N o159 (N o287 (N1 o543) (N1 o799)) (N o415 (N1 o671) (N1 o927))) (N o223 (N o351 (N1 o607) (N1 o863)) (N o479 (N1 o735) (N1 o991))))) (N o47 (N (o79 p) (N o143 (N o271 (N o527 (N1 o1039) L) (N1 o783)) (N o399 (N1 o655) (N1 o911))) (N o207 (N o335 (N1 o591) (N1 o847)) (N o463 (N1 o719) (N1 o975)))) (N o111 (N o175 (N o303 (N1 o559) (N1 o815)) (N o431 (N1 o687) (N1 o943))) (N o239 (N o367 (N1 o623) (N1 o879)) (N o495 (N1 o751) (N1 o1007)))))) (N o23 (N o39 (N o71 (N o135 (N o263 (N o519 (N1 o1031) L) (N1 o775)) (N o391 (N1 o647) (N1 o903))) (N o199 (N (o327 p) (N1 o583) (N1 o839)) (N o455 (N1 o711) (N1 o967)))) (N o103 (N o167 (N o295 (N1 o551) (N1 o807)) (N o423 (N1 o679) (N1 o935))) (N o231 (N o359 (N1 o615) (N1 o871)) (N o487 (N1 o743) (N1 o999))))) (N o55 (N o87 (N o151 (N o279 (N o535 (N1 o1047) L) (N1 o791)) (N o407 (N1 o663) (N1 o919))) (N o215 (N o343 (N1 o599) (N1 (o855 p))) (N o471 (N1 o727) (N1 o983)))) (N o119 (N o183 (N o311 (N1 o567) (N1 o823)) (N o439 (N1 o695) (N1 o951))) (N o247 (N o375 (N1 o631) (N1 o887)) (N o503 (N1 o759) (N1 o1015))))))) (N o11 (N o19 (N o35 (N o67 (N o131 (N o259 (N o515 (N1 o1027) L) (N1 o771)) (N o387 (N1 o643) (N1 (o899 p)))) (N o195 (N o323 (N1 o579) (N1 o835)) (N o451 (N1 o707) (N1 (o963 p))))) (N o99 (N o163 (N o291 (N1 o547) (N1 o803)) (N o419 (N1 o675) (N1 o931))) (N o227 (N o355 (N1 o611) (N1 o867)) (N o483 (N1 o739) (N1 o995))))) (N o51 (N o83 (N o147 (N o275 (N o531 (N1 o1043) L) (N1 o787)) (N o403 (N1 o659) (N1 o915))) (N o211 (N o339 (N1 o595) (N1 o851)) (N o467 (N1 o723) (N1 o979)))) (N o115 (N o179 (N o307 (N1 o563) (N1 o819)) (N o435 (N1 o691) (N1 o947))) (N o243 (N o371 (N1 o627) (N1 o883)) (N o499 (N1 o755) (N1 o1011)))))) (N o27 (N o43 (N o75 (N o139 (N o267 (N o523 (N1 o1035) L) (N1 o779)) (N o395 (N1 o651) (N1 (o907 p)))) (N o203 (N o331 (N1 o587) (N1 o843)) (N o459 (N1 (o715 p)) (N1 o971)))) (N o107 (N o171 (N o299 (N1 o555) (N1 o811)) (N o427 (N1 o683) (N1 o939))) (N o235 (N o363 (N1 o619) (N1 o875)) (N o491 (N1 o747) (N1 o1003))))) (N o59 (N (o91 p) (N o155 (N o283 (N1 o539) (N1 o795)) (N o411 (N1 o667) (N1 o923))) (N o219 (N (o347 p) (N1 o603) (N1 o859)) (N o475 (N1 o731) (N1 o987)))) (N o123 (N o187 (N o315 (N1 o571) (N1 o827)) (N o443 (N1 o699) (N1 o955))) (N o251 (N o379 (N1 o635) (N1 o891)) (N o507 (N1 o763) (N1 o1019)))))))
def T3_1 (p : Params) : PySem.W.BT := N o5 (N o9 (N o17 (N o33 (N o65 (N o129 (N o257 (N o513 (N1 o1025) L) (N1 o769)) (N o385 (N1 o641) (N1 o897))) (N o193 (N o321 (N1 o577) (N1 o833)) (N o449 (N1 o705) (N1 o961)))) (N o97 (N o161 (N o289 (N1 o545) (N1 o801)) (N o417 (N1 o673) (N1 o929))) (N o225 (N o353 (N1 o609) (N1 o865)) (N o481 (N1 o737) (N1 o993))))) (N o49 (N o81 (N o145 (N o273 (N o529 (N1 o1041) L) (N1 (o785 p))) (N o401 (N1 o657) (N1 o913))) (N o209 (N o337 (N1 o593) (N1 o849)) (N o465 (N1 o721) (N1 o977)))) (N o113 (N o177 (N o305 (N1 o561) (N1 o817)) (N o433 (N1 o689) (N1 o945))) (N o241 (N o369 (N1 o625) (N1 o881)) (N o497 (N1 o753) (N1 o1009)))))) (N o25 (N o41 (N (o73 p) (N o137 (N o265 (N o521 (N1 o1033) L) (N1 o777)) (N o393 (N1 o649) (N1 o905))) (N o201 (N o329 (N1 o585) (N1 o841)) (N (o457 p) (N1 o713) (N1 o969)))) (N o105 (N o169 (N o297 (N1 o553) (N1 o809)) (N o425 (N1 (o681 p)) (N1 o937))) (N o233 (N o361 (N1 o617) (N1 o873)) (N o489 (N1 o745) (N1 o1001))))) (N o57 (N o89 (N o153 (N o281 (N1 o537) (N1 o793)) (N o409 (N1 o665) (N1 o921))) (N o217 (N o345 (N1 o601) (N1 o857)) (N o473 (N1 o729) (N1 o985)))) (N o121 (N o185 (N o313 (N1 o569) (N1 o825)) (N o441 (N1 o697) (N1 o953))) (N o249 (N o377 (N1 o633) (N1 o889)) (N o505 (N1 o761) (N1 o1017))))))) (N o13 (N o21 (N (o37 p) (N o69 (N o133 (N o261 (N o517 (N1 o1029) L) (N1 o773)) (N o389 (N1 o645) (N1 o901))) (N o197 (N o325 (N1 o581) (N1 o837)) (N o453 (N1 o709) (N1 o965)))) (N o101 (N o165 (N o293 (N1 o549) (N1 (o805 p))) (N o421 (N1 o677) (N1 o933))) (N o229 (N o357 (N1 o613) (N1 o869)) (N (o485 p) (N1 o741) (N1 o997))))) (N o53 (N (o85 p) (N o149 (N o277 (N o533 (N1 o1045) L) (N1 o789)) (N o405 (N1 (o661 p)) (N1 o917))) (N o213 (N o341 (N1 o597) (N1 o853)) (N o469 (N1 o725) (N1 o981)))) (N o117 (N o181 (N o309 (N1 o565) (N1 o821)) (N o437 (N1 o693) (N1 o949))) (N o245 (N (o373 p) (N1 o629) (N1 o885)) (N o501 (N1 o757) (N1 o1013)))))) (N o29 (N o45 (N o77 (N o141 (N o269 (N o525 (N1 o1037) L) (N1 o781)) (N o397 (N1 (o653 p)) (N1 o909))) (N o205 (N o333 (N1 o589) (N1 o845)) (N o461 (N1 o717) (N1 o973)))) (N o109 (N o173 (N o301 (N1 o557) (N1 o813)) (N o429 (N1 o685) (N1 o941))) (N o237 (N o365 (N1 o621) (N1 o877)) (N o493 (N1 o749) (N1 o1005))))) (N o61 (N o93 (N o157 (N o285 (N1 o541) (N1 o797)) (N o413 (N1 o669) (N1 o925))) (N o221 (N o349 (N1 o605) (N1 o861)) (N o477 (N1 (o733 p)) (N1 o989)))) (N o125 (N o189 (N o317 (N1 o573) (N1 o829)) (N o445 (N1 o701) (N1 o957))) (N o253 (N (o381 p) (N1 o637) (N1 o893)) (N o509 (N1 o765) (N1 o1021)))))))
def T3_2 (p : Params) : PySem.W.BT := N o4 (N o8 (N o16 (N o32 (N o64 (N o128 (N o256 (N o512 (N1 o1024) L) (N1 o768)) (N o384 (N1 o640) (N1 o896))) (N o192 (N o320 (N1 o576) (N1 o832)) (N o448 (N1 o704) (N1 o960)))) (N o96 (N o160 (N o288 (N1 o544) (N1 o800)) (N o416 (N1 o672) (N1 o928))) (N o224 (N o352 (N1 o608) (N1 o864)) (N o480 (N1 o736) (N1 o992))))) (N o48 (N o80 (N o144 (N o272 (N o528 (N1 o1040) L) (N1 o784)) (N o400 (N1 o656) (N1 o912))) (N o208 (N o336 (N1 o592) (N1 o848)) (N o464 (N1 o720) (N1 o976)))) (N o112 (N o176 (N o304 (N1 o560) (N1 o816)) (N o432 (N1 o688) (N1 o944))) (N o240 (N o368 (N1 o624) (N1 o880)) (N (o496 p) (N1 o752) (N1 o1008)))))) (N (o24 p) (N o40 (N o72 (N o136 (N o264 (N o520 (N1 o1032) L) (N1 o776)) (N o392 (N1 o648) (N1 o904))) (N o200 (N o328 (N1 o584) (N1 o840)) (N o456 (N1 o712) (N1 o968)))) (N o104 (N o168 (N o296 (N1 o552) (N1 o808)) (N o424 (N1 o680) (N1 o936))) (N o232 (N o360 (N1 o616) (N1 o872)) (N o488 (N1 o744) (N1 o1000))))) (N o56 (N o88 (N o152 (N o280 (N o536 (N1 o1048) L) (N1 o792)) (N o408 (N1 o664) (N1 o920))) (N o216 (N o344 (N1 o600) (N1 o856)) (N o472 (N1 o728) (N1 o984)))) (N o120 (N o184 (N o312 (N1 o568) (N1 o824)) (N o440 (N1 o696) (N1 o952))) (N o248 (N o376 (N1 o632) (N1 o888)) (N (o504 p) (N1 o760) (N1 o1016))))))) (N o12_3 (N o20 (N o36 (N o68 (N o132 (N o260 (N o516 (N1 o1028) L) (N1 o772)) (N o388 (N1 o644) (N1 o900))) (N o196 (N o324 (N1 o580) (N1 o836)) (N o452 (N1 o708) (N1 o964)))) (N o100 (N o164 (N o292 (N1 o548) (N1 o804)) (N o420 (N1 o676) (N1 o932))) (N o228 (N o356 (N1 o612) (N1 o868)) (N o484 (N1 o740) (N1 o996))))) (N (o52 p) (N o84 (N o148 (N o276 (N o532 (N1 o1044) L) (N1 o788)) (N o404 (N1 o660) (N1 o916))) (N o212 (N o340 (N1 o596) (N1 o852)) (N o468 (N1 o724) (N1 o980)))) (N o116 (N o180 (N o308 (N1 o564) (N1 o820)) (N (o436 p) (N1 o692) (N1 o948))) (N o244 (N o372 (N1 o628) (N1 o884)) (N o500 (N1 o756) (N1 o1012)))))) (N o28 (N o44 (N o76 (N o140 (N o268 (N o524 (N1 o1036) L) (N1 o780)) (N o396 (N1 o652) (N1 o908))) (N o204 (N o332 (N1 o588) (N1 o844)) (N o460 (N1 o716) (N1 o972)))) (N o108 (N o172 (N o300 (N1 o556) (N1 o812)) (N o428 (N1 o684) (N1 o940))) (N o236 (N o364 (N1 o620) (N1 o876)) (N o492 (N1 o748) (N1 o1004))))) (N o60 (N o92 (N (o156 p) (N o284 (N1 o540) (N1 o796)) (N o412 (N1 o668) (N1 o924))) (N o220 (N o348 (N1 o604) (N1 o860)) (N o476 (N1 o732) (N1 o988)))) (N o124 (N o188 (N o316 (N1 o572) (N1 o828)) (N o444 (N1 o700) (N1 o956))) (N o252 (N o380 (N1 o636) (N1 o892)) (N o508 (N1 o764) (N1 o1020)))))))
def T3_3 (p : Params) : PySem.W.BT := N o6 (N o10 (N o18 (N o34 (N o66 (N o130 (N o258 (N o514 (N1 o1026) L) (N1 o770)) (N o386 (N1 o642) (N1 o898))) (N o194 (N o322 (N1 o578) (N1 o834)) (N o450 (N1 o706) (N1 o962)))) (N o98 (N o162 (N o290 (N1 o546) (N1 o802)) (N o418 (N1 o674) (N1 o930))) (N o226 (N o354 (N1 o610) (N1 o866)) (N o482 (N1 o738) (N1 o994))))) (N o50 (N o82 (N o146 (N o274 (N o530 (N1 o1042) L) (N1 o786)) (N o402 (N1 o658) (N1 o914))) (N o210 (N o338 (N1 (o594 p)) (N1 o850)) (N o466 (N1 o722) (N1 o978)))) (N o114 (N o178 (N o306 (N1 o562) (N1 o818)) (N o434 (N1 o690) (N1 o946))) (N o242 (N o370 (N1 o626) (N1 o882)) (N o498 (N1 o754) (N1 o1010)))))) (N o26 (N o42 (N o74 (N o138 (N o266 (N o522 (N1 o1034) L) (N1 o778)) (N o394 (N1 o650) (N1 o906))) (N o202 (N o330 (N1 o586) (N1 o842)) (N o458 (N1 o714) (N1 o970)))) (N (o106 p) (N o170 (N o298 (N1 o554) (N1 o810)) (N o426 (N1 o682) (N1 o938))) (N o234 (N (o362 p) (N1 o618) (N1 o874)) (N o490 (N1 o746) (N1 o1002))))) (N (o58 p) (N o90 (N o154 (N o282 (N1 o538) (N1 o794)) (N o410 (N1 o666) (N1 o922))) (N o218 (N o346 (N1 o602) (N1 o858)) (N o474 (N1 o730) (N1 o986)))) (N o122 (N o186 (N o314 (N1 o570) (N1 o826)) (N o442 (N1 o698) (N1 o954))) (N o250 (N o378 (N1 o634) (N1 o890)) (N o506 (N1 o762) (N1 o1018))))))) (N o14 (N o22 (N o38 (N o70 (N o134 (N (o262 p) (N o518 (N1 o1030) L) (N1 o774)) (N o390 (N1 o646) (N1 o902))) (N o198 (N o326 (N1 o582) (N1 o838)) (N o454 (N1 o710) (N1 o966)))) (N o102 (N o166 (N o294 (N1 o550) (N1 o806)) (N o422 (N1 o678) (N1 o934))) (N o230 (N o358 (N1 (o614 p)) (N1 o870)) (N o486 (N1 o742) (N1 o998))))) (N o54 (N o86 (N o150 (N o278 (N o534 (N1 o1046) L) (N1 o790)) (N o406 (N1 o662) (N1 o918))) (N o214 (N o342 (N1 o598) (N1 o854)) (N (o470 p) (N1 o726) (N1 o982)))) (N o118 (N o182 (N o310 (N1 o566) (N1 o822)) (N o438 (N1 o694) (N1 o950))) (N o246 (N o374 (N1 o630) (N1 o886)) (N o502 (N1 o758) (N1 o1014)))))) (N (o30 p) (N o46 (N o78 (N o142 (N o270 (N o526 (N1 o1038) L) (N1 o782)) (N o398 (N1 o654) (N1 o910))) (N o206 (N o334 (N1 o590) (N1 o846)) (N o462 (N1 o718) (N1 o974)))) (N o110 (N (o174 p) (N o302 (N1 o558) (N1 o814)) (N o430 (N1 o686) (N1 o942))) (N o238 (N o366 (N1 o622) (N1 o878)) (N o494 (N1 o750) (N1 o1006))))) (N o62 (N o94 (N o158 (N o286 (N1 o542) (N1 o798)) (N o414 (N1 o670) (N1 o926))) (N o222 (N o350 (N1 o606) (N1 o862)) (N o478 (N1 o734) (N1 o990)))) (N o126 (N (o190 p) (N o318 (N1 o574) (N1 o830)) (N o446 (N1 o702) (N1 o958))) (N o254 (N o382 (N1 o638) (N1 o894)) (N o510 (N1 o766) (N1 o1022)))))))
def T3 (p : Params) : PySem.W.BT := N (o0 p) (N (o1 p) (T3_0 p) (T3_1 p)) (N (o2_2 p) (T3_2 p) (T3_3 p))
def o2_4 (p : Params) : Obj := ⟨.none, none, (.dict #[en p (S "type.__subclasses__.Exception.0") 212 (.int 31 0), en p (S "type.__subclasses__.Exception.n") 213 (.int 2 0), en p (S "type.__subclasses__.Exception.1") 1927 (.int 1150 0)] 3), #[]⟩
def o3_4 (p : Params) : Obj := ⟨(.type "dict"), none, (.dict #[en p (S "__name__") 165 (.str (S "bindertongue.readwork") 2604), en p (S "__doc__") 166 .none, en p (S "__package__") 167 .none, en p (S "__loader__") 168 (.builtin "__main__.__loader__#opaque"), en p (S "__spec__") 169 .none, en p (S "__annotations__") 170 (.ref 6), en p (S "__builtins__") 171 (.ref 4), en p (S "__file__") 173 (.str (S "/claim/cut.py") 172), en p (S "__cached__") 174 .none, en p (S "_wall") 193 (.ref 21), en p (S "BinderError") 215 (.ref 31), en p (S "Barred") 242 (.ref 53), en p (S "InvalidDeed") 269 (.ref 74), en p (S "TooWide") 285 (.ref 86), en p (S "InvalidText") 312 (.ref 107), en p (S "is_whole") 321 (.ref 116), en p (S "is_number") 328 (.ref 123), en p (S "is_string") 335 (.ref 130), en p (S "is_tuple_of") 343 (.ref 137), en p (S "LANGUAGE") 372 (.ref 138), en p (S "LETTERS") 374 (.str (S "abcdefghijklmnopqrstuvwxyz") 373), en p (S "MOST_LETTERS") 376 (.int 6 375), en p (S "HANDED") 378 (.str (S "x") 377), en p (S "PART_WORDS") 382 (.ref 139), en p (S "OPENED_WORDS") 386 (.ref 140), en p (S "NOT_GIVEN") 394 (.ref 141), en p (S "is_name") 400 (.ref 146), en p (S "word_told") 409 (.ref 153), en p (S "Words") 446 (.ref 175), en p (S "ASKS") 454 (.ref 180), en p (S "FREE") 456 (.str (S "free") 455), en p (S "NAME") 458 (.str (S "name") 457), en p (S "UNDER") 460 (.str (S "under") 459), en p (S "standard_pattern") 470 (.ref 187), en p (S "Lookup") 578 (.ref 263), en p (S "ends_in") 588 (.ref 274), en p (S "MOST_MAKERS") 592 (.int 1000 591), en p (S "MOST_DEEP") 594 (.int 50 593), en p (S "maker_of") 602 (.ref 281), en p (S "parts_asked") 613 (.ref 288), en p (S "is_tree_by") 619 (.ref 293), en p (S "branches_of") 631 (.ref 300), en p (S "own_names") 637 (.ref 305), en p (S "free_by") 643 (.ref 310), en p (S "renamed") 657 (.ref 317), en p (S "clear_by") 667 (.ref 324), en p (S "NEW_judgework") 671 (.str (S "new") 670), en p (S "Spot") 721 (.ref 348), en p (S "spot_of") 730 (.ref 359), en p (S "Case") 760 (.ref 374), en p (S "Answers") 851 (.ref 437), en p (S "says_by") 861 (.ref 448), en p (S "NEW_bodywork") 865 (.ref 449), en p (S "translated") 871 (.ref 454), en p (S "Node") 905 (.ref 471), en p (S "root_node") 917 (.ref 482), en p (S "Scope") 949 (.ref 497), en p (S "Walk") 1117 (.ref 595), en p (S "token_for") 1123 (.ref 604), en p (S "reference_at") 1136 (.ref 611), en p (S "Road") 1204 (.ref 654), en p (S "NamedRoad") 1240 (.ref 682), en p (S "next_script") 1248 (.ref 691), en p (S "MOST_ENDS_behindwork") 1252 (.int 40 1251), en p (S "is_handed_by") 1261 (.ref 698), en p (S "word_of") 1268 (.ref 705), en p (S "test_of") 1275 (.ref 712), en p (S "Making") 1319 (.ref 734), en p (S "made_case") 1329 (.ref 745), en p (S "made_cases") 1335 (.ref 750), en p (S "MOST_DEMANDS") 1339 (.int 16 1338), en p (S "is_part_of") 1345 (.ref 755), en p (S "formed") 1351 (.ref 760), en p (S "count_demands") 1357 (.ref 765), en p (S "all_demands") 1363 (.ref 770), en p (S "cuts_of") 1374 (.ref 777), en p (S "lots_of") 1380 (.ref 782), en p (S "MOST_WAYS") 1384 (.int 3000 1383), en p (S "Way") 1426 (.ref 806), en p (S "namings") 1432 (.ref 815), en p (S "names_for") 1438 (.ref 820), en p (S "names_by_place") 1444 (.ref 825), en p (S "demanded") 1450 (.ref 830), en p (S "part_target") 1456 (.ref 835), en p (S "parts_of_way") 1462 (.ref 840), en p (S "demands_of") 1468 (.ref 845), en p (S "joined") 1478 (.ref 852), en p (S "Shop") 1566 (.ref 900), en p (S "MOST_TARGETS") 1570 (.int 150 1569), en p (S "MOST_ROUND") 1572 (.int 3 1571), en p (S "Round") 1660 (.ref 964), en p (S "telling") 1670 (.ref 975), en p (S "is_ever_by") 1678 (.ref 982), en p (S "given_at") 1686 (.ref 987), en p (S "for_a_name") 1692 (.ref 992), en p (S "demanding") 1702 (.ref 999), en p (S "ever_by") 1712 (.ref 1006), en p (S "alike_by") 1724 (.ref 1013), en p (S "right_by") 1732 (.ref 1020), en p (S "keeps_by") 1744 (.ref 1027), en p (S "is_never_in") 1753 (.ref 1034), en p (S "shop_of") 1760 (.ref 1041), en p (S "is_never_by") 1768 (.ref 1048), en p (S "YES_askwork") 1772 (.str (S "yes") 1771), en p (S "NO") 1774 (.str (S "no") 1773), en p (S "WIDE") 1776 (.str (S "wide") 1775), en p (S "told_yes") 1783 (.ref 1055), en p (S "is_ever_so") 1791 (.ref 1062), en p (S "are_alike_so") 1801 (.ref 1069), en p (S "is_right_so") 1809 (.ref 1076), en p (S "does_keep_so") 1819 (.ref 1083), en p (S "is_so") 1827 (.ref 1090), en p (S "answer_by") 1835 (.ref 1097), en p (S "answers_by") 1841 (.ref 1102), en p (S "least_of") 1854 (.ref 1109), en p (S "least_sizes") 1860 (.ref 1114), en p (S "BLANK") 1864 (.str (S " ") 1863), en p (S "ALONE") 1866 (.str (S "[]:") 1865), en p (S "SIGNS") 1869 (.str (S "abcdefghijklmnopqrstuvwxyz []:") 1868), en p (S "FORM") 1871 (.str (S "form") 1870), en p (S "KIND") 1873 (.str (S "kind") 1872), en p (S "words_in") 1885 (.ref 1121), en p (S "row_words") 1891 (.ref 1126), en p (S "has_odd_sign") 1897 (.ref 1131), en p (S "Wrong") 1930 (.ref 1150), en p (S "Known") 1974 (.ref 1177), en p (S "Frame") 2022 (.ref 1212), en p (S "Sight") 2070 (.ref 1247), en p (S "Taking") 2203 (.ref 1352), en p (S "MOST_PLACES") 2207 (.int 3 2206), en p (S "MAKE") 2209 (.str (S "make") 2208), en p (S "GIVEN") 2211 (.str (S "given") 2210), en p (S "JUDGE") 2213 (.str (S "judge") 2212), en p (S "TURNER") 2215 (.str (S "turner") 2214), en p (S "CASE") 2217 (.str (S "case") 2216), en p (S "ELSE") 2219 (.str (S "else") 2218), en p (S "ASK") 2221 (.str (S "ask") 2220), en p (S "ROW_WORDS") 2222 (.ref 1357), en p (S "YES_parsing") 2224 (.str (S "yes") 2223), en p (S "TRUTHS") 2226 (.ref 1358), en p (S "firsts") 2232 (.ref 1363), en p (S "Reading") 2504 (.ref 1570), en p (S "tree_words") 2517 (.ref 1579), en p (S "pieces_of") 2528 (.ref 1586), en p (S "tree_text_by") 2536 (.ref 1593), en p (S "arg_text") 2543 (.ref 1600), en p (S "is_bound") 2550 (.ref 1607), en p (S "expression_text") 2556 (.ref 1612), en p (S "test_text") 2563 (.ref 1619), en p (S "truth_text") 2570 (.ref 1626), en p (S "body_text") 2577 (.ref 1633), en p (S "place_text") 2584 (.ref 1640), en p (S "pattern_text") 2591 (.ref 1647), en p (S "declared_text") 2597 (.ref 1652), en p (S "row_text") 2603 (.ref 1657), en p (S "SIGN") 2607 (.str (S "sign") 2606), en p (S "LATE") 2609 (.str (S "late") 2608), en p (S "MANY") 2611 (.str (S "many") 2610), en p (S "EMPTY") 2613 (.str (S "empty") 2612), en p (S "DECLARING") 2614 (.ref 1658), en p (S "WITH_CASES") 2615 (.ref 1659)] 161), #[]⟩
def o12_4 : Obj := ⟨.none, none, (.fields #[(.int 1 0), (.int 0 0), (.ref 20), (.int 5 0), (.int 0 0), (.ref 27), (.int 7 0), (.int 0 0), (.ref 41), (.int 12 0), (.int 0 0), (.ref 62), (.int 17 0), (.int 0 0), (.ref 82), (.int 19 0), (.int 0 0), (.ref 95), (.int 25 0), (.int 0 0), (.ref 115), (.int 27 0), (.int 0 0), (.ref 122), (.int 29 0), (.int 0 0), (.ref 129), (.int 31 0), (.int 0 0), (.ref 136), (.int 41 0), (.int 0 0), (.ref 145), (.int 45 0), (.int 0 0), (.ref 152), (.int 50 0), (.int 0 0), (.ref 159), (.int 69 0), (.int 0 0), (.ref 186), (.int 74 0), (.int 0 0), (.ref 193), (.int 123 0), (.int 0 0), (.ref 273), (.int 135 0), (.int 0 0), (.ref 280), (.int 141 0), (.int 0 0), (.ref 287), (.int 154 0), (.int 0 0), (.ref 292), (.int 168 0), (.int 0 0), (.ref 299), (.int 176 0), (.int 0 0), (.ref 304), (.int 179 0), (.int 0 0), (.ref 309), (.int 188 0), (.int 0 0), (.ref 316), (.int 199 0), (.int 0 0), (.ref 323), (.int 203 0), (.int 0 0), (.ref 330), (.int 226 0), (.int 0 0), (.ref 358), (.int 228 0), (.int 0 0), (.ref 365), (.int 245 0), (.int 0 0), (.ref 384), (.int 287 0), (.int 0 0), (.ref 447), (.int 291 0), (.int 0 0), (.ref 453), (.int 302 0), (.int 0 0), (.ref 460), (.int 310 0), (.int 0 0), (.ref 481), (.int 320 0), (.int 0 0), (.ref 488), (.int 339 0), (.int 0 0), (.ref 507), (.int 449 0), (.int 0 0), (.ref 603), (.int 452 0), (.int 0 0), (.ref 610), (.int 465 0), (.int 0 0), (.ref 617), (.int 488 0), (.int 0 0), (.ref 664), (.int 496 0), (.int 0 0), (.ref 690), (.int 503 0), (.int 0 0), (.ref 697), (.int 508 0), (.int 0 0), (.ref 704), (.int 518 0), (.int 0 0), (.ref 711), (.int 522 0), (.int 0 0), (.ref 718), (.int 544 0), (.int 0 0), (.ref 744), (.int 547 0), (.int 0 0), (.ref 749), (.int 551 0), (.int 0 0), (.ref 754), (.int 553 0), (.int 0 0), (.ref 759), (.int 556 0), (.int 0 0), (.ref 764), (.int 558 0), (.int 0 0), (.ref 769), (.int 560 0), (.int 0 0), (.ref 776), (.int 569 0), (.int 0 0), (.ref 781), (.int 577 0), (.int 0 0), (.ref 788), (.int 587 0), (.int 0 0), (.ref 814), (.int 593 0), (.int 0 0), (.ref 819), (.int 597 0), (.int 0 0), (.ref 824), (.int 600 0), (.int 0 0), (.ref 829), (.int 602 0), (.int 0 0), (.ref 834), (.int 614 0), (.int 0 0), (.ref 839), (.int 620 0), (.int 0 0), (.ref 844), (.int 627 0), (.int 0 0), (.ref 851), (.int 632 0), (.int 0 0), (.ref 858), (.int 693 0), (.int 0 0), (.ref 910), (.int 756 0), (.int 0 0), (.ref 974), (.int 762 0), (.int 0 0), (.ref 981), (.int 765 0), (.int 0 0), (.ref 986), (.int 767 0), (.int 0 0), (.ref 991), (.int 771 0), (.int 0 0), (.ref 998), (.int 775 0), (.int 0 0), (.ref 1005), (.int 777 0), (.int 0 0), (.ref 1012), (.int 782 0), (.int 0 0), (.ref 1019), (.int 784 0), (.int 0 0), (.ref 1026), (.int 787 0), (.int 0 0), (.ref 1033), (.int 792 0), (.int 0 0), (.ref 1040), (.int 794 0), (.int 0 0), (.ref 1047), (.int 800 0), (.int 0 0), (.ref 1054), (.int 802 0), (.int 0 0), (.ref 1061), (.int 804 0), (.int 0 0), (.ref 1068), (.int 807 0), (.int 0 0), (.ref 1075), (.int 809 0), (.int 0 0), (.ref 1082), (.int 811 0), (.int 0 0), (.ref 1089), (.int 821 0), (.int 0 0), (.ref 1096), (.int 826 0), (.int 0 0), (.ref 1101), (.int 829 0), (.int 0 0), (.ref 1108), (.int 837 0), (.int 0 0), (.ref 1113), (.int 851 0), (.int 0 0), (.ref 1120), (.int 859 0), (.int 0 0), (.ref 1125), (.int 868 0), (.int 0 0), (.ref 1130), (.int 871 0), (.int 0 0), (.ref 1138), (.int 877 0), (.int 0 0), (.ref 1159), (.int 890 0), (.int 0 0), (.ref 1187), (.int 903 0), (.int 0 0), (.ref 1222), (.int 916 0), (.int 0 0), (.ref 1257), (.int 997 0), (.int 0 0), (.ref 1362), (.int 999 0), (.int 0 0), (.ref 1369), (.int 1212 0), (.int 0 0), (.ref 1578), (.int 1222 0), (.int 0 0), (.ref 1585), (.int 1227 0), (.int 0 0), (.ref 1592), (.int 1229 0), (.int 0 0), (.ref 1599), (.int 1233 0), (.int 0 0), (.ref 1606), (.int 1235 0), (.int 0 0), (.ref 1611), (.int 1241 0), (.int 0 0), (.ref 1618), (.int 1245 0), (.int 0 0), (.ref 1625), (.int 1247 0), (.int 0 0), (.ref 1632), (.int 1253 0), (.int 0 0), (.ref 1639), (.int 1257 0), (.int 0 0), (.ref 1646), (.int 1259 0), (.int 0 0), (.ref 1651), (.int 1267 0), (.int 0 0), (.ref 1656)]), #[]⟩
def o1049 : Obj := ⟨(.type "tuple"), none, (.seq #[] 0), #[]⟩
def o1050 : Obj := ⟨.none, none, (.fields #[]), #[]⟩
def o1051 : Obj := ⟨(.type "tuple"), none, (.seq #[(.str (S "truth") 1780)] 0), #[]⟩
def o1052 : Obj := ⟨(.type "tuple"), none, (.seq #[] 0), #[]⟩
def o1053 : Obj := ⟨.none, none, (fD (top 111) (S "told_yes") (S "told_yes") 0 [] .none .none .none .none none .none .none 0), #[]⟩
def o1054 : Obj := ⟨(.type "code"), none, (.fields #[(.str (S "told_yes") 1777), (.str (S "told_yes") 1778), (.str (S "/claim/cut.py") 1779), (.int 800 0), (.int 1 0), (.int 0 0), (.int 0 0), (.int 3 0), (.ref 1049), (.bool true), (.int 181 0), (.ref 1050), .none, (.ref 1051), (.ref 1052), (.ref 1053), (.int 1781 0), (.int 800 0), (.str (S "/claim/cut.py") 1782)]), #[]⟩
def o1055 : Obj := ⟨(.type "function"), none, (fD (top 111) (S "told_yes") (S "told_yes") 3 [] .none .none .none (.str (S "bindertongue.askwork") 1769) none (.ref 1054) .none 0), #[]⟩
def o1056 : Obj := ⟨(.type "tuple"), none, (.seq #[] 0), #[]⟩
def o1057 : Obj := ⟨.none, none, (.fields #[]), #[]⟩
def o1058 : Obj := ⟨(.type "tuple"), none, (.seq #[(.str (S "look") 1787), (.str (S "judge") 1788)] 0), #[]⟩
def o1059 : Obj := ⟨(.type "tuple"), none, (.seq #[] 0), #[]⟩
def o1060 : Obj := ⟨.none, none, (fD (top 112) (S "is_ever_so") (S "is_ever_so") 0 [] .none .none .none .none none .none .none 0), #[]⟩
def o1061 : Obj := ⟨(.type "code"), none, (.fields #[(.str (S "is_ever_so") 1784), (.str (S "is_ever_so") 1785), (.str (S "/claim/cut.py") 1786), (.int 802 0), (.int 2 0), (.int 0 0), (.int 0 0), (.int 3 0), (.ref 1056), (.bool true), (.int 181 0), (.ref 1057), .none, (.ref 1058), (.ref 1059), (.ref 1060), (.int 1789 0), (.int 802 0), (.str (S "/claim/cut.py") 1790)]), #[]⟩
def o1062 : Obj := ⟨(.type "function"), none, (fD (top 112) (S "is_ever_so") (S "is_ever_so") 3 [] .none .none .none (.str (S "bindertongue.askwork") 1769) none (.ref 1061) .none 0), #[]⟩
def o1063 : Obj := ⟨(.type "tuple"), none, (.seq #[] 0), #[]⟩
def o1064 : Obj := ⟨.none, none, (.fields #[]), #[]⟩
def o1065 : Obj := ⟨(.type "tuple"), none, (.seq #[(.str (S "look") 1795), (.str (S "judge") 1796), (.str (S "other") 1797), (.str (S "targets") 1798)] 0), #[]⟩
def o1066 : Obj := ⟨(.type "tuple"), none, (.seq #[] 0), #[]⟩
def o1067 : Obj := ⟨.none, none, (fD (top 113) (S "are_alike_so") (S "are_alike_so") 0 [] .none .none .none .none none .none .none 0), #[]⟩
def o1068 : Obj := ⟨(.type "code"), none, (.fields #[(.str (S "are_alike_so") 1792), (.str (S "are_alike_so") 1793), (.str (S "/claim/cut.py") 1794), (.int 804 0), (.int 3 0), (.int 0 0), (.int 0 0), (.int 3 0), (.ref 1063), (.bool true), (.int 181 0), (.ref 1064), .none, (.ref 1065), (.ref 1066), (.ref 1067), (.int 1799 0), (.int 804 0), (.str (S "/claim/cut.py") 1800)]), #[]⟩
def o1069 : Obj := ⟨(.type "function"), none, (fD (top 113) (S "are_alike_so") (S "are_alike_so") 3 [] .none .none .none (.str (S "bindertongue.askwork") 1769) none (.ref 1068) .none 0), #[]⟩
def o1070 : Obj := ⟨(.type "tuple"), none, (.seq #[] 0), #[]⟩
def o1071 : Obj := ⟨.none, none, (.fields #[]), #[]⟩
def o1072 : Obj := ⟨(.type "tuple"), none, (.seq #[(.str (S "look") 1805), (.str (S "turner") 1806)] 0), #[]⟩
def o1073 : Obj := ⟨(.type "tuple"), none, (.seq #[] 0), #[]⟩
def o1074 : Obj := ⟨.none, none, (fD (top 114) (S "is_right_so") (S "is_right_so") 0 [] .none .none .none .none none .none .none 0), #[]⟩
def o1075 : Obj := ⟨(.type "code"), none, (.fields #[(.str (S "is_right_so") 1802), (.str (S "is_right_so") 1803), (.str (S "/claim/cut.py") 1804), (.int 807 0), (.int 2 0), (.int 0 0), (.int 0 0), (.int 3 0), (.ref 1070), (.bool true), (.int 181 0), (.ref 1071), .none, (.ref 1072), (.ref 1073), (.ref 1074), (.int 1807 0), (.int 807 0), (.str (S "/claim/cut.py") 1808)]), #[]⟩
def o1076 : Obj := ⟨(.type "function"), none, (fD (top 114) (S "is_right_so") (S "is_right_so") 3 [] .none .none .none (.str (S "bindertongue.askwork") 1769) none (.ref 1075) .none 0), #[]⟩
def o1077 : Obj := ⟨(.type "tuple"), none, (.seq #[] 0), #[]⟩
def o1078 : Obj := ⟨.none, none, (.fields #[]), #[]⟩
def o1079 : Obj := ⟨(.type "tuple"), none, (.seq #[(.str (S "look") 1813), (.str (S "turner") 1814), (.str (S "judge") 1815), (.str (S "other") 1816)] 0), #[]⟩
def o1080 : Obj := ⟨(.type "tuple"), none, (.seq #[] 0), #[]⟩
def o1081 : Obj := ⟨.none, none, (fD (top 115) (S "does_keep_so") (S "does_keep_so") 0 [] .none .none .none .none none .none .none 0), #[]⟩
def o1082 : Obj := ⟨(.type "code"), none, (.fields #[(.str (S "does_keep_so") 1810), (.str (S "does_keep_so") 1811), (.str (S "/claim/cut.py") 1812), (.int 809 0), (.int 4 0), (.int 0 0), (.int 0 0), (.int 3 0), (.ref 1077), (.bool true), (.int 181 0), (.ref 1078), .none, (.ref 1079), (.ref 1080), (.ref 1081), (.int 1817 0), (.int 809 0), (.str (S "/claim/cut.py") 1818)]), #[]⟩
def o1083 : Obj := ⟨(.type "function"), none, (fD (top 115) (S "does_keep_so") (S "does_keep_so") 3 [] .none .none .none (.str (S "bindertongue.askwork") 1769) none (.ref 1082) .none 0), #[]⟩
def o1084 : Obj := ⟨(.type "tuple"), none, (.seq #[] 0), #[]⟩
def o1085 : Obj := ⟨.none, none, (.fields #[]), #[]⟩
def o1086 : Obj := ⟨(.type "tuple"), none, (.seq #[(.str (S "look") 1823), (.str (S "row") 1824)] 0), #[]⟩
def o1087 : Obj := ⟨(.type "tuple"), none, (.seq #[] 0), #[]⟩
def o1088 : Obj := ⟨.none, none, (fD (top 116) (S "is_so") (S "is_so") 0 [] .none .none .none .none none .none .none 0), #[]⟩
def o1089 : Obj := ⟨(.type "code"), none, (.fields #[(.str (S "is_so") 1820), (.str (S "is_so") 1821), (.str (S "/claim/cut.py") 1822), (.int 811 0), (.int 2 0), (.int 0 0), (.int 0 0), (.int 3 0), (.ref 1084), (.bool true), (.int 181 0), (.ref 1085), .none, (.ref 1086), (.ref 1087), (.ref 1088), (.int 1825 0), (.int 811 0), (.str (S "/claim/cut.py") 1826)]), #[]⟩
def o1090 : Obj := ⟨(.type "function"), none, (fD (top 116) (S "is_so") (S "is_so") 3 [] .none .none .none (.str (S "bindertongue.askwork") 1769) none (.ref 1089) .none 0), #[]⟩
def o1091 : Obj := ⟨(.type "tuple"), none, (.seq #[] 0), #[]⟩
def o1092 : Obj := ⟨.none, none, (.fields #[]), #[]⟩
def o1093 : Obj := ⟨(.type "tuple"), none, (.seq #[(.str (S "look") 1831), (.str (S "row") 1832)] 0), #[]⟩
def o1094 : Obj := ⟨(.type "tuple"), none, (.seq #[] 0), #[]⟩
def o1095 : Obj := ⟨.none, none, (fD (top 117) (S "answer_by") (S "answer_by") 0 [] .none .none .none .none none .none .none 0), #[]⟩
def o1096 : Obj := ⟨(.type "code"), none, (.fields #[(.str (S "answer_by") 1828), (.str (S "answer_by") 1829), (.str (S "/claim/cut.py") 1830), (.int 821 0), (.int 2 0), (.int 0 0), (.int 0 0), (.int 3 0), (.ref 1091), (.bool true), (.int 181 0), (.ref 1092), .none, (.ref 1093), (.ref 1094), (.ref 1095), (.int 1833 0), (.int 821 0), (.str (S "/claim/cut.py") 1834)]), #[]⟩
def o1097 : Obj := ⟨(.type "function"), none, (fD (top 117) (S "answer_by") (S "answer_by") 3 [] .none .none .none (.str (S "bindertongue.askwork") 1769) none (.ref 1096) .none 0), #[]⟩
def o1098 : Obj := ⟨(.type "tuple"), none, (.seq #[] 0), #[]⟩
def o1099 : Obj := ⟨.none, none, (.fields #[]), #[]⟩
def o1100 : Obj := ⟨.none, none, (fD (top 118) (S "answers_by") (S "answers_by") 0 [] .none .none .none .none none .none .none 0), #[]⟩
def o1101 : Obj := ⟨(.type "code"), none, (.fields #[(.str (S "answers_by") 1836), (.str (S "answers_by") 1837), (.str (S "/claim/cut.py") 1838), (.int 826 0), (.int 1 0), (.int 0 0), (.int 0 0), (.int 3 0), (.ref 1098), (.bool true), (.int 181 0), (.ref 1099), .none, .none, .none, (.ref 1100), (.int 1839 0), (.int 826 0), (.str (S "/claim/cut.py") 1840)]), #[]⟩
def o1102 : Obj := ⟨(.type "function"), none, (fD (top 118) (S "answers_by") (S "answers_by") 3 [] .none .none .none (.str (S "bindertongue.askwork") 1769) none (.ref 1101) .none 0), #[]⟩
def o1103 : Obj := ⟨(.type "tuple"), none, (.seq #[] 0), #[]⟩
def o1104 : Obj := ⟨.none, none, (.fields #[]), #[]⟩
def o1105 : Obj := ⟨(.type "tuple"), none, (.seq #[(.str (S "look") 1847), (.str (S "maker") 1848), (.str (S "sizes") 1849), (.str (S "found") 1850), (.str (S "place") 1851)] 0), #[]⟩
def o1106 : Obj := ⟨(.type "tuple"), none, (.seq #[] 0), #[]⟩
def o1107 : Obj := ⟨.none, none, (fD (top 120) (S "least_of") (S "least_of") 0 [] .none .none .none .none none .none .none 0), #[]⟩
def o1108 : Obj := ⟨(.type "code"), none, (.fields #[(.str (S "least_of") 1844), (.str (S "least_of") 1845), (.str (S "/claim/cut.py") 1846), (.int 829 0), (.int 3 0), (.int 0 0), (.int 0 0), (.int 3 0), (.ref 1103), (.bool true), (.int 181 0), (.ref 1104), .none, (.ref 1105), (.ref 1106), (.ref 1107), (.int 1852 0), (.int 829 0), (.str (S "/claim/cut.py") 1853)]), #[]⟩
def o1109 : Obj := ⟨(.type "function"), none, (fD (top 120) (S "least_of") (S "least_of") 3 [] .none .none .none (.str (S "bindertongue.kindwork") 1842) none (.ref 1108) .none 0), #[]⟩
def o1110 : Obj := ⟨(.type "tuple"), none, (.seq #[] 0), #[]⟩
def o1111 : Obj := ⟨.none, none, (.fields #[]), #[]⟩
def o1112 : Obj := ⟨.none, none, (fD (top 121) (S "least_sizes") (S "least_sizes") 0 [] .none .none .none .none none .none .none 0), #[]⟩
def o1113 : Obj := ⟨(.type "code"), none, (.fields #[(.str (S "least_sizes") 1855), (.str (S "least_sizes") 1856), (.str (S "/claim/cut.py") 1857), (.int 837 0), (.int 1 0), (.int 0 0), (.int 0 0), (.int 3 0), (.ref 1110), (.bool true), (.int 181 0), (.ref 1111), .none, .none, .none, (.ref 1112), (.int 1858 0), (.int 837 0), (.str (S "/claim/cut.py") 1859)]), #[]⟩
def o1114 : Obj := ⟨(.type "function"), none, (fD (top 121) (S "least_sizes") (S "least_sizes") 3 [] .none .none .none (.str (S "bindertongue.kindwork") 1842) none (.ref 1113) .none 0), #[]⟩
def o1115 : Obj := ⟨(.type "tuple"), none, (.seq #[] 0), #[]⟩
def o1116 : Obj := ⟨.none, none, (.fields #[]), #[]⟩
def o1117 : Obj := ⟨(.type "tuple"), none, (.seq #[(.str (S "piece") 1877), (.str (S "at") 1878), (.str (S "found") 1879), (.str (S "begin") 1880), (.str (S "own") 1881), (.str (S "sign") 1882)] 0), #[]⟩
def o1118 : Obj := ⟨(.type "tuple"), none, (.seq #[] 0), #[]⟩
def o1119 : Obj := ⟨.none, none, (fD (top 128) (S "words_in") (S "words_in") 0 [] .none .none .none .none none .none .none 0), #[]⟩
def o1120 : Obj := ⟨(.type "code"), none, (.fields #[(.str (S "words_in") 1874), (.str (S "words_in") 1875), (.str (S "/claim/cut.py") 1876), (.int 851 0), (.int 2 0), (.int 0 0), (.int 0 0), (.int 3 0), (.ref 1115), (.bool true), (.int 181 0), (.ref 1116), .none, (.ref 1117), (.ref 1118), (.ref 1119), (.int 1883 0), (.int 851 0), (.str (S "/claim/cut.py") 1884)]), #[]⟩
def o1121 : Obj := ⟨(.type "function"), none, (fD (top 128) (S "words_in") (S "words_in") 3 [] .none .none .none (.str (S "bindertongue.scanning") 1861) none (.ref 1120) .none 0), #[]⟩
def o1122 : Obj := ⟨(.type "tuple"), none, (.seq #[] 0), #[]⟩
def o1123 : Obj := ⟨.none, none, (.fields #[]), #[]⟩
def o1124 : Obj := ⟨.none, none, (fD (top 129) (S "row_words") (S "row_words") 0 [] .none .none .none .none none .none .none 0), #[]⟩
def o1125 : Obj := ⟨(.type "code"), none, (.fields #[(.str (S "row_words") 1886), (.str (S "row_words") 1887), (.str (S "/claim/cut.py") 1888), (.int 859 0), (.int 1 0), (.int 0 0), (.int 0 0), (.int 3 0), (.ref 1122), (.bool true), (.int 181 0), (.ref 1123), .none, .none, .none, (.ref 1124), (.int 1889 0), (.int 859 0), (.str (S "/claim/cut.py") 1890)]), #[]⟩
def o1126 : Obj := ⟨(.type "function"), none, (fD (top 129) (S "row_words") (S "row_words") 3 [] .none .none .none (.str (S "bindertongue.scanning") 1861) none (.ref 1125) .none 0), #[]⟩
def o1127 : Obj := ⟨(.type "tuple"), none, (.seq #[] 0), #[]⟩
def o1128 : Obj := ⟨.none, none, (.fields #[]), #[]⟩
def o1129 : Obj := ⟨.none, none, (fD (top 130) (S "has_odd_sign") (S "has_odd_sign") 0 [] .none .none .none .none none .none .none 0), #[]⟩
def o1130 : Obj := ⟨(.type "code"), none, (.fields #[(.str (S "has_odd_sign") 1892), (.str (S "has_odd_sign") 1893), (.str (S "/claim/cut.py") 1894), (.int 868 0), (.int 1 0), (.int 0 0), (.int 0 0), (.int 3 0), (.ref 1127), (.bool true), (.int 181 0), (.ref 1128), .none, .none, .none, (.ref 1129), (.int 1895 0), (.int 868 0), (.str (S "/claim/cut.py") 1896)]), #[]⟩
def o1131 : Obj := ⟨(.type "function"), none, (fD (top 130) (S "has_odd_sign") (S "has_odd_sign") 3 [] .none .none .none (.str (S "bindertongue.scanning") 1861) none (.ref 1130) .none 0), #[]⟩
def o1132 : Obj := ⟨(.type "tuple"), none, (.seq #[(.type "Exception")] 0), #[]⟩
def o1133 : Obj := ⟨(.type "builtin_function_or_method"), none, (.fields #[(.builtin "type.__prepare__"), (.type "type")]), #[]⟩
def o1134 (p : Params) : Obj := ⟨(.type "dict"), none, (.dict #[en p (S "__module__") 1905 (.str (S "bindertongue.scanning") 1861), en p (S "__qualname__") 1907 (.str (S "Wrong") 1906), en p (S "__firstlineno__") 1909 (.int 871 1908), en p (S "__init__") 1919 (.ref 1147), en p (S "__static_attributes__") 1922 (.ref 1148), en p (S "__classcell__") 1923 (.ref 1135)] 6), #[]⟩
def o1135 : Obj := ⟨(.type "cell"), none, (.cell (some (.ref 1150))), #[]⟩
def o1136 : Obj := ⟨(.type "tuple"), none, (.seq #[] 0), #[]⟩
def o1137 : Obj := ⟨.none, none, (.fields #[(.int 873 0), (.int 4 0), (.ref 1146)]), #[]⟩
def o1138 : Obj := ⟨(.type "code"), none, (.fields #[(.str (S "Wrong") 1900), (.str (S "Wrong") 1901), (.str (S "/claim/cut.py") 1902), (.int 871 0), (.int 0 0), (.int 0 0), (.int 0 0), (.int 0 0), (.ref 1136), (.bool false), (.int 181 0), (.ref 1137), .none, .none, .none, .none, (.int 1903 0), (.int 871 0), (.str (S "/claim/cut.py") 1904)]), #[]⟩
def o1139 : Obj := ⟨(.type "frame"), none, .plain, #[(some (.ref 1138)), (some (.ref 3)), (some (.ref 1134)), none, (some (.str (S "bindertongue.scanning") 1861)), none, (some (.ref 0))]⟩
def o1140 : Obj := ⟨(.type "tuple"), none, (.seq #[(.ref 1135)] 0), #[]⟩
def o1141 : Obj := ⟨(.type "tuple"), none, (.seq #[(.str (S "__class__") 1913)] 0), #[]⟩
def o1142 : Obj := ⟨.none, none, (.fields #[]), #[]⟩
def o1143 : Obj := ⟨(.type "tuple"), none, (.seq #[(.str (S "self") 1914), (.str (S "column") 1915), (.str (S "what") 1916)] 0), #[]⟩
def o1144 : Obj := ⟨(.type "tuple"), none, (.seq #[] 0), #[]⟩
def o1145 : Obj := ⟨.none, none, (fD (inC 131 0) (S "__init__") (S "Wrong.__init__") 0 [] .none .none .none .none none .none .none 0), #[]⟩
def o1146 : Obj := ⟨(.type "code"), none, (.fields #[(.str (S "__init__") 1910), (.str (S "Wrong.__init__") 1911), (.str (S "/claim/cut.py") 1912), (.int 873 0), (.int 3 0), (.int 0 0), (.int 0 0), (.int 3 0), (.ref 1141), (.bool true), (.int 181 0), (.ref 1142), .none, (.ref 1143), (.ref 1144), (.ref 1145), (.int 1917 0), (.int 873 0), (.str (S "/claim/cut.py") 1918)]), #[]⟩
def o1147 : Obj := ⟨(.type "function"), none, (fD (inC 131 0) (S "__init__") (S "Wrong.__init__") 3 [((S "__class__"), 1135)] .none .none .none (.str (S "bindertongue.scanning") 1861) none (.ref 1146) (.ref 1140) 0), #[]⟩
def o1148 : Obj := ⟨(.type "tuple"), none, (.seq #[(.str (S "column") 1920), (.str (S "what") 1921)] 0), #[]⟩
def o1149 (p : Params) : Obj := ⟨(.type "dict"), none, (.dict #[en p (S "__module__") 1905 (.str (S "bindertongue.scanning") 1861), en p (S "__firstlineno__") 1909 (.int 871 1908), en p (S "__init__") 1919 (.ref 1147), en p (S "__static_attributes__") 1922 (.ref 1148), en p (S "__weakref__") 1925 (.ref 1151), en p (S "__doc__") 1926 .none] 4), #[]⟩
def o1150 : Obj := ⟨(.type "type"), none, (.cls ⟨(S "Wrong"), [(.type "Exception")], [(.ref 1150), (.type "Exception"), (.type "BaseException"), (.type "object")], 1149, (S "Wrong"), true, [], [], false, none, false⟩), #[(some (.ref 1132)), none, (some (.str (S "Wrong") 1898)), (some (.str (S "Wrong") 1906)), (some (.builtin "Exception.__new__")), (some (.bool true))]⟩
def o1151 : Obj := ⟨(.type "getset_descriptor"), none, (.fields #[(.str (S "__weakref__") 1924), (.ref 1150), (.builtin "ExceptionGroup.__weakref__"), .none]), #[]⟩
def o1152 : Obj := ⟨(.type "super"), none, (.fields #[(.ref 1150), (.ref 1150), (.ref 1150)]), #[]⟩
def o1153 : Obj := ⟨(.type "builtin_function_or_method"), none, (.fields #[(.builtin "object.__init_subclass__"), (.ref 1150)]), #[]⟩
def o1154 : Obj := ⟨(.type "tuple"), none, (.seq #[] 0), #[]⟩
def o1155 : Obj := ⟨(.type "builtin_function_or_method"), none, (.fields #[(.builtin "type.__prepare__"), (.type "type")]), #[]⟩
def o1156 (p : Params) : Obj := ⟨(.type "dict"), none, (.dict #[en p (S "__module__") 1938 (.str (S "bindertongue.scanning") 1861), en p (S "__qualname__") 1940 (.str (S "Known") 1939), en p (S "__firstlineno__") 1942 (.int 877 1941), en p (S "__init__") 1951 (.ref 1167), en p (S "places") 1959 (.ref 1174), en p (S "__static_attributes__") 1967 (.ref 1175)] 6), #[]⟩
def o1157 : Obj := ⟨(.type "tuple"), none, (.seq #[] 0), #[]⟩
def o1158 : Obj := ⟨.none, none, (.fields #[(.int 879 0), (.int 4 0), (.ref 1166), (.int 888 0), (.int 4 0), (.ref 1173)]), #[]⟩
def o1159 : Obj := ⟨(.type "code"), none, (.fields #[(.str (S "Known") 1933), (.str (S "Known") 1934), (.str (S "/claim/cut.py") 1935), (.int 877 0), (.int 0 0), (.int 0 0), (.int 0 0), (.int 0 0), (.ref 1157), (.bool false), (.int 181 0), (.ref 1158), .none, .none, .none, .none, (.int 1936 0), (.int 877 0), (.str (S "/claim/cut.py") 1937)]), #[]⟩
def o1160 : Obj := ⟨(.type "frame"), none, .plain, #[(some (.ref 1159)), (some (.ref 3)), (some (.ref 1156)), none, (some (.str (S "bindertongue.scanning") 1861)), none, (some (.ref 0))]⟩
def o1161 : Obj := ⟨(.type "tuple"), none, (.seq #[] 0), #[]⟩
def o1162 : Obj := ⟨.none, none, (.fields #[]), #[]⟩
def o1163 : Obj := ⟨(.type "tuple"), none, (.seq #[(.str (S "self") 1946), (.str (S "judges") 1947), (.str (S "turners") 1948)] 0), #[]⟩
def o1164 : Obj := ⟨(.type "tuple"), none, (.seq #[] 0), #[]⟩
def o1165 : Obj := ⟨.none, none, (fD (inC 132 0) (S "__init__") (S "Known.__init__") 0 [] .none .none .none .none none .none .none 0), #[]⟩
def o1166 : Obj := ⟨(.type "code"), none, (.fields #[(.str (S "__init__") 1943), (.str (S "Known.__init__") 1944), (.str (S "/claim/cut.py") 1945), (.int 879 0), (.int 3 0), (.int 0 0), (.int 0 0), (.int 3 0), (.ref 1161), (.bool true), (.int 181 0), (.ref 1162), .none, (.ref 1163), (.ref 1164), (.ref 1165), (.int 1949 0), (.int 879 0), (.str (S "/claim/cut.py") 1950)]), #[]⟩
def o1167 : Obj := ⟨(.type "function"), none, (fD (inC 132 0) (S "__init__") (S "Known.__init__") 3 [] .none .none .none (.str (S "bindertongue.scanning") 1861) none (.ref 1166) .none 0), #[]⟩
def o1168 : Obj := ⟨(.type "tuple"), none, (.seq #[] 0), #[]⟩
def o1169 : Obj := ⟨.none, none, (.fields #[]), #[]⟩
def o1170 : Obj := ⟨(.type "tuple"), none, (.seq #[(.str (S "self") 1955), (.str (S "maker") 1956)] 0), #[]⟩
def o1171 : Obj := ⟨(.type "tuple"), none, (.seq #[] 0), #[]⟩
def o1172 : Obj := ⟨.none, none, (fD (inC 132 1) (S "places") (S "Known.places") 0 [] .none .none .none .none none .none .none 0), #[]⟩
def o1173 : Obj := ⟨(.type "code"), none, (.fields #[(.str (S "places") 1952), (.str (S "Known.places") 1953), (.str (S "/claim/cut.py") 1954), (.int 888 0), (.int 2 0), (.int 0 0), (.int 0 0), (.int 3 0), (.ref 1168), (.bool true), (.int 181 0), (.ref 1169), .none, (.ref 1170), (.ref 1171), (.ref 1172), (.int 1957 0), (.int 888 0), (.str (S "/claim/cut.py") 1958)]), #[]⟩
def o1174 : Obj := ⟨(.type "function"), none, (fD (inC 132 1) (S "places") (S "Known.places") 3 [] .none .none .none (.str (S "bindertongue.scanning") 1861) none (.ref 1173) .none 0), #[]⟩
def o1175 : Obj := ⟨(.type "tuple"), none, (.seq #[(.str (S "givens") 1960), (.str (S "head") 1961), (.str (S "judges") 1962), (.str (S "kinds") 1963), (.str (S "makers") 1964), (.str (S "names") 1965), (.str (S "turners") 1966)] 0), #[]⟩
def o1176 (p : Params) : Obj := ⟨(.type "dict"), none, (.dict #[en p (S "__module__") 1938 (.str (S "bindertongue.scanning") 1861), en p (S "__firstlineno__") 1942 (.int 877 1941), en p (S "__init__") 1951 (.ref 1167), en p (S "places") 1959 (.ref 1174), en p (S "__static_attributes__") 1967 (.ref 1175), en p (S "__dict__") 1969 (.ref 1178), en p (S "__weakref__") 1971 (.ref 1179), en p (S "__doc__") 1972 .none] 4), #[]⟩
def o1177 : Obj := ⟨(.type "type"), none, (.cls ⟨(S "Known"), [(.type "object")], [(.ref 1177), (.type "object")], 1176, (S "Known"), true, [], [], false, none, false⟩), #[none, none, (some (.str (S "Known") 1931)), (some (.str (S "Known") 1939)), (some (.builtin "object.__new__")), (some (.bool true))]⟩
def o1178 : Obj := ⟨(.type "getset_descriptor"), none, (.fields #[(.str (S "__dict__") 1968), (.ref 1177), (.builtin "function.__dict__"), (.builtin "function.__dict__#set")]), #[]⟩
def o1179 : Obj := ⟨(.type "getset_descriptor"), none, (.fields #[(.str (S "__weakref__") 1970), (.ref 1177), (.builtin "ExceptionGroup.__weakref__"), .none]), #[]⟩
def o1180 : Obj := ⟨(.type "super"), none, (.fields #[(.ref 1177), (.ref 1177), (.ref 1177)]), #[]⟩
def o1181 : Obj := ⟨(.type "builtin_function_or_method"), none, (.fields #[(.builtin "object.__init_subclass__"), (.ref 1177)]), #[]⟩
def o1182 : Obj := ⟨(.type "tuple"), none, (.seq #[] 0), #[]⟩
def o1183 : Obj := ⟨(.type "builtin_function_or_method"), none, (.fields #[(.builtin "type.__prepare__"), (.type "type")]), #[]⟩
def o1184 (p : Params) : Obj := ⟨(.type "dict"), none, (.dict #[en p (S "__module__") 1982 (.str (S "bindertongue.scanning") 1861), en p (S "__qualname__") 1984 (.str (S "Frame") 1983), en p (S "__firstlineno__") 1986 (.int 890 1985), en p (S "__init__") 1995 (.ref 1195), en p (S "next_place") 2002 (.ref 1202), en p (S "whole") 2010 (.ref 1209), en p (S "__static_attributes__") 2015 (.ref 1210)] 7), #[]⟩
def o1185 : Obj := ⟨(.type "tuple"), none, (.seq #[] 0), #[]⟩
def o1186 : Obj := ⟨.none, none, (.fields #[(.int 892 0), (.int 4 0), (.ref 1194), (.int 898 0), (.int 4 0), (.ref 1201), (.int 901 0), (.int 4 0), (.ref 1208)]), #[]⟩
def o1187 : Obj := ⟨(.type "code"), none, (.fields #[(.str (S "Frame") 1977), (.str (S "Frame") 1978), (.str (S "/claim/cut.py") 1979), (.int 890 0), (.int 0 0), (.int 0 0), (.int 0 0), (.int 0 0), (.ref 1185), (.bool false), (.int 181 0), (.ref 1186), .none, .none, .none, .none, (.int 1980 0), (.int 890 0), (.str (S "/claim/cut.py") 1981)]), #[]⟩
def o1188 : Obj := ⟨(.type "frame"), none, .plain, #[(some (.ref 1187)), (some (.ref 3)), (some (.ref 1184)), none, (some (.str (S "bindertongue.scanning") 1861)), none, (some (.ref 0))]⟩
def o1189 : Obj := ⟨(.type "tuple"), none, (.seq #[] 0), #[]⟩
def o1190 : Obj := ⟨.none, none, (.fields #[]), #[]⟩
def o1191 : Obj := ⟨(.type "tuple"), none, (.seq #[(.str (S "self") 1990), (.str (S "maker") 1991), (.str (S "room") 1992)] 0), #[]⟩
def o1192 : Obj := ⟨(.type "tuple"), none, (.seq #[] 0), #[]⟩
def o1193 : Obj := ⟨.none, none, (fD (inC 133 0) (S "__init__") (S "Frame.__init__") 0 [] .none .none .none .none none .none .none 0), #[]⟩
def o1194 : Obj := ⟨(.type "code"), none, (.fields #[(.str (S "__init__") 1987), (.str (S "Frame.__init__") 1988), (.str (S "/claim/cut.py") 1989), (.int 892 0), (.int 3 0), (.int 0 0), (.int 0 0), (.int 3 0), (.ref 1189), (.bool true), (.int 181 0), (.ref 1190), .none, (.ref 1191), (.ref 1192), (.ref 1193), (.int 1993 0), (.int 892 0), (.str (S "/claim/cut.py") 1994)]), #[]⟩
def o1195 : Obj := ⟨(.type "function"), none, (fD (inC 133 0) (S "__init__") (S "Frame.__init__") 3 [] .none .none .none (.str (S "bindertongue.scanning") 1861) none (.ref 1194) .none 0), #[]⟩
def o1196 : Obj := ⟨(.type "tuple"), none, (.seq #[] 0), #[]⟩
def o1197 : Obj := ⟨.none, none, (.fields #[]), #[]⟩
def o1198 : Obj := ⟨(.type "tuple"), none, (.seq #[(.str (S "self") 1999)] 0), #[]⟩
def o1199 : Obj := ⟨(.type "tuple"), none, (.seq #[] 0), #[]⟩
def o1200 : Obj := ⟨.none, none, (fD (inC 133 1) (S "next_place") (S "Frame.next_place") 0 [] .none .none .none .none none .none .none 0), #[]⟩
def o1201 : Obj := ⟨(.type "code"), none, (.fields #[(.str (S "next_place") 1996), (.str (S "Frame.next_place") 1997), (.str (S "/claim/cut.py") 1998), (.int 898 0), (.int 1 0), (.int 0 0), (.int 0 0), (.int 3 0), (.ref 1196), (.bool true), (.int 181 0), (.ref 1197), .none, (.ref 1198), (.ref 1199), (.ref 1200), (.int 2000 0), (.int 898 0), (.str (S "/claim/cut.py") 2001)]), #[]⟩
def o1202 : Obj := ⟨(.type "function"), none, (fD (inC 133 1) (S "next_place") (S "Frame.next_place") 3 [] .none .none .none (.str (S "bindertongue.scanning") 1861) none (.ref 1201) .none 0), #[]⟩
def o1203 : Obj := ⟨(.type "tuple"), none, (.seq #[] 0), #[]⟩
def o1204 : Obj := ⟨.none, none, (.fields #[]), #[]⟩
def o1205 : Obj := ⟨(.type "tuple"), none, (.seq #[(.str (S "self") 2006), (.str (S "is_tree") 2007)] 0), #[]⟩
def o1206 : Obj := ⟨(.type "tuple"), none, (.seq #[] 0), #[]⟩
def o1207 : Obj := ⟨.none, none, (fD (inC 133 2) (S "whole") (S "Frame.whole") 0 [] .none .none .none .none none .none .none 0), #[]⟩
def o1208 : Obj := ⟨(.type "code"), none, (.fields #[(.str (S "whole") 2003), (.str (S "Frame.whole") 2004), (.str (S "/claim/cut.py") 2005), (.int 901 0), (.int 2 0), (.int 0 0), (.int 0 0), (.int 3 0), (.ref 1203), (.bool true), (.int 181 0), (.ref 1204), .none, (.ref 1205), (.ref 1206), (.ref 1207), (.int 2008 0), (.int 901 0), (.str (S "/claim/cut.py") 2009)]), #[]⟩
def o1209 : Obj := ⟨(.type "function"), none, (fD (inC 133 2) (S "whole") (S "Frame.whole") 3 [] .none .none .none (.str (S "bindertongue.scanning") 1861) none (.ref 1208) .none 0), #[]⟩
def o1210 : Obj := ⟨(.type "tuple"), none, (.seq #[(.str (S "binder") 2011), (.str (S "filled") 2012), (.str (S "maker") 2013), (.str (S "room") 2014)] 0), #[]⟩
def o1211 (p : Params) : Obj := ⟨(.type "dict"), none, (.dict #[en p (S "__module__") 1982 (.str (S "bindertongue.scanning") 1861), en p (S "__firstlineno__") 1986 (.int 890 1985), en p (S "__init__") 1995 (.ref 1195), en p (S "next_place") 2002 (.ref 1202), en p (S "whole") 2010 (.ref 1209), en p (S "__static_attributes__") 2015 (.ref 1210), en p (S "__dict__") 2017 (.ref 1213), en p (S "__weakref__") 2019 (.ref 1214), en p (S "__doc__") 2020 .none] 4), #[]⟩
def o1212 : Obj := ⟨(.type "type"), none, (.cls ⟨(S "Frame"), [(.type "object")], [(.ref 1212), (.type "object")], 1211, (S "Frame"), true, [], [], false, none, false⟩), #[none, none, (some (.str (S "Frame") 1975)), (some (.str (S "Frame") 1983)), (some (.builtin "object.__new__")), (some (.bool true))]⟩
def o1213 : Obj := ⟨(.type "getset_descriptor"), none, (.fields #[(.str (S "__dict__") 2016), (.ref 1212), (.builtin "function.__dict__"), (.builtin "function.__dict__#set")]), #[]⟩
def o1214 : Obj := ⟨(.type "getset_descriptor"), none, (.fields #[(.str (S "__weakref__") 2018), (.ref 1212), (.builtin "ExceptionGroup.__weakref__"), .none]), #[]⟩
def o1215 : Obj := ⟨(.type "super"), none, (.fields #[(.ref 1212), (.ref 1212), (.ref 1212)]), #[]⟩
def o1216 : Obj := ⟨(.type "builtin_function_or_method"), none, (.fields #[(.builtin "object.__init_subclass__"), (.ref 1212)]), #[]⟩
def o1217 : Obj := ⟨(.type "tuple"), none, (.seq #[] 0), #[]⟩
def o1218 : Obj := ⟨(.type "builtin_function_or_method"), none, (.fields #[(.builtin "type.__prepare__"), (.type "type")]), #[]⟩
def o1219 (p : Params) : Obj := ⟨(.type "dict"), none, (.dict #[en p (S "__module__") 2030 (.str (S "bindertongue.scanning") 1861), en p (S "__qualname__") 2032 (.str (S "Sight") 2031), en p (S "__firstlineno__") 2034 (.int 903 2033), en p (S "__init__") 2042 (.ref 1230), en p (S "has") 2050 (.ref 1237), en p (S "is_seen") 2058 (.ref 1244), en p (S "__static_attributes__") 2063 (.ref 1245)] 7), #[]⟩
def o1220 : Obj := ⟨(.type "tuple"), none, (.seq #[] 0), #[]⟩
def o1221 : Obj := ⟨.none, none, (.fields #[(.int 905 0), (.int 4 0), (.ref 1229), (.int 911 0), (.int 4 0), (.ref 1236), (.int 914 0), (.int 4 0), (.ref 1243)]), #[]⟩
def o1222 : Obj := ⟨(.type "code"), none, (.fields #[(.str (S "Sight") 2025), (.str (S "Sight") 2026), (.str (S "/claim/cut.py") 2027), (.int 903 0), (.int 0 0), (.int 0 0), (.int 0 0), (.int 0 0), (.ref 1220), (.bool false), (.int 181 0), (.ref 1221), .none, .none, .none, .none, (.int 2028 0), (.int 903 0), (.str (S "/claim/cut.py") 2029)]), #[]⟩
def o1223 : Obj := ⟨(.type "frame"), none, .plain, #[(some (.ref 1222)), (some (.ref 3)), (some (.ref 1219)), none, (some (.str (S "bindertongue.scanning") 1861)), none, (some (.ref 0))]⟩
def o1224 : Obj := ⟨(.type "tuple"), none, (.seq #[] 0), #[]⟩
def o1225 : Obj := ⟨.none, none, (.fields #[]), #[]⟩
def o1226 : Obj := ⟨(.type "tuple"), none, (.seq #[(.str (S "self") 2038), (.str (S "handed") 2039)] 0), #[]⟩
def o1227 : Obj := ⟨(.type "tuple"), none, (.seq #[] 0), #[]⟩
def o1228 : Obj := ⟨.none, none, (fD (inC 134 0) (S "__init__") (S "Sight.__init__") 0 [] .none .none .none .none none .none .none 0), #[]⟩
def o1229 : Obj := ⟨(.type "code"), none, (.fields #[(.str (S "__init__") 2035), (.str (S "Sight.__init__") 2036), (.str (S "/claim/cut.py") 2037), (.int 905 0), (.int 2 0), (.int 0 0), (.int 0 0), (.int 3 0), (.ref 1224), (.bool true), (.int 181 0), (.ref 1225), .none, (.ref 1226), (.ref 1227), (.ref 1228), (.int 2040 0), (.int 905 0), (.str (S "/claim/cut.py") 2041)]), #[]⟩
def o1230 : Obj := ⟨(.type "function"), none, (fD (inC 134 0) (S "__init__") (S "Sight.__init__") 3 [] .none .none .none (.str (S "bindertongue.scanning") 1861) none (.ref 1229) .none 0), #[]⟩
def o1231 : Obj := ⟨(.type "tuple"), none, (.seq #[] 0), #[]⟩
def o1232 : Obj := ⟨.none, none, (.fields #[]), #[]⟩
def o1233 : Obj := ⟨(.type "tuple"), none, (.seq #[(.str (S "self") 2046), (.str (S "name") 2047)] 0), #[]⟩
def o1234 : Obj := ⟨(.type "tuple"), none, (.seq #[] 0), #[]⟩
def o1235 : Obj := ⟨.none, none, (fD (inC 134 1) (S "has") (S "Sight.has") 0 [] .none .none .none .none none .none .none 0), #[]⟩
def o1236 : Obj := ⟨(.type "code"), none, (.fields #[(.str (S "has") 2043), (.str (S "Sight.has") 2044), (.str (S "/claim/cut.py") 2045), (.int 911 0), (.int 2 0), (.int 0 0), (.int 0 0), (.int 3 0), (.ref 1231), (.bool true), (.int 181 0), (.ref 1232), .none, (.ref 1233), (.ref 1234), (.ref 1235), (.int 2048 0), (.int 911 0), (.str (S "/claim/cut.py") 2049)]), #[]⟩
def o1237 : Obj := ⟨(.type "function"), none, (fD (inC 134 1) (S "has") (S "Sight.has") 3 [] .none .none .none (.str (S "bindertongue.scanning") 1861) none (.ref 1236) .none 0), #[]⟩
def o1238 : Obj := ⟨(.type "tuple"), none, (.seq #[] 0), #[]⟩
def o1239 : Obj := ⟨.none, none, (.fields #[]), #[]⟩
def o1240 : Obj := ⟨(.type "tuple"), none, (.seq #[(.str (S "self") 2054), (.str (S "name") 2055)] 0), #[]⟩
def o1241 : Obj := ⟨(.type "tuple"), none, (.seq #[] 0), #[]⟩
def o1242 : Obj := ⟨.none, none, (fD (inC 134 2) (S "is_seen") (S "Sight.is_seen") 0 [] .none .none .none .none none .none .none 0), #[]⟩
def o1243 : Obj := ⟨(.type "code"), none, (.fields #[(.str (S "is_seen") 2051), (.str (S "Sight.is_seen") 2052), (.str (S "/claim/cut.py") 2053), (.int 914 0), (.int 2 0), (.int 0 0), (.int 0 0), (.int 3 0), (.ref 1238), (.bool true), (.int 181 0), (.ref 1239), .none, (.ref 1240), (.ref 1241), (.ref 1242), (.int 2056 0), (.int 914 0), (.str (S "/claim/cut.py") 2057)]), #[]⟩
def o1244 : Obj := ⟨(.type "function"), none, (fD (inC 134 2) (S "is_seen") (S "Sight.is_seen") 3 [] .none .none .none (.str (S "bindertongue.scanning") 1861) none (.ref 1243) .none 0), #[]⟩
def o1245 : Obj := ⟨(.type "tuple"), none, (.seq #[(.str (S "handed") 2059), (.str (S "opened") 2060), (.str (S "own") 2061), (.str (S "parts") 2062)] 0), #[]⟩
def o1246 (p : Params) : Obj := ⟨(.type "dict"), none, (.dict #[en p (S "__module__") 2030 (.str (S "bindertongue.scanning") 1861), en p (S "__firstlineno__") 2034 (.int 903 2033), en p (S "__init__") 2042 (.ref 1230), en p (S "has") 2050 (.ref 1237), en p (S "is_seen") 2058 (.ref 1244), en p (S "__static_attributes__") 2063 (.ref 1245), en p (S "__dict__") 2065 (.ref 1248), en p (S "__weakref__") 2067 (.ref 1249), en p (S "__doc__") 2068 .none] 4), #[]⟩
def o1247 : Obj := ⟨(.type "type"), none, (.cls ⟨(S "Sight"), [(.type "object")], [(.ref 1247), (.type "object")], 1246, (S "Sight"), true, [], [], false, none, false⟩), #[none, none, (some (.str (S "Sight") 2023)), (some (.str (S "Sight") 2031)), (some (.builtin "object.__new__")), (some (.bool true))]⟩
def o1248 : Obj := ⟨(.type "getset_descriptor"), none, (.fields #[(.str (S "__dict__") 2064), (.ref 1247), (.builtin "function.__dict__"), (.builtin "function.__dict__#set")]), #[]⟩
def o1249 : Obj := ⟨(.type "getset_descriptor"), none, (.fields #[(.str (S "__weakref__") 2066), (.ref 1247), (.builtin "ExceptionGroup.__weakref__"), .none]), #[]⟩
def o1250 : Obj := ⟨(.type "super"), none, (.fields #[(.ref 1247), (.ref 1247), (.ref 1247)]), #[]⟩
def o1251 : Obj := ⟨(.type "builtin_function_or_method"), none, (.fields #[(.builtin "object.__init_subclass__"), (.ref 1247)]), #[]⟩
def o1252 : Obj := ⟨(.type "tuple"), none, (.seq #[] 0), #[]⟩
def o1253 : Obj := ⟨(.type "builtin_function_or_method"), none, (.fields #[(.builtin "type.__prepare__"), (.type "type")]), #[]⟩
def o1254 (p : Params) : Obj := ⟨(.type "dict"), none, (.dict #[en p (S "__module__") 2078 (.str (S "bindertongue.scanning") 1861), en p (S "__qualname__") 2080 (.str (S "Taking") 2079), en p (S "__firstlineno__") 2082 (.int 916 2081), en p (S "__init__") 2091 (.ref 1265), en p (S "word") 2098 (.ref 1272), en p (S "fail") 2106 (.ref 1279), en p (S "goes_on") 2114 (.ref 1286), en p (S "take") 2122 (.ref 1293), en p (S "take_of") 2131 (.ref 1300), en p (S "take_end") 2138 (.ref 1307), en p (S "look_at_name") 2146 (.ref 1314), en p (S "take_name") 2155 (.ref 1321), en p (S "take_any") 2163 (.ref 1328), en p (S "take_new") 2171 (.ref 1335), en p (S "take_kind") 2179 (.ref 1342), en p (S "take_of_kind") 2189 (.ref 1349), en p (S "__static_attributes__") 2196 (.ref 1350)] 17), #[]⟩
def o1255 : Obj := ⟨(.type "tuple"), none, (.seq #[] 0), #[]⟩
def o1256 : Obj := ⟨.none, none, (.fields #[(.int 918 0), (.int 4 0), (.ref 1264), (.int 926 0), (.int 4 0), (.ref 1271), (.int 929 0), (.int 4 0), (.ref 1278), (.int 932 0), (.int 4 0), (.ref 1285), (.int 938 0), (.int 4 0), (.ref 1292), (.int 942 0), (.int 4 0), (.ref 1299), (.int 949 0), (.int 4 0), (.ref 1306), (.int 953 0), (.int 4 0), (.ref 1313), (.int 959 0), (.int 4 0), (.ref 1320), (.int 966 0), (.int 4 0), (.ref 1327), (.int 971 0), (.int 4 0), (.ref 1334), (.int 974 0), (.int 4 0), (.ref 1341), (.int 977 0), (.int 4 0), (.ref 1348)]), #[]⟩
def o1257 : Obj := ⟨(.type "code"), none, (.fields #[(.str (S "Taking") 2073), (.str (S "Taking") 2074), (.str (S "/claim/cut.py") 2075), (.int 916 0), (.int 0 0), (.int 0 0), (.int 0 0), (.int 0 0), (.ref 1255), (.bool false), (.int 181 0), (.ref 1256), .none, .none, .none, .none, (.int 2076 0), (.int 916 0), (.str (S "/claim/cut.py") 2077)]), #[]⟩
def o1258 : Obj := ⟨(.type "frame"), none, .plain, #[(some (.ref 1257)), (some (.ref 3)), (some (.ref 1254)), none, (some (.str (S "bindertongue.scanning") 1861)), none, (some (.ref 0))]⟩
def o1259 : Obj := ⟨(.type "tuple"), none, (.seq #[] 0), #[]⟩
def o1260 : Obj := ⟨.none, none, (.fields #[]), #[]⟩
def o1261 : Obj := ⟨(.type "tuple"), none, (.seq #[(.str (S "self") 2086), (.str (S "text") 2087), (.str (S "known") 2088)] 0), #[]⟩
def o1262 : Obj := ⟨(.type "tuple"), none, (.seq #[] 0), #[]⟩
def o1263 : Obj := ⟨.none, none, (fD (inC 135 0) (S "__init__") (S "Taking.__init__") 0 [] .none .none .none .none none .none .none 0), #[]⟩
def o1264 : Obj := ⟨(.type "code"), none, (.fields #[(.str (S "__init__") 2083), (.str (S "Taking.__init__") 2084), (.str (S "/claim/cut.py") 2085), (.int 918 0), (.int 3 0), (.int 0 0), (.int 0 0), (.int 3 0), (.ref 1259), (.bool true), (.int 181 0), (.ref 1260), .none, (.ref 1261), (.ref 1262), (.ref 1263), (.int 2089 0), (.int 918 0), (.str (S "/claim/cut.py") 2090)]), #[]⟩
def o1265 : Obj := ⟨(.type "function"), none, (fD (inC 135 0) (S "__init__") (S "Taking.__init__") 3 [] .none .none .none (.str (S "bindertongue.scanning") 1861) none (.ref 1264) .none 0), #[]⟩
def o1266 : Obj := ⟨(.type "tuple"), none, (.seq #[] 0), #[]⟩
def o1267 : Obj := ⟨.none, none, (.fields #[]), #[]⟩
def o1268 : Obj := ⟨(.type "tuple"), none, (.seq #[(.str (S "self") 2095)] 0), #[]⟩
def o1269 : Obj := ⟨(.type "tuple"), none, (.seq #[] 0), #[]⟩
def o1270 : Obj := ⟨.none, none, (fD (inC 135 1) (S "word") (S "Taking.word") 0 [] .none .none .none .none none .none .none 0), #[]⟩
def o1271 : Obj := ⟨(.type "code"), none, (.fields #[(.str (S "word") 2092), (.str (S "Taking.word") 2093), (.str (S "/claim/cut.py") 2094), (.int 926 0), (.int 1 0), (.int 0 0), (.int 0 0), (.int 3 0), (.ref 1266), (.bool true), (.int 181 0), (.ref 1267), .none, (.ref 1268), (.ref 1269), (.ref 1270), (.int 2096 0), (.int 926 0), (.str (S "/claim/cut.py") 2097)]), #[]⟩
def o1272 : Obj := ⟨(.type "function"), none, (fD (inC 135 1) (S "word") (S "Taking.word") 3 [] .none .none .none (.str (S "bindertongue.scanning") 1861) none (.ref 1271) .none 0), #[]⟩
def o1273 : Obj := ⟨(.type "tuple"), none, (.seq #[] 0), #[]⟩
def o1274 : Obj := ⟨.none, none, (.fields #[]), #[]⟩
def o1275 : Obj := ⟨(.type "tuple"), none, (.seq #[(.str (S "self") 2102), (.str (S "what") 2103)] 0), #[]⟩
def o1276 : Obj := ⟨(.type "tuple"), none, (.seq #[] 0), #[]⟩
def o1277 : Obj := ⟨.none, none, (fD (inC 135 2) (S "fail") (S "Taking.fail") 0 [] .none .none .none .none none .none .none 0), #[]⟩
def o1278 : Obj := ⟨(.type "code"), none, (.fields #[(.str (S "fail") 2099), (.str (S "Taking.fail") 2100), (.str (S "/claim/cut.py") 2101), (.int 929 0), (.int 2 0), (.int 0 0), (.int 0 0), (.int 3 0), (.ref 1273), (.bool true), (.int 181 0), (.ref 1274), .none, (.ref 1275), (.ref 1276), (.ref 1277), (.int 2104 0), (.int 929 0), (.str (S "/claim/cut.py") 2105)]), #[]⟩
def o1279 : Obj := ⟨(.type "function"), none, (fD (inC 135 2) (S "fail") (S "Taking.fail") 3 [] .none .none .none (.str (S "bindertongue.scanning") 1861) none (.ref 1278) .none 0), #[]⟩
def o1280 : Obj := ⟨(.type "tuple"), none, (.seq #[] 0), #[]⟩
def o1281 : Obj := ⟨.none, none, (.fields #[]), #[]⟩
def o1282 : Obj := ⟨(.type "tuple"), none, (.seq #[(.str (S "self") 2110), (.str (S "word") 2111)] 0), #[]⟩
def o1283 : Obj := ⟨(.type "tuple"), none, (.seq #[] 0), #[]⟩
def o1284 : Obj := ⟨.none, none, (fD (inC 135 3) (S "goes_on") (S "Taking.goes_on") 0 [] .none .none .none .none none .none .none 0), #[]⟩
def o1285 : Obj := ⟨(.type "code"), none, (.fields #[(.str (S "goes_on") 2107), (.str (S "Taking.goes_on") 2108), (.str (S "/claim/cut.py") 2109), (.int 932 0), (.int 2 0), (.int 0 0), (.int 0 0), (.int 3 0), (.ref 1280), (.bool true), (.int 181 0), (.ref 1281), .none, (.ref 1282), (.ref 1283), (.ref 1284), (.int 2112 0), (.int 932 0), (.str (S "/claim/cut.py") 2113)]), #[]⟩
def o1286 : Obj := ⟨(.type "function"), none, (fD (inC 135 3) (S "goes_on") (S "Taking.goes_on") 3 [] .none .none .none (.str (S "bindertongue.scanning") 1861) none (.ref 1285) .none 0), #[]⟩
def o1287 : Obj := ⟨(.type "tuple"), none, (.seq #[] 0), #[]⟩
def o1288 : Obj := ⟨.none, none, (.fields #[]), #[]⟩
def o1289 : Obj := ⟨(.type "tuple"), none, (.seq #[(.str (S "self") 2118), (.str (S "word") 2119)] 0), #[]⟩
def o1290 : Obj := ⟨(.type "tuple"), none, (.seq #[] 0), #[]⟩
def o1291 : Obj := ⟨.none, none, (fD (inC 135 4) (S "take") (S "Taking.take") 0 [] .none .none .none .none none .none .none 0), #[]⟩
def o1292 : Obj := ⟨(.type "code"), none, (.fields #[(.str (S "take") 2115), (.str (S "Taking.take") 2116), (.str (S "/claim/cut.py") 2117), (.int 938 0), (.int 2 0), (.int 0 0), (.int 0 0), (.int 3 0), (.ref 1287), (.bool true), (.int 181 0), (.ref 1288), .none, (.ref 1289), (.ref 1290), (.ref 1291), (.int 2120 0), (.int 938 0), (.str (S "/claim/cut.py") 2121)]), #[]⟩
def o1293 : Obj := ⟨(.type "function"), none, (fD (inC 135 4) (S "take") (S "Taking.take") 3 [] .none .none .none (.str (S "bindertongue.scanning") 1861) none (.ref 1292) .none 0), #[]⟩
def o1294 : Obj := ⟨(.type "tuple"), none, (.seq #[] 0), #[]⟩
def o1295 : Obj := ⟨.none, none, (.fields #[]), #[]⟩
def o1296 : Obj := ⟨(.type "tuple"), none, (.seq #[(.str (S "self") 2126), (.str (S "words") 2127), (.str (S "found") 2128)] 0), #[]⟩
def o1297 : Obj := ⟨(.type "tuple"), none, (.seq #[] 0), #[]⟩
def o1298 : Obj := ⟨.none, none, (fD (inC 135 5) (S "take_of") (S "Taking.take_of") 0 [] .none .none .none .none none .none .none 0), #[]⟩
def o1299 : Obj := ⟨(.type "code"), none, (.fields #[(.str (S "take_of") 2123), (.str (S "Taking.take_of") 2124), (.str (S "/claim/cut.py") 2125), (.int 942 0), (.int 2 0), (.int 0 0), (.int 0 0), (.int 3 0), (.ref 1294), (.bool true), (.int 181 0), (.ref 1295), .none, (.ref 1296), (.ref 1297), (.ref 1298), (.int 2129 0), (.int 942 0), (.str (S "/claim/cut.py") 2130)]), #[]⟩
def o1300 : Obj := ⟨(.type "function"), none, (fD (inC 135 5) (S "take_of") (S "Taking.take_of") 3 [] .none .none .none (.str (S "bindertongue.scanning") 1861) none (.ref 1299) .none 0), #[]⟩
def o1301 : Obj := ⟨(.type "tuple"), none, (.seq #[] 0), #[]⟩
def o1302 : Obj := ⟨.none, none, (.fields #[]), #[]⟩
def o1303 : Obj := ⟨(.type "tuple"), none, (.seq #[(.str (S "self") 2135)] 0), #[]⟩
def o1304 : Obj := ⟨(.type "tuple"), none, (.seq #[] 0), #[]⟩
def o1305 : Obj := ⟨.none, none, (fD (inC 135 6) (S "take_end") (S "Taking.take_end") 0 [] .none .none .none .none none .none .none 0), #[]⟩
def o1306 : Obj := ⟨(.type "code"), none, (.fields #[(.str (S "take_end") 2132), (.str (S "Taking.take_end") 2133), (.str (S "/claim/cut.py") 2134), (.int 949 0), (.int 1 0), (.int 0 0), (.int 0 0), (.int 3 0), (.ref 1301), (.bool true), (.int 181 0), (.ref 1302), .none, (.ref 1303), (.ref 1304), (.ref 1305), (.int 2136 0), (.int 949 0), (.str (S "/claim/cut.py") 2137)]), #[]⟩
def o1307 : Obj := ⟨(.type "function"), none, (fD (inC 135 6) (S "take_end") (S "Taking.take_end") 3 [] .none .none .none (.str (S "bindertongue.scanning") 1861) none (.ref 1306) .none 0), #[]⟩
def o1308 : Obj := ⟨(.type "tuple"), none, (.seq #[] 0), #[]⟩
def o1309 : Obj := ⟨.none, none, (.fields #[]), #[]⟩
def o1310 : Obj := ⟨(.type "tuple"), none, (.seq #[(.str (S "self") 2142), (.str (S "found") 2143)] 0), #[]⟩
def o1311 : Obj := ⟨(.type "tuple"), none, (.seq #[] 0), #[]⟩
def o1312 : Obj := ⟨.none, none, (fD (inC 135 7) (S "look_at_name") (S "Taking.look_at_name") 0 [] .none .none .none .none none .none .none 0), #[]⟩
def o1313 : Obj := ⟨(.type "code"), none, (.fields #[(.str (S "look_at_name") 2139), (.str (S "Taking.look_at_name") 2140), (.str (S "/claim/cut.py") 2141), (.int 953 0), (.int 1 0), (.int 0 0), (.int 0 0), (.int 3 0), (.ref 1308), (.bool true), (.int 181 0), (.ref 1309), .none, (.ref 1310), (.ref 1311), (.ref 1312), (.int 2144 0), (.int 953 0), (.str (S "/claim/cut.py") 2145)]), #[]⟩
def o1314 : Obj := ⟨(.type "function"), none, (fD (inC 135 7) (S "look_at_name") (S "Taking.look_at_name") 3 [] .none .none .none (.str (S "bindertongue.scanning") 1861) none (.ref 1313) .none 0), #[]⟩
def o1315 : Obj := ⟨(.type "tuple"), none, (.seq #[] 0), #[]⟩
def o1316 : Obj := ⟨.none, none, (.fields #[]), #[]⟩
def o1317 : Obj := ⟨(.type "tuple"), none, (.seq #[(.str (S "self") 2150), (.str (S "is_right") 2151), (.str (S "found") 2152)] 0), #[]⟩
def o1318 : Obj := ⟨(.type "tuple"), none, (.seq #[] 0), #[]⟩
def o1319 : Obj := ⟨.none, none, (fD (inC 135 8) (S "take_name") (S "Taking.take_name") 0 [] .none .none .none .none none .none .none 0), #[]⟩
def o1320 : Obj := ⟨(.type "code"), none, (.fields #[(.str (S "take_name") 2147), (.str (S "Taking.take_name") 2148), (.str (S "/claim/cut.py") 2149), (.int 959 0), (.int 2 0), (.int 0 0), (.int 0 0), (.int 3 0), (.ref 1315), (.bool true), (.int 181 0), (.ref 1316), .none, (.ref 1317), (.ref 1318), (.ref 1319), (.int 2153 0), (.int 959 0), (.str (S "/claim/cut.py") 2154)]), #[]⟩
def o1321 : Obj := ⟨(.type "function"), none, (fD (inC 135 8) (S "take_name") (S "Taking.take_name") 3 [] .none .none .none (.str (S "bindertongue.scanning") 1861) none (.ref 1320) .none 0), #[]⟩
def o1322 : Obj := ⟨(.type "tuple"), none, (.seq #[] 0), #[]⟩
def o1323 : Obj := ⟨.none, none, (.fields #[]), #[]⟩
def o1324 : Obj := ⟨(.type "tuple"), none, (.seq #[(.str (S "self") 2159), (.str (S "found") 2160)] 0), #[]⟩
def o1325 : Obj := ⟨(.type "tuple"), none, (.seq #[] 0), #[]⟩
def o1326 : Obj := ⟨.none, none, (fD (inC 135 9) (S "take_any") (S "Taking.take_any") 0 [] .none .none .none .none none .none .none 0), #[]⟩
def o1327 : Obj := ⟨(.type "code"), none, (.fields #[(.str (S "take_any") 2156), (.str (S "Taking.take_any") 2157), (.str (S "/claim/cut.py") 2158), (.int 966 0), (.int 1 0), (.int 0 0), (.int 0 0), (.int 3 0), (.ref 1322), (.bool true), (.int 181 0), (.ref 1323), .none, (.ref 1324), (.ref 1325), (.ref 1326), (.int 2161 0), (.int 966 0), (.str (S "/claim/cut.py") 2162)]), #[]⟩
def o1328 : Obj := ⟨(.type "function"), none, (fD (inC 135 9) (S "take_any") (S "Taking.take_any") 3 [] .none .none .none (.str (S "bindertongue.scanning") 1861) none (.ref 1327) .none 0), #[]⟩
def o1329 : Obj := ⟨(.type "tuple"), none, (.seq #[] 0), #[]⟩
def o1330 : Obj := ⟨.none, none, (.fields #[]), #[]⟩
def o1331 : Obj := ⟨(.type "tuple"), none, (.seq #[(.str (S "self") 2167)] 0), #[]⟩
def o1332 : Obj := ⟨(.type "tuple"), none, (.seq #[(.str (S "self") 2168)] 0), #[]⟩
def o1333 : Obj := ⟨.none, none, (fD (inC 135 10) (S "take_new") (S "Taking.take_new") 0 [] .none .none .none .none none .none .none 0), #[]⟩
def o1334 : Obj := ⟨(.type "code"), none, (.fields #[(.str (S "take_new") 2164), (.str (S "Taking.take_new") 2165), (.str (S "/claim/cut.py") 2166), (.int 971 0), (.int 1 0), (.int 0 0), (.int 0 0), (.int 3 0), (.ref 1329), (.bool true), (.int 181 0), (.ref 1330), .none, (.ref 1331), (.ref 1332), (.ref 1333), (.int 2169 0), (.int 971 0), (.str (S "/claim/cut.py") 2170)]), #[]⟩
def o1335 : Obj := ⟨(.type "function"), none, (fD (inC 135 10) (S "take_new") (S "Taking.take_new") 3 [] .none .none .none (.str (S "bindertongue.scanning") 1861) none (.ref 1334) .none 0), #[]⟩
def o1336 : Obj := ⟨(.type "tuple"), none, (.seq #[] 0), #[]⟩
def o1337 : Obj := ⟨.none, none, (.fields #[]), #[]⟩
def o1338 : Obj := ⟨(.type "tuple"), none, (.seq #[(.str (S "self") 2175)] 0), #[]⟩
def o1339 : Obj := ⟨(.type "tuple"), none, (.seq #[(.str (S "self") 2176)] 0), #[]⟩
def o1340 : Obj := ⟨.none, none, (fD (inC 135 11) (S "take_kind") (S "Taking.take_kind") 0 [] .none .none .none .none none .none .none 0), #[]⟩
def o1341 : Obj := ⟨(.type "code"), none, (.fields #[(.str (S "take_kind") 2172), (.str (S "Taking.take_kind") 2173), (.str (S "/claim/cut.py") 2174), (.int 974 0), (.int 1 0), (.int 0 0), (.int 0 0), (.int 3 0), (.ref 1336), (.bool true), (.int 181 0), (.ref 1337), .none, (.ref 1338), (.ref 1339), (.ref 1340), (.int 2177 0), (.int 974 0), (.str (S "/claim/cut.py") 2178)]), #[]⟩
def o1342 : Obj := ⟨(.type "function"), none, (fD (inC 135 11) (S "take_kind") (S "Taking.take_kind") 3 [] .none .none .none (.str (S "bindertongue.scanning") 1861) none (.ref 1341) .none 0), #[]⟩
def o1343 : Obj := ⟨(.type "tuple"), none, (.seq #[] 0), #[]⟩
def o1344 : Obj := ⟨.none, none, (.fields #[]), #[]⟩
def o1345 : Obj := ⟨(.type "tuple"), none, (.seq #[(.str (S "self") 2183), (.str (S "kinds") 2184), (.str (S "kind") 2185), (.str (S "found") 2186)] 0), #[]⟩
def o1346 : Obj := ⟨(.type "tuple"), none, (.seq #[] 0), #[]⟩
def o1347 : Obj := ⟨.none, none, (fD (inC 135 12) (S "take_of_kind") (S "Taking.take_of_kind") 0 [] .none .none .none .none none .none .none 0), #[]⟩
def o1348 : Obj := ⟨(.type "code"), none, (.fields #[(.str (S "take_of_kind") 2180), (.str (S "Taking.take_of_kind") 2181), (.str (S "/claim/cut.py") 2182), (.int 977 0), (.int 3 0), (.int 0 0), (.int 0 0), (.int 3 0), (.ref 1343), (.bool true), (.int 181 0), (.ref 1344), .none, (.ref 1345), (.ref 1346), (.ref 1347), (.int 2187 0), (.int 977 0), (.str (S "/claim/cut.py") 2188)]), #[]⟩
def o1349 : Obj := ⟨(.type "function"), none, (fD (inC 135 12) (S "take_of_kind") (S "Taking.take_of_kind") 3 [] .none .none .none (.str (S "bindertongue.scanning") 1861) none (.ref 1348) .none 0), #[]⟩
def o1350 : Obj := ⟨(.type "tuple"), none, (.seq #[(.str (S "around") 2190), (.str (S "at") 2191), (.str (S "known") 2192), (.str (S "sight") 2193), (.str (S "size") 2194), (.str (S "words") 2195)] 0), #[]⟩
def o1351 (p : Params) : Obj := ⟨(.type "dict"), none, (.dict #[en p (S "__module__") 2078 (.str (S "bindertongue.scanning") 1861), en p (S "__firstlineno__") 2082 (.int 916 2081), en p (S "__init__") 2091 (.ref 1265), en p (S "word") 2098 (.ref 1272), en p (S "fail") 2106 (.ref 1279), en p (S "goes_on") 2114 (.ref 1286), en p (S "take") 2122 (.ref 1293), en p (S "take_of") 2131 (.ref 1300), en p (S "take_end") 2138 (.ref 1307), en p (S "look_at_name") 2146 (.ref 1314), en p (S "take_name") 2155 (.ref 1321), en p (S "take_any") 2163 (.ref 1328), en p (S "take_new") 2171 (.ref 1335), en p (S "take_kind") 2179 (.ref 1342), en p (S "take_of_kind") 2189 (.ref 1349), en p (S "__static_attributes__") 2196 (.ref 1350), en p (S "__dict__") 2198 (.ref 1353), en p (S "__weakref__") 2200 (.ref 1354), en p (S "__doc__") 2201 .none] 4), #[]⟩
def o1352 : Obj := ⟨(.type "type"), none, (.cls ⟨(S "Taking"), [(.type "object")], [(.ref 1352), (.type "object")], 1351, (S "Taking"), true, [], [(.ref 1570)], false, none, false⟩), #[none, none, (some (.str (S "Taking") 2071)), (some (.str (S "Taking") 2079)), (some (.builtin "object.__new__")), (some (.bool true))]⟩
def o1353 : Obj := ⟨(.type "getset_descriptor"), none, (.fields #[(.str (S "__dict__") 2197), (.ref 1352), (.builtin "function.__dict__"), (.builtin "function.__dict__#set")]), #[]⟩
def o1354 : Obj := ⟨(.type "getset_descriptor"), none, (.fields #[(.str (S "__weakref__") 2199), (.ref 1352), (.builtin "ExceptionGroup.__weakref__"), .none]), #[]⟩
def o1355 : Obj := ⟨(.type "super"), none, (.fields #[(.ref 1352), (.ref 1352), (.ref 1352)]), #[]⟩
def o1356 : Obj := ⟨(.type "builtin_function_or_method"), none, (.fields #[(.builtin "object.__init_subclass__"), (.ref 1352)]), #[]⟩
def o1357 : Obj := ⟨(.type "tuple"), none, (.seq #[(.str (S "kind") 1872), (.str (S "make") 2208), (.str (S "given") 2210), (.str (S "judge") 2212), (.str (S "turner") 2214), (.str (S "case") 2216), (.str (S "else") 2218), (.str (S "ask") 2220)] 0), #[]⟩
def o1358 : Obj := ⟨(.type "tuple"), none, (.seq #[(.str (S "yes") 2223), (.str (S "no") 2225)] 0), #[]⟩
def o1359 : Obj := ⟨(.type "tuple"), none, (.seq #[] 0), #[]⟩
def o1360 : Obj := ⟨.none, none, (.fields #[]), #[]⟩
def o1361 : Obj := ⟨.none, none, (fD (top 148) (S "firsts") (S "firsts") 0 [] .none .none .none .none none .none .none 0), #[]⟩
def o1362 : Obj := ⟨(.type "code"), none, (.fields #[(.str (S "firsts") 2227), (.str (S "firsts") 2228), (.str (S "/claim/cut.py") 2229), (.int 997 0), (.int 1 0), (.int 0 0), (.int 0 0), (.int 3 0), (.ref 1359), (.bool true), (.int 181 0), (.ref 1360), .none, .none, .none, (.ref 1361), (.int 2230 0), (.int 997 0), (.str (S "/claim/cut.py") 2231)]), #[]⟩
def o1363 : Obj := ⟨(.type "function"), none, (fD (top 148) (S "firsts") (S "firsts") 3 [] .none .none .none (.str (S "bindertongue.parsing") 2204) none (.ref 1362) .none 0), #[]⟩
def o1364 : Obj := ⟨(.type "tuple"), none, (.seq #[(.ref 1352)] 0), #[]⟩
def o1365 : Obj := ⟨(.type "builtin_function_or_method"), none, (.fields #[(.builtin "type.__prepare__"), (.type "type")]), #[]⟩
def o1366 (p : Params) : Obj := ⟨(.type "dict"), none, (.dict #[en p (S "__module__") 2240 (.str (S "bindertongue.parsing") 2204), en p (S "__qualname__") 2242 (.str (S "Reading") 2241), en p (S "__firstlineno__") 2244 (.int 999 2243), en p (S "take_place") 2252 (.ref 1377), en p (S "take_make") 2262 (.ref 1384), en p (S "take_given") 2270 (.ref 1391), en p (S "take_judge") 2281 (.ref 1398), en p (S "take_turner") 2290 (.ref 1405), en p (S "take_fresh") 2298 (.ref 1412), en p (S "take_in_pattern") 2308 (.ref 1419), en p (S "take_part_in_pattern") 2317 (.ref 1426), en p (S "take_case") 2323 (.ref 1431), en p (S "take_truth") 2330 (.ref 1438), en p (S "take_body") 2341 (.ref 1445), en p (S "take_body_end") 2348 (.ref 1452), en p (S "take_seen") 2356 (.ref 1459), en p (S "take_part") 2364 (.ref 1466), en p (S "take_test") 2376 (.ref 1473), en p (S "take_handed") 2383 (.ref 1480), en p (S "take_tree") 2395 (.ref 1487), en p (S "take_head") 2401 (.ref 1492), en p (S "put_part") 2410 (.ref 1499), en p (S "take_names") 2420 (.ref 1506), en p (S "take_named") 2430 (.ref 1513), en p (S "take_bound") 2439 (.ref 1520), en p (S "take_asked") 2447 (.ref 1527), en p (S "take_turned") 2455 (.ref 1534), en p (S "take_like") 2461 (.ref 1539), en p (S "take_keeps") 2471 (.ref 1546), en p (S "take_ask") 2483 (.ref 1553), en p (S "take_behind") 2491 (.ref 1560), en p (S "take_row") 2499 (.ref 1567), en p (S "__static_attributes__") 2501 (.ref 1568)] 33), #[]⟩
def o1367 : Obj := ⟨(.type "tuple"), none, (.seq #[] 0), #[]⟩
def o1368 : Obj := ⟨.none, none, (.fields #[(.int 1001 0), (.int 4 0), (.ref 1376), (.int 1010 0), (.int 4 0), (.ref 1383), (.int 1019 0), (.int 4 0), (.ref 1390), (.int 1022 0), (.int 4 0), (.ref 1397), (.int 1030 0), (.int 4 0), (.ref 1404), (.int 1037 0), (.int 4 0), (.ref 1411), (.int 1040 0), (.int 4 0), (.ref 1418), (.int 1053 0), (.int 4 0), (.ref 1425), (.int 1058 0), (.int 4 0), (.ref 1430), (.int 1066 0), (.int 4 0), (.ref 1437), (.int 1069 0), (.int 4 0), (.ref 1444), (.int 1084 0), (.int 4 0), (.ref 1451), (.int 1089 0), (.int 4 0), (.ref 1458), (.int 1092 0), (.int 4 0), (.ref 1465), (.int 1095 0), (.int 4 0), (.ref 1472), (.int 1106 0), (.int 4 0), (.ref 1479), (.int 1109 0), (.int 4 0), (.ref 1486), (.int 1123 0), (.int 4 0), (.ref 1491), (.int 1134 0), (.int 4 0), (.ref 1498), (.int 1140 0), (.int 4 0), (.ref 1505), (.int 1152 0), (.int 4 0), (.ref 1512), (.int 1156 0), (.int 4 0), (.ref 1519), (.int 1160 0), (.int 4 0), (.ref 1526), (.int 1163 0), (.int 4 0), (.ref 1533), (.int 1166 0), (.int 4 0), (.ref 1538), (.int 1170 0), (.int 4 0), (.ref 1545), (.int 1176 0), (.int 4 0), (.ref 1552), (.int 1192 0), (.int 4 0), (.ref 1559), (.int 1207 0), (.int 4 0), (.ref 1566)]), #[]⟩
def o1369 : Obj := ⟨(.type "code"), none, (.fields #[(.str (S "Reading") 2235), (.str (S "Reading") 2236), (.str (S "/claim/cut.py") 2237), (.int 999 0), (.int 0 0), (.int 0 0), (.int 0 0), (.int 0 0), (.ref 1367), (.bool false), (.int 181 0), (.ref 1368), .none, .none, .none, .none, (.int 2238 0), (.int 999 0), (.str (S "/claim/cut.py") 2239)]), #[]⟩
def o1370 : Obj := ⟨(.type "frame"), none, .plain, #[(some (.ref 1369)), (some (.ref 3)), (some (.ref 1366)), none, (some (.str (S "bindertongue.parsing") 2204)), none, (some (.ref 0))]⟩
def o1371 : Obj := ⟨(.type "tuple"), none, (.seq #[] 0), #[]⟩
def o1372 : Obj := ⟨.none, none, (.fields #[]), #[]⟩
def o1373 : Obj := ⟨(.type "tuple"), none, (.seq #[(.str (S "self") 2248), (.str (S "kind") 2249)] 0), #[]⟩
def o1374 : Obj := ⟨(.type "tuple"), none, (.seq #[] 0), #[]⟩
def o1375 : Obj := ⟨.none, none, (fD (inC 149 0) (S "take_place") (S "Reading.take_place") 0 [] .none .none .none .none none .none .none 0), #[]⟩
def o1376 : Obj := ⟨(.type "code"), none, (.fields #[(.str (S "take_place") 2245), (.str (S "Reading.take_place") 2246), (.str (S "/claim/cut.py") 2247), (.int 1001 0), (.int 1 0), (.int 0 0), (.int 0 0), (.int 3 0), (.ref 1371), (.bool true), (.int 181 0), (.ref 1372), .none, (.ref 1373), (.ref 1374), (.ref 1375), (.int 2250 0), (.int 1001 0), (.str (S "/claim/cut.py") 2251)]), #[]⟩
def o1377 : Obj := ⟨(.type "function"), none, (fD (inC 149 0) (S "take_place") (S "Reading.take_place") 3 [] .none .none .none (.str (S "bindertongue.parsing") 2204) none (.ref 1376) .none 0), #[]⟩
def o1378 : Obj := ⟨(.type "tuple"), none, (.seq #[] 0), #[]⟩
def o1379 : Obj := ⟨.none, none, (.fields #[]), #[]⟩
def o1380 : Obj := ⟨(.type "tuple"), none, (.seq #[(.str (S "self") 2256), (.str (S "name") 2257), (.str (S "kind") 2258), (.str (S "places") 2259)] 0), #[]⟩
def o1381 : Obj := ⟨(.type "tuple"), none, (.seq #[] 0), #[]⟩
def o1382 : Obj := ⟨.none, none, (fD (inC 149 1) (S "take_make") (S "Reading.take_make") 0 [] .none .none .none .none none .none .none 0), #[]⟩
def o1383 : Obj := ⟨(.type "code"), none, (.fields #[(.str (S "take_make") 2253), (.str (S "Reading.take_make") 2254), (.str (S "/claim/cut.py") 2255), (.int 1010 0), (.int 1 0), (.int 0 0), (.int 0 0), (.int 3 0), (.ref 1378), (.bool true), (.int 181 0), (.ref 1379), .none, (.ref 1380), (.ref 1381), (.ref 1382), (.int 2260 0), (.int 1010 0), (.str (S "/claim/cut.py") 2261)]), #[]⟩
def o1384 : Obj := ⟨(.type "function"), none, (fD (inC 149 1) (S "take_make") (S "Reading.take_make") 3 [] .none .none .none (.str (S "bindertongue.parsing") 2204) none (.ref 1383) .none 0), #[]⟩
def o1385 : Obj := ⟨(.type "tuple"), none, (.seq #[] 0), #[]⟩
def o1386 : Obj := ⟨.none, none, (.fields #[]), #[]⟩
def o1387 : Obj := ⟨(.type "tuple"), none, (.seq #[(.str (S "self") 2266)] 0), #[]⟩
def o1388 : Obj := ⟨(.type "tuple"), none, (.seq #[(.str (S "self") 2267)] 0), #[]⟩
def o1389 : Obj := ⟨.none, none, (fD (inC 149 2) (S "take_given") (S "Reading.take_given") 0 [] .none .none .none .none none .none .none 0), #[]⟩
def o1390 : Obj := ⟨(.type "code"), none, (.fields #[(.str (S "take_given") 2263), (.str (S "Reading.take_given") 2264), (.str (S "/claim/cut.py") 2265), (.int 1019 0), (.int 1 0), (.int 0 0), (.int 0 0), (.int 3 0), (.ref 1385), (.bool true), (.int 181 0), (.ref 1386), .none, (.ref 1387), (.ref 1388), (.ref 1389), (.int 2268 0), (.int 1019 0), (.str (S "/claim/cut.py") 2269)]), #[]⟩
def o1391 : Obj := ⟨(.type "function"), none, (fD (inC 149 2) (S "take_given") (S "Reading.take_given") 3 [] .none .none .none (.str (S "bindertongue.parsing") 2204) none (.ref 1390) .none 0), #[]⟩
def o1392 : Obj := ⟨(.type "tuple"), none, (.seq #[] 0), #[]⟩
def o1393 : Obj := ⟨.none, none, (.fields #[]), #[]⟩
def o1394 : Obj := ⟨(.type "tuple"), none, (.seq #[(.str (S "self") 2274), (.str (S "name") 2275), (.str (S "handed") 2276), (.str (S "kind") 2277)] 0), #[]⟩
def o1395 : Obj := ⟨(.type "tuple"), none, (.seq #[(.str (S "self") 2278)] 0), #[]⟩
def o1396 : Obj := ⟨.none, none, (fD (inC 149 3) (S "take_judge") (S "Reading.take_judge") 0 [] .none .none .none .none none .none .none 0), #[]⟩
def o1397 : Obj := ⟨(.type "code"), none, (.fields #[(.str (S "take_judge") 2271), (.str (S "Reading.take_judge") 2272), (.str (S "/claim/cut.py") 2273), (.int 1022 0), (.int 1 0), (.int 0 0), (.int 0 0), (.int 3 0), (.ref 1392), (.bool true), (.int 181 0), (.ref 1393), .none, (.ref 1394), (.ref 1395), (.ref 1396), (.int 2279 0), (.int 1022 0), (.str (S "/claim/cut.py") 2280)]), #[]⟩
def o1398 : Obj := ⟨(.type "function"), none, (fD (inC 149 3) (S "take_judge") (S "Reading.take_judge") 3 [] .none .none .none (.str (S "bindertongue.parsing") 2204) none (.ref 1397) .none 0), #[]⟩
def o1399 : Obj := ⟨(.type "tuple"), none, (.seq #[] 0), #[]⟩
def o1400 : Obj := ⟨.none, none, (.fields #[]), #[]⟩
def o1401 : Obj := ⟨(.type "tuple"), none, (.seq #[(.str (S "self") 2285), (.str (S "name") 2286), (.str (S "kind") 2287)] 0), #[]⟩
def o1402 : Obj := ⟨(.type "tuple"), none, (.seq #[] 0), #[]⟩
def o1403 : Obj := ⟨.none, none, (fD (inC 149 4) (S "take_turner") (S "Reading.take_turner") 0 [] .none .none .none .none none .none .none 0), #[]⟩
def o1404 : Obj := ⟨(.type "code"), none, (.fields #[(.str (S "take_turner") 2282), (.str (S "Reading.take_turner") 2283), (.str (S "/claim/cut.py") 2284), (.int 1030 0), (.int 1 0), (.int 0 0), (.int 0 0), (.int 3 0), (.ref 1399), (.bool true), (.int 181 0), (.ref 1400), .none, (.ref 1401), (.ref 1402), (.ref 1403), (.int 2288 0), (.int 1030 0), (.str (S "/claim/cut.py") 2289)]), #[]⟩
def o1405 : Obj := ⟨(.type "function"), none, (fD (inC 149 4) (S "take_turner") (S "Reading.take_turner") 3 [] .none .none .none (.str (S "bindertongue.parsing") 2204) none (.ref 1404) .none 0), #[]⟩
def o1406 : Obj := ⟨(.type "tuple"), none, (.seq #[] 0), #[]⟩
def o1407 : Obj := ⟨.none, none, (.fields #[]), #[]⟩
def o1408 : Obj := ⟨(.type "tuple"), none, (.seq #[(.str (S "self") 2294)] 0), #[]⟩
def o1409 : Obj := ⟨(.type "tuple"), none, (.seq #[(.str (S "self") 2295)] 0), #[]⟩
def o1410 : Obj := ⟨.none, none, (fD (inC 149 5) (S "take_fresh") (S "Reading.take_fresh") 0 [] .none .none .none .none none .none .none 0), #[]⟩
def o1411 : Obj := ⟨(.type "code"), none, (.fields #[(.str (S "take_fresh") 2291), (.str (S "Reading.take_fresh") 2292), (.str (S "/claim/cut.py") 2293), (.int 1037 0), (.int 1 0), (.int 0 0), (.int 0 0), (.int 3 0), (.ref 1406), (.bool true), (.int 181 0), (.ref 1407), .none, (.ref 1408), (.ref 1409), (.ref 1410), (.int 2296 0), (.int 1037 0), (.str (S "/claim/cut.py") 2297)]), #[]⟩
def o1412 : Obj := ⟨(.type "function"), none, (fD (inC 149 5) (S "take_fresh") (S "Reading.take_fresh") 3 [] .none .none .none (.str (S "bindertongue.parsing") 2204) none (.ref 1411) .none 0), #[]⟩
def o1413 : Obj := ⟨(.type "tuple"), none, (.seq #[] 0), #[]⟩
def o1414 : Obj := ⟨.none, none, (.fields #[]), #[]⟩
def o1415 : Obj := ⟨(.type "tuple"), none, (.seq #[(.str (S "self") 2302), (.str (S "place") 2303), (.str (S "name") 2304), (.str (S "opened") 2305)] 0), #[]⟩
def o1416 : Obj := ⟨(.type "tuple"), none, (.seq #[] 0), #[]⟩
def o1417 : Obj := ⟨.none, none, (fD (inC 149 6) (S "take_in_pattern") (S "Reading.take_in_pattern") 0 [] .none .none .none .none none .none .none 0), #[]⟩
def o1418 : Obj := ⟨(.type "code"), none, (.fields #[(.str (S "take_in_pattern") 2299), (.str (S "Reading.take_in_pattern") 2300), (.str (S "/claim/cut.py") 2301), (.int 1040 0), (.int 2 0), (.int 0 0), (.int 0 0), (.int 3 0), (.ref 1413), (.bool true), (.int 181 0), (.ref 1414), .none, (.ref 1415), (.ref 1416), (.ref 1417), (.int 2306 0), (.int 1040 0), (.str (S "/claim/cut.py") 2307)]), #[]⟩
def o1419 : Obj := ⟨(.type "function"), none, (fD (inC 149 6) (S "take_in_pattern") (S "Reading.take_in_pattern") 3 [] .none .none .none (.str (S "bindertongue.parsing") 2204) none (.ref 1418) .none 0), #[]⟩
def o1420 : Obj := ⟨(.type "tuple"), none, (.seq #[] 0), #[]⟩
def o1421 : Obj := ⟨.none, none, (.fields #[]), #[]⟩
def o1422 : Obj := ⟨(.type "tuple"), none, (.seq #[(.str (S "self") 2312), (.str (S "kind") 2313), (.str (S "name") 2314)] 0), #[]⟩
def o1423 : Obj := ⟨(.type "tuple"), none, (.seq #[] 0), #[]⟩
def o1424 : Obj := ⟨.none, none, (fD (inC 149 7) (S "take_part_in_pattern") (S "Reading.take_part_in_pattern") 0 [] .none .none .none .none none .none .none 0), #[]⟩
def o1425 : Obj := ⟨(.type "code"), none, (.fields #[(.str (S "take_part_in_pattern") 2309), (.str (S "Reading.take_part_in_pattern") 2310), (.str (S "/claim/cut.py") 2311), (.int 1053 0), (.int 2 0), (.int 0 0), (.int 0 0), (.int 3 0), (.ref 1420), (.bool true), (.int 181 0), (.ref 1421), .none, (.ref 1422), (.ref 1423), (.ref 1424), (.int 2315 0), (.int 1053 0), (.str (S "/claim/cut.py") 2316)]), #[]⟩
def o1426 : Obj := ⟨(.type "function"), none, (fD (inC 149 7) (S "take_part_in_pattern") (S "Reading.take_part_in_pattern") 3 [] .none .none .none (.str (S "bindertongue.parsing") 2204) none (.ref 1425) .none 0), #[]⟩
def o1427 : Obj := ⟨(.type "tuple"), none, (.seq #[] 0), #[]⟩
def o1428 : Obj := ⟨.none, none, (.fields #[]), #[]⟩
def o1429 : Obj := ⟨.none, none, (fD (inC 149 8) (S "take_case") (S "Reading.take_case") 0 [] .none .none .none .none none .none .none 0), #[]⟩
def o1430 : Obj := ⟨(.type "code"), none, (.fields #[(.str (S "take_case") 2318), (.str (S "Reading.take_case") 2319), (.str (S "/claim/cut.py") 2320), (.int 1058 0), (.int 1 0), (.int 0 0), (.int 0 0), (.int 3 0), (.ref 1427), (.bool true), (.int 181 0), (.ref 1428), .none, .none, .none, (.ref 1429), (.int 2321 0), (.int 1058 0), (.str (S "/claim/cut.py") 2322)]), #[]⟩
def o1431 : Obj := ⟨(.type "function"), none, (fD (inC 149 8) (S "take_case") (S "Reading.take_case") 3 [] .none .none .none (.str (S "bindertongue.parsing") 2204) none (.ref 1430) .none 0), #[]⟩
def o1432 : Obj := ⟨(.type "tuple"), none, (.seq #[] 0), #[]⟩
def o1433 : Obj := ⟨.none, none, (.fields #[]), #[]⟩
def o1434 : Obj := ⟨(.type "tuple"), none, (.seq #[(.str (S "self") 2327)] 0), #[]⟩
def o1435 : Obj := ⟨(.type "tuple"), none, (.seq #[] 0), #[]⟩
def o1436 : Obj := ⟨.none, none, (fD (inC 149 9) (S "take_truth") (S "Reading.take_truth") 0 [] .none .none .none .none none .none .none 0), #[]⟩
def o1437 : Obj := ⟨(.type "code"), none, (.fields #[(.str (S "take_truth") 2324), (.str (S "Reading.take_truth") 2325), (.str (S "/claim/cut.py") 2326), (.int 1066 0), (.int 1 0), (.int 0 0), (.int 0 0), (.int 3 0), (.ref 1432), (.bool true), (.int 181 0), (.ref 1433), .none, (.ref 1434), (.ref 1435), (.ref 1436), (.int 2328 0), (.int 1066 0), (.str (S "/claim/cut.py") 2329)]), #[]⟩
def o1438 : Obj := ⟨(.type "function"), none, (fD (inC 149 9) (S "take_truth") (S "Reading.take_truth") 3 [] .none .none .none (.str (S "bindertongue.parsing") 2204) none (.ref 1437) .none 0), #[]⟩
def o1439 : Obj := ⟨(.type "tuple"), none, (.seq #[] 0), #[]⟩
def o1440 : Obj := ⟨.none, none, (.fields #[]), #[]⟩
def o1441 : Obj := ⟨(.type "tuple"), none, (.seq #[(.str (S "self") 2334), (.str (S "waiting") 2335), (.str (S "found") 2336), (.str (S "test") 2337), (.str (S "one") 2338)] 0), #[]⟩
def o1442 : Obj := ⟨(.type "tuple"), none, (.seq #[] 0), #[]⟩
def o1443 : Obj := ⟨.none, none, (fD (inC 149 10) (S "take_body") (S "Reading.take_body") 0 [] .none .none .none .none none .none .none 0), #[]⟩
def o1444 : Obj := ⟨(.type "code"), none, (.fields #[(.str (S "take_body") 2331), (.str (S "Reading.take_body") 2332), (.str (S "/claim/cut.py") 2333), (.int 1069 0), (.int 1 0), (.int 0 0), (.int 0 0), (.int 3 0), (.ref 1439), (.bool true), (.int 181 0), (.ref 1440), .none, (.ref 1441), (.ref 1442), (.ref 1443), (.int 2339 0), (.int 1069 0), (.str (S "/claim/cut.py") 2340)]), #[]⟩
def o1445 : Obj := ⟨(.type "function"), none, (fD (inC 149 10) (S "take_body") (S "Reading.take_body") 3 [] .none .none .none (.str (S "bindertongue.parsing") 2204) none (.ref 1444) .none 0), #[]⟩
def o1446 : Obj := ⟨(.type "tuple"), none, (.seq #[] 0), #[]⟩
def o1447 : Obj := ⟨.none, none, (.fields #[]), #[]⟩
def o1448 : Obj := ⟨(.type "tuple"), none, (.seq #[(.str (S "self") 2345)] 0), #[]⟩
def o1449 : Obj := ⟨(.type "tuple"), none, (.seq #[] 0), #[]⟩
def o1450 : Obj := ⟨.none, none, (fD (inC 149 11) (S "take_body_end") (S "Reading.take_body_end") 0 [] .none .none .none .none none .none .none 0), #[]⟩
def o1451 : Obj := ⟨(.type "code"), none, (.fields #[(.str (S "take_body_end") 2342), (.str (S "Reading.take_body_end") 2343), (.str (S "/claim/cut.py") 2344), (.int 1084 0), (.int 1 0), (.int 0 0), (.int 0 0), (.int 3 0), (.ref 1446), (.bool true), (.int 181 0), (.ref 1447), .none, (.ref 1448), (.ref 1449), (.ref 1450), (.int 2346 0), (.int 1084 0), (.str (S "/claim/cut.py") 2347)]), #[]⟩
def o1452 : Obj := ⟨(.type "function"), none, (fD (inC 149 11) (S "take_body_end") (S "Reading.take_body_end") 3 [] .none .none .none (.str (S "bindertongue.parsing") 2204) none (.ref 1451) .none 0), #[]⟩
def o1453 : Obj := ⟨(.type "tuple"), none, (.seq #[] 0), #[]⟩
def o1454 : Obj := ⟨.none, none, (.fields #[]), #[]⟩
def o1455 : Obj := ⟨(.type "tuple"), none, (.seq #[(.str (S "self") 2352)] 0), #[]⟩
def o1456 : Obj := ⟨(.type "tuple"), none, (.seq #[(.str (S "self") 2353)] 0), #[]⟩
def o1457 : Obj := ⟨.none, none, (fD (inC 149 12) (S "take_seen") (S "Reading.take_seen") 0 [] .none .none .none .none none .none .none 0), #[]⟩
def o1458 : Obj := ⟨(.type "code"), none, (.fields #[(.str (S "take_seen") 2349), (.str (S "Reading.take_seen") 2350), (.str (S "/claim/cut.py") 2351), (.int 1089 0), (.int 1 0), (.int 0 0), (.int 0 0), (.int 3 0), (.ref 1453), (.bool true), (.int 181 0), (.ref 1454), .none, (.ref 1455), (.ref 1456), (.ref 1457), (.int 2354 0), (.int 1089 0), (.str (S "/claim/cut.py") 2355)]), #[]⟩
def o1459 : Obj := ⟨(.type "function"), none, (fD (inC 149 12) (S "take_seen") (S "Reading.take_seen") 3 [] .none .none .none (.str (S "bindertongue.parsing") 2204) none (.ref 1458) .none 0), #[]⟩
def o1460 : Obj := ⟨(.type "tuple"), none, (.seq #[] 0), #[]⟩
def o1461 : Obj := ⟨.none, none, (.fields #[]), #[]⟩
def o1462 : Obj := ⟨(.type "tuple"), none, (.seq #[(.str (S "self") 2360), (.str (S "kind") 2361)] 0), #[]⟩
def o1463 : Obj := ⟨(.type "tuple"), none, (.seq #[] 0), #[]⟩
def o1464 : Obj := ⟨.none, none, (fD (inC 149 13) (S "take_part") (S "Reading.take_part") 0 [] .none .none .none .none none .none .none 0), #[]⟩
def o1465 : Obj := ⟨(.type "code"), none, (.fields #[(.str (S "take_part") 2357), (.str (S "Reading.take_part") 2358), (.str (S "/claim/cut.py") 2359), (.int 1092 0), (.int 2 0), (.int 0 0), (.int 0 0), (.int 3 0), (.ref 1460), (.bool true), (.int 181 0), (.ref 1461), .none, (.ref 1462), (.ref 1463), (.ref 1464), (.int 2362 0), (.int 1092 0), (.str (S "/claim/cut.py") 2363)]), #[]⟩
def o1466 : Obj := ⟨(.type "function"), none, (fD (inC 149 13) (S "take_part") (S "Reading.take_part") 3 [] .none .none .none (.str (S "bindertongue.parsing") 2204) none (.ref 1465) .none 0), #[]⟩
def o1467 : Obj := ⟨(.type "tuple"), none, (.seq #[] 0), #[]⟩
def o1468 : Obj := ⟨.none, none, (.fields #[]), #[]⟩
def o1469 : Obj := ⟨(.type "tuple"), none, (.seq #[(.str (S "self") 2368), (.str (S "one") 2369), (.str (S "judge") 2370), (.str (S "kind") 2371), (.str (S "handed") 2372), (.str (S "part") 2373)] 0), #[]⟩
def o1470 : Obj := ⟨(.type "tuple"), none, (.seq #[] 0), #[]⟩
def o1471 : Obj := ⟨.none, none, (fD (inC 149 14) (S "take_test") (S "Reading.take_test") 0 [] .none .none .none .none none .none .none 0), #[]⟩
def o1472 : Obj := ⟨(.type "code"), none, (.fields #[(.str (S "take_test") 2365), (.str (S "Reading.take_test") 2366), (.str (S "/claim/cut.py") 2367), (.int 1095 0), (.int 1 0), (.int 0 0), (.int 0 0), (.int 3 0), (.ref 1467), (.bool true), (.int 181 0), (.ref 1468), .none, (.ref 1469), (.ref 1470), (.ref 1471), (.int 2374 0), (.int 1095 0), (.str (S "/claim/cut.py") 2375)]), #[]⟩
def o1473 : Obj := ⟨(.type "function"), none, (fD (inC 149 14) (S "take_test") (S "Reading.take_test") 3 [] .none .none .none (.str (S "bindertongue.parsing") 2204) none (.ref 1472) .none 0), #[]⟩
def o1474 : Obj := ⟨(.type "tuple"), none, (.seq #[] 0), #[]⟩
def o1475 : Obj := ⟨.none, none, (.fields #[]), #[]⟩
def o1476 : Obj := ⟨(.type "tuple"), none, (.seq #[(.str (S "self") 2380)] 0), #[]⟩
def o1477 : Obj := ⟨(.type "tuple"), none, (.seq #[] 0), #[]⟩
def o1478 : Obj := ⟨.none, none, (fD (inC 149 15) (S "take_handed") (S "Reading.take_handed") 0 [] .none .none .none .none none .none .none 0), #[]⟩
def o1479 : Obj := ⟨(.type "code"), none, (.fields #[(.str (S "take_handed") 2377), (.str (S "Reading.take_handed") 2378), (.str (S "/claim/cut.py") 2379), (.int 1106 0), (.int 1 0), (.int 0 0), (.int 0 0), (.int 3 0), (.ref 1474), (.bool true), (.int 181 0), (.ref 1475), .none, (.ref 1476), (.ref 1477), (.ref 1478), (.int 2381 0), (.int 1106 0), (.str (S "/claim/cut.py") 2382)]), #[]⟩
def o1480 : Obj := ⟨(.type "function"), none, (fD (inC 149 15) (S "take_handed") (S "Reading.take_handed") 3 [] .none .none .none (.str (S "bindertongue.parsing") 2204) none (.ref 1479) .none 0), #[]⟩
def o1481 : Obj := ⟨(.type "tuple"), none, (.seq #[] 0), #[]⟩
def o1482 : Obj := ⟨.none, none, (.fields #[]), #[]⟩
def o1483 : Obj := ⟨(.type "tuple"), none, (.seq #[(.str (S "self") 2387), (.str (S "kind") 2388), (.str (S "is_tree") 2389), (.str (S "frames") 2390), (.str (S "due") 2391), (.str (S "found") 2392)] 0), #[]⟩
def o1484 : Obj := ⟨(.type "tuple"), none, (.seq #[] 0), #[]⟩
def o1485 : Obj := ⟨.none, none, (fD (inC 149 16) (S "take_tree") (S "Reading.take_tree") 0 [] .none .none .none .none none .none .none 0), #[]⟩
def o1486 : Obj := ⟨(.type "code"), none, (.fields #[(.str (S "take_tree") 2384), (.str (S "Reading.take_tree") 2385), (.str (S "/claim/cut.py") 2386), (.int 1109 0), (.int 3 0), (.int 0 0), (.int 0 0), (.int 3 0), (.ref 1481), (.bool true), (.int 181 0), (.ref 1482), .none, (.ref 1483), (.ref 1484), (.ref 1485), (.int 2393 0), (.int 1109 0), (.str (S "/claim/cut.py") 2394)]), #[]⟩
def o1487 : Obj := ⟨(.type "function"), none, (fD (inC 149 16) (S "take_tree") (S "Reading.take_tree") 3 [] .none .none .none (.str (S "bindertongue.parsing") 2204) none (.ref 1486) .none 0), #[]⟩
def o1488 : Obj := ⟨(.type "tuple"), none, (.seq #[] 0), #[]⟩
def o1489 : Obj := ⟨.none, none, (.fields #[]), #[]⟩
def o1490 : Obj := ⟨.none, none, (fD (inC 149 17) (S "take_head") (S "Reading.take_head") 0 [] .none .none .none .none none .none .none 0), #[]⟩
def o1491 : Obj := ⟨(.type "code"), none, (.fields #[(.str (S "take_head") 2396), (.str (S "Reading.take_head") 2397), (.str (S "/claim/cut.py") 2398), (.int 1123 0), (.int 4 0), (.int 0 0), (.int 0 0), (.int 3 0), (.ref 1488), (.bool true), (.int 181 0), (.ref 1489), .none, .none, .none, (.ref 1490), (.int 2399 0), (.int 1123 0), (.str (S "/claim/cut.py") 2400)]), #[]⟩
def o1492 : Obj := ⟨(.type "function"), none, (fD (inC 149 17) (S "take_head") (S "Reading.take_head") 3 [] .none .none .none (.str (S "bindertongue.parsing") 2204) none (.ref 1491) .none 0), #[]⟩
def o1493 : Obj := ⟨(.type "tuple"), none, (.seq #[] 0), #[]⟩
def o1494 : Obj := ⟨.none, none, (.fields #[]), #[]⟩
def o1495 : Obj := ⟨(.type "tuple"), none, (.seq #[(.str (S "self") 2405), (.str (S "frame") 2406), (.str (S "found") 2407)] 0), #[]⟩
def o1496 : Obj := ⟨(.type "tuple"), none, (.seq #[] 0), #[]⟩
def o1497 : Obj := ⟨.none, none, (fD (inC 149 18) (S "put_part") (S "Reading.put_part") 0 [] .none .none .none .none none .none .none 0), #[]⟩
def o1498 : Obj := ⟨(.type "code"), none, (.fields #[(.str (S "put_part") 2402), (.str (S "Reading.put_part") 2403), (.str (S "/claim/cut.py") 2404), (.int 1134 0), (.int 3 0), (.int 0 0), (.int 0 0), (.int 3 0), (.ref 1493), (.bool true), (.int 181 0), (.ref 1494), .none, (.ref 1495), (.ref 1496), (.ref 1497), (.int 2408 0), (.int 1134 0), (.str (S "/claim/cut.py") 2409)]), #[]⟩
def o1499 : Obj := ⟨(.type "function"), none, (fD (inC 149 18) (S "put_part") (S "Reading.put_part") 3 [] .none .none .none (.str (S "bindertongue.parsing") 2204) none (.ref 1498) .none 0), #[]⟩
def o1500 : Obj := ⟨(.type "tuple"), none, (.seq #[] 0), #[]⟩
def o1501 : Obj := ⟨.none, none, (.fields #[]), #[]⟩
def o1502 : Obj := ⟨(.type "tuple"), none, (.seq #[(.str (S "self") 2414), (.str (S "frame") 2415), (.str (S "is_tree") 2416), (.str (S "place") 2417)] 0), #[]⟩
def o1503 : Obj := ⟨(.type "tuple"), none, (.seq #[] 0), #[]⟩
def o1504 : Obj := ⟨.none, none, (fD (inC 149 19) (S "take_names") (S "Reading.take_names") 0 [] .none .none .none .none none .none .none 0), #[]⟩
def o1505 : Obj := ⟨(.type "code"), none, (.fields #[(.str (S "take_names") 2411), (.str (S "Reading.take_names") 2412), (.str (S "/claim/cut.py") 2413), (.int 1140 0), (.int 3 0), (.int 0 0), (.int 0 0), (.int 3 0), (.ref 1500), (.bool true), (.int 181 0), (.ref 1501), .none, (.ref 1502), (.ref 1503), (.ref 1504), (.int 2418 0), (.int 1140 0), (.str (S "/claim/cut.py") 2419)]), #[]⟩
def o1506 : Obj := ⟨(.type "function"), none, (fD (inC 149 19) (S "take_names") (S "Reading.take_names") 3 [] .none .none .none (.str (S "bindertongue.parsing") 2204) none (.ref 1505) .none 0), #[]⟩
def o1507 : Obj := ⟨(.type "tuple"), none, (.seq #[] 0), #[]⟩
def o1508 : Obj := ⟨.none, none, (.fields #[]), #[]⟩
def o1509 : Obj := ⟨(.type "tuple"), none, (.seq #[(.str (S "self") 2424)] 0), #[]⟩
def o1510 : Obj := ⟨(.type "tuple"), none, (.seq #[(.str (S "self") 2425), (.str (S "givens") 2426), (.str (S "sight") 2427)] 0), #[]⟩
def o1511 : Obj := ⟨.none, none, (fD (inC 149 20) (S "take_named") (S "Reading.take_named") 0 [] .none .none .none .none none .none .none 0), #[]⟩
def o1512 : Obj := ⟨(.type "code"), none, (.fields #[(.str (S "take_named") 2421), (.str (S "Reading.take_named") 2422), (.str (S "/claim/cut.py") 2423), (.int 1152 0), (.int 1 0), (.int 0 0), (.int 0 0), (.int 3 0), (.ref 1507), (.bool true), (.int 181 0), (.ref 1508), .none, (.ref 1509), (.ref 1510), (.ref 1511), (.int 2428 0), (.int 1152 0), (.str (S "/claim/cut.py") 2429)]), #[]⟩
def o1513 : Obj := ⟨(.type "function"), none, (fD (inC 149 20) (S "take_named") (S "Reading.take_named") 3 [] .none .none .none (.str (S "bindertongue.parsing") 2204) none (.ref 1512) .none 0), #[]⟩
def o1514 : Obj := ⟨(.type "tuple"), none, (.seq #[] 0), #[]⟩
def o1515 : Obj := ⟨.none, none, (.fields #[]), #[]⟩
def o1516 : Obj := ⟨(.type "tuple"), none, (.seq #[(.str (S "self") 2434)] 0), #[]⟩
def o1517 : Obj := ⟨(.type "tuple"), none, (.seq #[(.str (S "givens") 2435), (.str (S "sight") 2436)] 0), #[]⟩
def o1518 : Obj := ⟨.none, none, (fD (inC 149 21) (S "take_bound") (S "Reading.take_bound") 0 [] .none .none .none .none none .none .none 0), #[]⟩
def o1519 : Obj := ⟨(.type "code"), none, (.fields #[(.str (S "take_bound") 2431), (.str (S "Reading.take_bound") 2432), (.str (S "/claim/cut.py") 2433), (.int 1156 0), (.int 1 0), (.int 0 0), (.int 0 0), (.int 3 0), (.ref 1514), (.bool true), (.int 181 0), (.ref 1515), .none, (.ref 1516), (.ref 1517), (.ref 1518), (.int 2437 0), (.int 1156 0), (.str (S "/claim/cut.py") 2438)]), #[]⟩
def o1520 : Obj := ⟨(.type "function"), none, (fD (inC 149 21) (S "take_bound") (S "Reading.take_bound") 3 [] .none .none .none (.str (S "bindertongue.parsing") 2204) none (.ref 1519) .none 0), #[]⟩
def o1521 : Obj := ⟨(.type "tuple"), none, (.seq #[] 0), #[]⟩
def o1522 : Obj := ⟨.none, none, (.fields #[]), #[]⟩
def o1523 : Obj := ⟨(.type "tuple"), none, (.seq #[(.str (S "self") 2443)] 0), #[]⟩
def o1524 : Obj := ⟨(.type "tuple"), none, (.seq #[(.str (S "self") 2444)] 0), #[]⟩
def o1525 : Obj := ⟨.none, none, (fD (inC 149 22) (S "take_asked") (S "Reading.take_asked") 0 [] .none .none .none .none none .none .none 0), #[]⟩
def o1526 : Obj := ⟨(.type "code"), none, (.fields #[(.str (S "take_asked") 2440), (.str (S "Reading.take_asked") 2441), (.str (S "/claim/cut.py") 2442), (.int 1160 0), (.int 1 0), (.int 0 0), (.int 0 0), (.int 3 0), (.ref 1521), (.bool true), (.int 181 0), (.ref 1522), .none, (.ref 1523), (.ref 1524), (.ref 1525), (.int 2445 0), (.int 1160 0), (.str (S "/claim/cut.py") 2446)]), #[]⟩
def o1527 : Obj := ⟨(.type "function"), none, (fD (inC 149 22) (S "take_asked") (S "Reading.take_asked") 3 [] .none .none .none (.str (S "bindertongue.parsing") 2204) none (.ref 1526) .none 0), #[]⟩
def o1528 : Obj := ⟨(.type "tuple"), none, (.seq #[] 0), #[]⟩
def o1529 : Obj := ⟨.none, none, (.fields #[]), #[]⟩
def o1530 : Obj := ⟨(.type "tuple"), none, (.seq #[(.str (S "self") 2451)] 0), #[]⟩
def o1531 : Obj := ⟨(.type "tuple"), none, (.seq #[(.str (S "self") 2452)] 0), #[]⟩
def o1532 : Obj := ⟨.none, none, (fD (inC 149 23) (S "take_turned") (S "Reading.take_turned") 0 [] .none .none .none .none none .none .none 0), #[]⟩
def o1533 : Obj := ⟨(.type "code"), none, (.fields #[(.str (S "take_turned") 2448), (.str (S "Reading.take_turned") 2449), (.str (S "/claim/cut.py") 2450), (.int 1163 0), (.int 1 0), (.int 0 0), (.int 0 0), (.int 3 0), (.ref 1528), (.bool true), (.int 181 0), (.ref 1529), .none, (.ref 1530), (.ref 1531), (.ref 1532), (.int 2453 0), (.int 1163 0), (.str (S "/claim/cut.py") 2454)]), #[]⟩
def o1534 : Obj := ⟨(.type "function"), none, (fD (inC 149 23) (S "take_turned") (S "Reading.take_turned") 3 [] .none .none .none (.str (S "bindertongue.parsing") 2204) none (.ref 1533) .none 0), #[]⟩
def o1535 : Obj := ⟨(.type "tuple"), none, (.seq #[] 0), #[]⟩
def o1536 : Obj := ⟨.none, none, (.fields #[]), #[]⟩
def o1537 : Obj := ⟨.none, none, (fD (inC 149 24) (S "take_like") (S "Reading.take_like") 0 [] .none .none .none .none none .none .none 0), #[]⟩
def o1538 : Obj := ⟨(.type "code"), none, (.fields #[(.str (S "take_like") 2456), (.str (S "Reading.take_like") 2457), (.str (S "/claim/cut.py") 2458), (.int 1166 0), (.int 3 0), (.int 0 0), (.int 0 0), (.int 3 0), (.ref 1535), (.bool true), (.int 181 0), (.ref 1536), .none, .none, .none, (.ref 1537), (.int 2459 0), (.int 1166 0), (.str (S "/claim/cut.py") 2460)]), #[]⟩
def o1539 : Obj := ⟨(.type "function"), none, (fD (inC 149 24) (S "take_like") (S "Reading.take_like") 3 [] .none .none .none (.str (S "bindertongue.parsing") 2204) none (.ref 1538) .none 0), #[]⟩
def o1540 : Obj := ⟨(.type "tuple"), none, (.seq #[] 0), #[]⟩
def o1541 : Obj := ⟨.none, none, (.fields #[]), #[]⟩
def o1542 : Obj := ⟨(.type "tuple"), none, (.seq #[(.str (S "self") 2465), (.str (S "turner") 2466), (.str (S "own") 2467), (.str (S "one") 2468)] 0), #[]⟩
def o1543 : Obj := ⟨(.type "tuple"), none, (.seq #[] 0), #[]⟩
def o1544 : Obj := ⟨.none, none, (fD (inC 149 25) (S "take_keeps") (S "Reading.take_keeps") 0 [] .none .none .none .none none .none .none 0), #[]⟩
def o1545 : Obj := ⟨(.type "code"), none, (.fields #[(.str (S "take_keeps") 2462), (.str (S "Reading.take_keeps") 2463), (.str (S "/claim/cut.py") 2464), (.int 1170 0), (.int 1 0), (.int 0 0), (.int 0 0), (.int 3 0), (.ref 1540), (.bool true), (.int 181 0), (.ref 1541), .none, (.ref 1542), (.ref 1543), (.ref 1544), (.int 2469 0), (.int 1170 0), (.str (S "/claim/cut.py") 2470)]), #[]⟩
def o1546 : Obj := ⟨(.type "function"), none, (fD (inC 149 25) (S "take_keeps") (S "Reading.take_keeps") 3 [] .none .none .none (.str (S "bindertongue.parsing") 2204) none (.ref 1545) .none 0), #[]⟩
def o1547 : Obj := ⟨(.type "tuple"), none, (.seq #[] 0), #[]⟩
def o1548 : Obj := ⟨.none, none, (.fields #[]), #[]⟩
def o1549 : Obj := ⟨(.type "tuple"), none, (.seq #[(.str (S "self") 2475), (.str (S "is_alike") 2476), (.str (S "judge") 2477), (.str (S "kind") 2478), (.str (S "handed") 2479), (.str (S "name") 2480)] 0), #[]⟩
def o1550 : Obj := ⟨(.type "tuple"), none, (.seq #[] 0), #[]⟩
def o1551 : Obj := ⟨.none, none, (fD (inC 149 26) (S "take_ask") (S "Reading.take_ask") 0 [] .none .none .none .none none .none .none 0), #[]⟩
def o1552 : Obj := ⟨(.type "code"), none, (.fields #[(.str (S "take_ask") 2472), (.str (S "Reading.take_ask") 2473), (.str (S "/claim/cut.py") 2474), (.int 1176 0), (.int 1 0), (.int 0 0), (.int 0 0), (.int 3 0), (.ref 1547), (.bool true), (.int 181 0), (.ref 1548), .none, (.ref 1549), (.ref 1550), (.ref 1551), (.int 2481 0), (.int 1176 0), (.str (S "/claim/cut.py") 2482)]), #[]⟩
def o1553 : Obj := ⟨(.type "function"), none, (fD (inC 149 26) (S "take_ask") (S "Reading.take_ask") 3 [] .none .none .none (.str (S "bindertongue.parsing") 2204) none (.ref 1552) .none 0), #[]⟩
def o1554 : Obj := ⟨(.type "tuple"), none, (.seq #[] 0), #[]⟩
def o1555 : Obj := ⟨.none, none, (.fields #[]), #[]⟩
def o1556 : Obj := ⟨(.type "tuple"), none, (.seq #[(.str (S "self") 2487), (.str (S "word") 2488)] 0), #[]⟩
def o1557 : Obj := ⟨(.type "tuple"), none, (.seq #[] 0), #[]⟩
def o1558 : Obj := ⟨.none, none, (fD (inC 149 27) (S "take_behind") (S "Reading.take_behind") 0 [] .none .none .none .none none .none .none 0), #[]⟩
def o1559 : Obj := ⟨(.type "code"), none, (.fields #[(.str (S "take_behind") 2484), (.str (S "Reading.take_behind") 2485), (.str (S "/claim/cut.py") 2486), (.int 1192 0), (.int 2 0), (.int 0 0), (.int 0 0), (.int 3 0), (.ref 1554), (.bool true), (.int 181 0), (.ref 1555), .none, (.ref 1556), (.ref 1557), (.ref 1558), (.int 2489 0), (.int 1192 0), (.str (S "/claim/cut.py") 2490)]), #[]⟩
def o1560 : Obj := ⟨(.type "function"), none, (fD (inC 149 27) (S "take_behind") (S "Reading.take_behind") 3 [] .none .none .none (.str (S "bindertongue.parsing") 2204) none (.ref 1559) .none 0), #[]⟩
def o1561 : Obj := ⟨(.type "tuple"), none, (.seq #[] 0), #[]⟩
def o1562 : Obj := ⟨.none, none, (.fields #[]), #[]⟩
def o1563 : Obj := ⟨(.type "tuple"), none, (.seq #[(.str (S "self") 2495), (.str (S "found") 2496)] 0), #[]⟩
def o1564 : Obj := ⟨(.type "tuple"), none, (.seq #[] 0), #[]⟩
def o1565 : Obj := ⟨.none, none, (fD (inC 149 28) (S "take_row") (S "Reading.take_row") 0 [] .none .none .none .none none .none .none 0), #[]⟩
def o1566 : Obj := ⟨(.type "code"), none, (.fields #[(.str (S "take_row") 2492), (.str (S "Reading.take_row") 2493), (.str (S "/claim/cut.py") 2494), (.int 1207 0), (.int 1 0), (.int 0 0), (.int 0 0), (.int 3 0), (.ref 1561), (.bool true), (.int 181 0), (.ref 1562), .none, (.ref 1563), (.ref 1564), (.ref 1565), (.int 2497 0), (.int 1207 0), (.str (S "/claim/cut.py") 2498)]), #[]⟩
def o1567 : Obj := ⟨(.type "function"), none, (fD (inC 149 28) (S "take_row") (S "Reading.take_row") 3 [] .none .none .none (.str (S "bindertongue.parsing") 2204) none (.ref 1566) .none 0), #[]⟩
def o1568 : Obj := ⟨(.type "tuple"), none, (.seq #[(.str (S "sight") 2500)] 0), #[]⟩
def o1569 (p : Params) : Obj := ⟨(.type "dict"), none, (.dict #[en p (S "__module__") 2240 (.str (S "bindertongue.parsing") 2204), en p (S "__firstlineno__") 2244 (.int 999 2243), en p (S "take_place") 2252 (.ref 1377), en p (S "take_make") 2262 (.ref 1384), en p (S "take_given") 2270 (.ref 1391), en p (S "take_judge") 2281 (.ref 1398), en p (S "take_turner") 2290 (.ref 1405), en p (S "take_fresh") 2298 (.ref 1412), en p (S "take_in_pattern") 2308 (.ref 1419), en p (S "take_part_in_pattern") 2317 (.ref 1426), en p (S "take_case") 2323 (.ref 1431), en p (S "take_truth") 2330 (.ref 1438), en p (S "take_body") 2341 (.ref 1445), en p (S "take_body_end") 2348 (.ref 1452), en p (S "take_seen") 2356 (.ref 1459), en p (S "take_part") 2364 (.ref 1466), en p (S "take_test") 2376 (.ref 1473), en p (S "take_handed") 2383 (.ref 1480), en p (S "take_tree") 2395 (.ref 1487), en p (S "take_head") 2401 (.ref 1492), en p (S "put_part") 2410 (.ref 1499), en p (S "take_names") 2420 (.ref 1506), en p (S "take_named") 2430 (.ref 1513), en p (S "take_bound") 2439 (.ref 1520), en p (S "take_asked") 2447 (.ref 1527), en p (S "take_turned") 2455 (.ref 1534), en p (S "take_like") 2461 (.ref 1539), en p (S "take_keeps") 2471 (.ref 1546), en p (S "take_ask") 2483 (.ref 1553), en p (S "take_behind") 2491 (.ref 1560), en p (S "take_row") 2499 (.ref 1567), en p (S "__static_attributes__") 2501 (.ref 1568), en p (S "__doc__") 2502 .none] 2), #[]⟩
def o1570 : Obj := ⟨(.type "type"), none, (.cls ⟨(S "Reading"), [(.ref 1352)], [(.ref 1570), (.ref 1352), (.type "object")], 1569, (S "Reading"), true, [], [], false, none, false⟩), #[(some (.ref 1364)), none, (some (.str (S "Reading") 2233)), (some (.str (S "Reading") 2241)), (some (.builtin "object.__new__")), (some (.bool true))]⟩
def o1571 : Obj := ⟨(.type "super"), none, (.fields #[(.ref 1570), (.ref 1570), (.ref 1570)]), #[]⟩
def o1572 : Obj := ⟨(.type "builtin_function_or_method"), none, (.fields #[(.builtin "object.__init_subclass__"), (.ref 1570)]), #[]⟩
def o1573 : Obj := ⟨(.type "tuple"), none, (.seq #[] 0), #[]⟩
def o1574 : Obj := ⟨.none, none, (.fields #[]), #[]⟩
def o1575 : Obj := ⟨(.type "tuple"), none, (.seq #[(.str (S "look") 2510), (.str (S "tree") 2511), (.str (S "found") 2512), (.str (S "line") 2513), (.str (S "own") 2514)] 0), #[]⟩
def o1576 : Obj := ⟨(.type "tuple"), none, (.seq #[] 0), #[]⟩
def o1577 : Obj := ⟨.none, none, (fD (top 151) (S "tree_words") (S "tree_words") 0 [] .none .none .none .none none .none .none 0), #[]⟩
def o1578 : Obj := ⟨(.type "code"), none, (.fields #[(.str (S "tree_words") 2507), (.str (S "tree_words") 2508), (.str (S "/claim/cut.py") 2509), (.int 1212 0), (.int 2 0), (.int 0 0), (.int 0 0), (.int 3 0), (.ref 1573), (.bool true), (.int 181 0), (.ref 1574), .none, (.ref 1575), (.ref 1576), (.ref 1577), (.int 2515 0), (.int 1212 0), (.str (S "/claim/cut.py") 2516)]), #[]⟩
def o1579 : Obj := ⟨(.type "function"), none, (fD (top 151) (S "tree_words") (S "tree_words") 3 [] .none .none .none (.str (S "bindertongue.printwork") 2505) none (.ref 1578) .none 0), #[]⟩
def o1580 : Obj := ⟨(.type "tuple"), none, (.seq #[] 0), #[]⟩
def o1581 : Obj := ⟨.none, none, (.fields #[]), #[]⟩
def o1582 : Obj := ⟨(.type "tuple"), none, (.seq #[(.str (S "look") 2521), (.str (S "tree") 2522), (.str (S "found") 2523), (.str (S "place") 2524), (.str (S "own") 2525)] 0), #[]⟩
def o1583 : Obj := ⟨(.type "tuple"), none, (.seq #[] 0), #[]⟩
def o1584 : Obj := ⟨.none, none, (fD (top 152) (S "pieces_of") (S "pieces_of") 0 [] .none .none .none .none none .none .none 0), #[]⟩
def o1585 : Obj := ⟨(.type "code"), none, (.fields #[(.str (S "pieces_of") 2518), (.str (S "pieces_of") 2519), (.str (S "/claim/cut.py") 2520), (.int 1222 0), (.int 2 0), (.int 0 0), (.int 0 0), (.int 3 0), (.ref 1580), (.bool true), (.int 181 0), (.ref 1581), .none, (.ref 1582), (.ref 1583), (.ref 1584), (.int 2526 0), (.int 1222 0), (.str (S "/claim/cut.py") 2527)]), #[]⟩
def o1586 : Obj := ⟨(.type "function"), none, (fD (top 152) (S "pieces_of") (S "pieces_of") 3 [] .none .none .none (.str (S "bindertongue.printwork") 2505) none (.ref 1585) .none 0), #[]⟩
def o1587 : Obj := ⟨(.type "tuple"), none, (.seq #[] 0), #[]⟩
def o1588 : Obj := ⟨.none, none, (.fields #[]), #[]⟩
def o1589 : Obj := ⟨(.type "tuple"), none, (.seq #[(.str (S "look") 2532), (.str (S "tree") 2533)] 0), #[]⟩
def o1590 : Obj := ⟨(.type "tuple"), none, (.seq #[] 0), #[]⟩
def o1591 : Obj := ⟨.none, none, (fD (top 153) (S "tree_text_by") (S "tree_text_by") 0 [] .none .none .none .none none .none .none 0), #[]⟩
def o1592 : Obj := ⟨(.type "code"), none, (.fields #[(.str (S "tree_text_by") 2529), (.str (S "tree_text_by") 2530), (.str (S "/claim/cut.py") 2531), (.int 1227 0), (.int 2 0), (.int 0 0), (.int 0 0), (.int 3 0), (.ref 1587), (.bool true), (.int 181 0), (.ref 1588), .none, (.ref 1589), (.ref 1590), (.ref 1591), (.int 2534 0), (.int 1227 0), (.str (S "/claim/cut.py") 2535)]), #[]⟩
def o1593 : Obj := ⟨(.type "function"), none, (fD (top 153) (S "tree_text_by") (S "tree_text_by") 3 [] .none .none .none (.str (S "bindertongue.printwork") 2505) none (.ref 1592) .none 0), #[]⟩
def o1594 : Obj := ⟨(.type "tuple"), none, (.seq #[] 0), #[]⟩
def o1595 : Obj := ⟨.none, none, (.fields #[]), #[]⟩
def o1596 : Obj := ⟨(.type "tuple"), none, (.seq #[(.str (S "own") 2540)] 0), #[]⟩
def o1597 : Obj := ⟨(.type "tuple"), none, (.seq #[] 0), #[]⟩
def o1598 : Obj := ⟨.none, none, (fD (top 154) (S "arg_text") (S "arg_text") 0 [] .none .none .none .none none .none .none 0), #[]⟩
def o1599 : Obj := ⟨(.type "code"), none, (.fields #[(.str (S "arg_text") 2537), (.str (S "arg_text") 2538), (.str (S "/claim/cut.py") 2539), (.int 1229 0), (.int 1 0), (.int 0 0), (.int 0 0), (.int 3 0), (.ref 1594), (.bool true), (.int 181 0), (.ref 1595), .none, (.ref 1596), (.ref 1597), (.ref 1598), (.int 2541 0), (.int 1229 0), (.str (S "/claim/cut.py") 2542)]), #[]⟩
def o1600 : Obj := ⟨(.type "function"), none, (fD (top 154) (S "arg_text") (S "arg_text") 3 [] .none .none .none (.str (S "bindertongue.printwork") 2505) none (.ref 1599) .none 0), #[]⟩
def o1601 : Obj := ⟨(.type "tuple"), none, (.seq #[] 0), #[]⟩
def o1602 : Obj := ⟨.none, none, (.fields #[]), #[]⟩
def o1603 : Obj := ⟨(.type "tuple"), none, (.seq #[(.str (S "own") 2547)] 0), #[]⟩
def o1604 : Obj := ⟨(.type "tuple"), none, (.seq #[] 0), #[]⟩
def o1605 : Obj := ⟨.none, none, (fD (top 155) (S "is_bound") (S "is_bound") 0 [] .none .none .none .none none .none .none 0), #[]⟩
def o1606 : Obj := ⟨(.type "code"), none, (.fields #[(.str (S "is_bound") 2544), (.str (S "is_bound") 2545), (.str (S "/claim/cut.py") 2546), (.int 1233 0), (.int 1 0), (.int 0 0), (.int 0 0), (.int 3 0), (.ref 1601), (.bool true), (.int 181 0), (.ref 1602), .none, (.ref 1603), (.ref 1604), (.ref 1605), (.int 2548 0), (.int 1233 0), (.str (S "/claim/cut.py") 2549)]), #[]⟩
def o1607 : Obj := ⟨(.type "function"), none, (fD (top 155) (S "is_bound") (S "is_bound") 3 [] .none .none .none (.str (S "bindertongue.printwork") 2505) none (.ref 1606) .none 0), #[]⟩
def o1608 : Obj := ⟨(.type "tuple"), none, (.seq #[] 0), #[]⟩
def o1609 : Obj := ⟨.none, none, (.fields #[]), #[]⟩
def o1610 : Obj := ⟨.none, none, (fD (top 156) (S "expression_text") (S "expression_text") 0 [] .none .none .none .none none .none .none 0), #[]⟩
def o1611 : Obj := ⟨(.type "code"), none, (.fields #[(.str (S "expression_text") 2551), (.str (S "expression_text") 2552), (.str (S "/claim/cut.py") 2553), (.int 1235 0), (.int 1 0), (.int 0 0), (.int 0 0), (.int 3 0), (.ref 1608), (.bool true), (.int 181 0), (.ref 1609), .none, .none, .none, (.ref 1610), (.int 2554 0), (.int 1235 0), (.str (S "/claim/cut.py") 2555)]), #[]⟩
def o1612 : Obj := ⟨(.type "function"), none, (fD (top 156) (S "expression_text") (S "expression_text") 3 [] .none .none .none (.str (S "bindertongue.printwork") 2505) none (.ref 1611) .none 0), #[]⟩
def o1613 : Obj := ⟨(.type "tuple"), none, (.seq #[] 0), #[]⟩
def o1614 : Obj := ⟨.none, none, (.fields #[]), #[]⟩
def o1615 : Obj := ⟨(.type "tuple"), none, (.seq #[(.str (S "test") 2560)] 0), #[]⟩
def o1616 : Obj := ⟨(.type "tuple"), none, (.seq #[] 0), #[]⟩
def o1617 : Obj := ⟨.none, none, (fD (top 157) (S "test_text") (S "test_text") 0 [] .none .none .none .none none .none .none 0), #[]⟩
def o1618 : Obj := ⟨(.type "code"), none, (.fields #[(.str (S "test_text") 2557), (.str (S "test_text") 2558), (.str (S "/claim/cut.py") 2559), (.int 1241 0), (.int 1 0), (.int 0 0), (.int 0 0), (.int 3 0), (.ref 1613), (.bool true), (.int 181 0), (.ref 1614), .none, (.ref 1615), (.ref 1616), (.ref 1617), (.int 2561 0), (.int 1241 0), (.str (S "/claim/cut.py") 2562)]), #[]⟩
def o1619 : Obj := ⟨(.type "function"), none, (fD (top 157) (S "test_text") (S "test_text") 3 [] .none .none .none (.str (S "bindertongue.printwork") 2505) none (.ref 1618) .none 0), #[]⟩
def o1620 : Obj := ⟨(.type "tuple"), none, (.seq #[] 0), #[]⟩
def o1621 : Obj := ⟨.none, none, (.fields #[]), #[]⟩
def o1622 : Obj := ⟨(.type "tuple"), none, (.seq #[(.str (S "truth") 2567)] 0), #[]⟩
def o1623 : Obj := ⟨(.type "tuple"), none, (.seq #[] 0), #[]⟩
def o1624 : Obj := ⟨.none, none, (fD (top 158) (S "truth_text") (S "truth_text") 0 [] .none .none .none .none none .none .none 0), #[]⟩
def o1625 : Obj := ⟨(.type "code"), none, (.fields #[(.str (S "truth_text") 2564), (.str (S "truth_text") 2565), (.str (S "/claim/cut.py") 2566), (.int 1245 0), (.int 1 0), (.int 0 0), (.int 0 0), (.int 3 0), (.ref 1620), (.bool true), (.int 181 0), (.ref 1621), .none, (.ref 1622), (.ref 1623), (.ref 1624), (.int 2568 0), (.int 1245 0), (.str (S "/claim/cut.py") 2569)]), #[]⟩
def o1626 : Obj := ⟨(.type "function"), none, (fD (top 158) (S "truth_text") (S "truth_text") 3 [] .none .none .none (.str (S "bindertongue.printwork") 2505) none (.ref 1625) .none 0), #[]⟩
def o1627 : Obj := ⟨(.type "tuple"), none, (.seq #[] 0), #[]⟩
def o1628 : Obj := ⟨.none, none, (.fields #[]), #[]⟩
def o1629 : Obj := ⟨(.type "tuple"), none, (.seq #[(.str (S "body") 2574)] 0), #[]⟩
def o1630 : Obj := ⟨(.type "tuple"), none, (.seq #[] 0), #[]⟩
def o1631 : Obj := ⟨.none, none, (fD (top 159) (S "body_text") (S "body_text") 0 [] .none .none .none .none none .none .none 0), #[]⟩
def o1632 : Obj := ⟨(.type "code"), none, (.fields #[(.str (S "body_text") 2571), (.str (S "body_text") 2572), (.str (S "/claim/cut.py") 2573), (.int 1247 0), (.int 1 0), (.int 0 0), (.int 0 0), (.int 3 0), (.ref 1627), (.bool true), (.int 181 0), (.ref 1628), .none, (.ref 1629), (.ref 1630), (.ref 1631), (.int 2575 0), (.int 1247 0), (.str (S "/claim/cut.py") 2576)]), #[]⟩
def o1633 : Obj := ⟨(.type "function"), none, (fD (top 159) (S "body_text") (S "body_text") 3 [] .none .none .none (.str (S "bindertongue.printwork") 2505) none (.ref 1632) .none 0), #[]⟩
def o1634 : Obj := ⟨(.type "tuple"), none, (.seq #[] 0), #[]⟩
def o1635 : Obj := ⟨.none, none, (.fields #[]), #[]⟩
def o1636 : Obj := ⟨(.type "tuple"), none, (.seq #[(.str (S "place") 2581)] 0), #[]⟩
def o1637 : Obj := ⟨(.type "tuple"), none, (.seq #[] 0), #[]⟩
def o1638 : Obj := ⟨.none, none, (fD (top 160) (S "place_text") (S "place_text") 0 [] .none .none .none .none none .none .none 0), #[]⟩
def o1639 : Obj := ⟨(.type "code"), none, (.fields #[(.str (S "place_text") 2578), (.str (S "place_text") 2579), (.str (S "/claim/cut.py") 2580), (.int 1253 0), (.int 1 0), (.int 0 0), (.int 0 0), (.int 3 0), (.ref 1634), (.bool true), (.int 181 0), (.ref 1635), .none, (.ref 1636), (.ref 1637), (.ref 1638), (.int 2582 0), (.int 1253 0), (.str (S "/claim/cut.py") 2583)]), #[]⟩
def o1640 : Obj := ⟨(.type "function"), none, (fD (top 160) (S "place_text") (S "place_text") 3 [] .none .none .none (.str (S "bindertongue.printwork") 2505) none (.ref 1639) .none 0), #[]⟩
def o1641 : Obj := ⟨(.type "tuple"), none, (.seq #[] 0), #[]⟩
def o1642 : Obj := ⟨.none, none, (.fields #[]), #[]⟩
def o1643 : Obj := ⟨(.type "tuple"), none, (.seq #[(.str (S "own") 2588)] 0), #[]⟩
def o1644 : Obj := ⟨(.type "tuple"), none, (.seq #[] 0), #[]⟩
def o1645 : Obj := ⟨.none, none, (fD (top 161) (S "pattern_text") (S "pattern_text") 0 [] .none .none .none .none none .none .none 0), #[]⟩
def o1646 : Obj := ⟨(.type "code"), none, (.fields #[(.str (S "pattern_text") 2585), (.str (S "pattern_text") 2586), (.str (S "/claim/cut.py") 2587), (.int 1257 0), (.int 1 0), (.int 0 0), (.int 0 0), (.int 3 0), (.ref 1641), (.bool true), (.int 181 0), (.ref 1642), .none, (.ref 1643), (.ref 1644), (.ref 1645), (.int 2589 0), (.int 1257 0), (.str (S "/claim/cut.py") 2590)]), #[]⟩
def o1647 : Obj := ⟨(.type "function"), none, (fD (top 161) (S "pattern_text") (S "pattern_text") 3 [] .none .none .none (.str (S "bindertongue.printwork") 2505) none (.ref 1646) .none 0), #[]⟩
def o1648 : Obj := ⟨(.type "tuple"), none, (.seq #[] 0), #[]⟩
def o1649 : Obj := ⟨.none, none, (.fields #[]), #[]⟩
def o1650 : Obj := ⟨.none, none, (fD (top 162) (S "declared_text") (S "declared_text") 0 [] .none .none .none .none none .none .none 0), #[]⟩
def o1651 : Obj := ⟨(.type "code"), none, (.fields #[(.str (S "declared_text") 2592), (.str (S "declared_text") 2593), (.str (S "/claim/cut.py") 2594), (.int 1259 0), (.int 1 0), (.int 0 0), (.int 0 0), (.int 3 0), (.ref 1648), (.bool true), (.int 181 0), (.ref 1649), .none, .none, .none, (.ref 1650), (.int 2595 0), (.int 1259 0), (.str (S "/claim/cut.py") 2596)]), #[]⟩
def o1652 : Obj := ⟨(.type "function"), none, (fD (top 162) (S "declared_text") (S "declared_text") 3 [] .none .none .none (.str (S "bindertongue.printwork") 2505) none (.ref 1651) .none 0), #[]⟩
def o1653 : Obj := ⟨(.type "tuple"), none, (.seq #[] 0), #[]⟩
def o1654 : Obj := ⟨.none, none, (.fields #[]), #[]⟩
def o1655 : Obj := ⟨.none, none, (fD (top 163) (S "row_text") (S "row_text") 0 [] .none .none .none .none none .none .none 0), #[]⟩
def o1656 : Obj := ⟨(.type "code"), none, (.fields #[(.str (S "row_text") 2598), (.str (S "row_text") 2599), (.str (S "/claim/cut.py") 2600), (.int 1267 0), (.int 2 0), (.int 0 0), (.int 0 0), (.int 3 0), (.ref 1653), (.bool true), (.int 181 0), (.ref 1654), .none, .none, .none, (.ref 1655), (.int 2601 0), (.int 1267 0), (.str (S "/claim/cut.py") 2602)]), #[]⟩
def o1657 : Obj := ⟨(.type "function"), none, (fD (top 163) (S "row_text") (S "row_text") 3 [] .none .none .none (.str (S "bindertongue.printwork") 2505) none (.ref 1656) .none 0), #[]⟩
def o1658 : Obj := ⟨(.type "tuple"), none, (.seq #[(.str (S "kind") 1872), (.str (S "make") 2208), (.str (S "given") 2210)] 0), #[]⟩
def o1659 : Obj := ⟨(.type "tuple"), none, (.seq #[(.str (S "judge") 2212), (.str (S "turner") 2214), (.str (S "case") 2216), (.str (S "else") 2218)] 0), #[]⟩
def T4_0 (p : Params) : PySem.W.BT := N (o3_4 p) (N o7 (N o15 (N o31 (N o63 (N o127 (N o255 (N o511 (N1 o1023) (N1 o1535)) (N o767 (N1 o1279) L)) (N o383 (N o639 (N1 o1151) L) (N o895 (N1 o1407) L))) (N o191 (N o319 (N o575 (N1 o1087) (N1 o1599)) (N o831 (N1 o1343) L)) (N o447 (N o703 (N1 o1215) L) (N o959 (N1 o1471) L)))) (N o95 (N o159 (N o287 (N o543 (N1 o1055) (N1 o1567)) (N o799 (N1 o1311) L)) (N o415 (N o671 (N1 o1183) L) (N o927 (N1 o1439) L))) (N o223 (N o351 (N o607 (N1 o1119) (N1 o1631)) (N o863 (N1 o1375) L)) (N o479 (N o735 (N1 o1247) L) (N o991 (N1 o1503) L))))) (N o47 (N (o79 p) (N o143 (N o271 (N o527 (N1 o1039) (N1 o1551)) (N o783 (N1 o1295) L)) (N o399 (N o655 (N1 o1167) L) (N o911 (N1 o1423) L))) (N o207 (N o335 (N o591 (N1 o1103) (N1 o1615)) (N o847 (N1 o1359) L)) (N o463 (N o719 (N1 o1231) L) (N o975 (N1 o1487) L)))) (N o111 (N o175 (N o303 (N o559 (N1 o1071) (N1 o1583)) (N o815 (N1 o1327) L)) (N o431 (N o687 (N1 o1199) L) (N o943 (N1 o1455) L))) (N o239 (N o367 (N o623 (N1 o1135) (N1 o1647)) (N o879 (N1 o1391) L)) (N o495 (N o751 (N1 o1263) L) (N o1007 (N1 o1519) L)))))) (N o23 (N o39 (N o71 (N o135 (N o263 (N o519 (N1 o1031) (N1 o1543)) (N o775 (N1 o1287) L)) (N o391 (N o647 (N1 o1159) L) (N o903 (N1 o1415) L))) (N o199 (N (o327 p) (N o583 (N1 o1095) (N1 o1607)) (N o839 (N1 (o1351 p)) L)) (N o455 (N o711 (N1 o1223) L) (N o967 (N1 o1479) L)))) (N o103 (N o167 (N o295 (N o551 (N1 o1063) (N1 o1575)) (N o807 (N1 o1319) L)) (N o423 (N o679 (N1 o1191) L) (N o935 (N1 o1447) L))) (N o231 (N o359 (N o615 (N1 o1127) (N1 o1639)) (N o871 (N1 o1383) L)) (N o487 (N o743 (N1 o1255) L) (N o999 (N1 o1511) L))))) (N o55 (N o87 (N o151 (N o279 (N o535 (N1 o1047) (N1 o1559)) (N o791 (N1 o1303) L)) (N o407 (N o663 (N1 o1175) L) (N o919 (N1 o1431) L))) (N o215 (N o343 (N o599 (N1 o1111) (N1 o1623)) (N (o855 p) (N1 o1367) L)) (N o471 (N o727 (N1 o1239) L) (N o983 (N1 o1495) L)))) (N o119 (N o183 (N o311 (N o567 (N1 o1079) (N1 o1591)) (N o823 (N1 o1335) L)) (N o439 (N o695 (N1 o1207) L) (N o951 (N1 o1463) L))) (N o247 (N o375 (N o631 (N1 o1143) (N1 o1655)) (N o887 (N1 o1399) L)) (N o503 (N o759 (N1 o1271) L) (N o1015 (N1 o1527) L))))))) (N o11 (N o19 (N o35 (N o67 (N o131 (N o259 (N o515 (N1 o1027) (N1 o1539)) (N o771 (N1 o1283) L)) (N o387 (N o643 (N1 o1155) L) (N (o899 p) (N1 o1411) L))) (N o195 (N o323 (N o579 (N1 o1091) (N1 o1603)) (N o835 (N1 o1347) L)) (N o451 (N o707 (N1 (o1219 p)) L) (N (o963 p) (N1 o1475) L)))) (N o99 (N o163 (N o291 (N o547 (N1 o1059) (N1 o1571)) (N o803 (N1 o1315) L)) (N o419 (N o675 (N1 o1187) L) (N o931 (N1 o1443) L))) (N o227 (N o355 (N o611 (N1 o1123) (N1 o1635)) (N o867 (N1 o1379) L)) (N o483 (N o739 (N1 o1251) L) (N o995 (N1 o1507) L))))) (N o51 (N o83 (N o147 (N o275 (N o531 (N1 o1043) (N1 o1555)) (N o787 (N1 o1299) L)) (N o403 (N o659 (N1 o1171) L) (N o915 (N1 o1427) L))) (N o211 (N o339 (N o595 (N1 o1107) (N1 o1619)) (N o851 (N1 o1363) L)) (N o467 (N o723 (N1 o1235) L) (N o979 (N1 o1491) L)))) (N o115 (N o179 (N o307 (N o563 (N1 o1075) (N1 o1587)) (N o819 (N1 o1331) L)) (N o435 (N o691 (N1 o1203) L) (N o947 (N1 o1459) L))) (N o243 (N o371 (N o627 (N1 o1139) (N1 o1651)) (N o883 (N1 o1395) L)) (N o499 (N o755 (N1 o1267) L) (N o1011 (N1 o1523) L)))))) (N o27 (N o43 (N o75 (N o139 (N o267 (N o523 (N1 o1035) (N1 o1547)) (N o779 (N1 o1291) L)) (N o395 (N o651 (N1 o1163) L) (N (o907 p) (N1 o1419) L))) (N o203 (N o331 (N o587 (N1 o1099) (N1 o1611)) (N o843 (N1 o1355) L)) (N o459 (N (o715 p) (N1 o1227) L) (N o971 (N1 o1483) L)))) (N o107 (N o171 (N o299 (N o555 (N1 o1067) (N1 o1579)) (N o811 (N1 o1323) L)) (N o427 (N o683 (N1 o1195) L) (N o939 (N1 o1451) L))) (N o235 (N o363 (N o619 (N1 o1131) (N1 o1643)) (N o875 (N1 o1387) L)) (N o491 (N o747 (N1 o1259) L) (N o1003 (N1 o1515) L))))) (N o59 (N (o91 p) (N o155 (N o283 (N o539 (N1 o1051) (N1 o1563)) (N o795 (N1 o1307) L)) (N o411 (N o667 (N1 o1179) L) (N o923 (N1 o1435) L))) (N o219 (N (o347 p) (N o603 (N1 o1115) (N1 o1627)) (N o859 (N1 o1371) L)) (N o475 (N o731 (N1 o1243) L) (N o987 (N1 o1499) L)))) (N o123 (N o187 (N o315 (N o571 (N1 o1083) (N1 o1595)) (N o827 (N1 o1339) L)) (N o443 (N o699 (N1 (o1211 p)) L) (N o955 (N1 o1467) L))) (N o251 (N o379 (N o635 (N1 o1147) (N1 o1659)) (N o891 (N1 o1403) L)) (N o507 (N o763 (N1 o1275) L) (N o1019 (N1 o1531) L)))))))
def T4_1 (p : Params) : PySem.W.BT := N o5 (N o9 (N o17 (N o33 (N o65 (N o129 (N o257 (N o513 (N1 o1025) (N1 o1537)) (N o769 (N1 o1281) L)) (N o385 (N o641 (N1 o1153) L) (N o897 (N1 o1409) L))) (N o193 (N o321 (N o577 (N1 o1089) (N1 o1601)) (N o833 (N1 o1345) L)) (N o449 (N o705 (N1 o1217) L) (N o961 (N1 o1473) L)))) (N o97 (N o161 (N o289 (N o545 (N1 o1057) (N1 (o1569 p))) (N o801 (N1 o1313) L)) (N o417 (N o673 (N1 o1185) L) (N o929 (N1 o1441) L))) (N o225 (N o353 (N o609 (N1 o1121) (N1 o1633)) (N o865 (N1 o1377) L)) (N o481 (N o737 (N1 o1249) L) (N o993 (N1 o1505) L))))) (N o49 (N o81 (N o145 (N o273 (N o529 (N1 o1041) (N1 o1553)) (N (o785 p) (N1 o1297) L)) (N o401 (N o657 (N1 o1169) L) (N o913 (N1 o1425) L))) (N o209 (N o337 (N o593 (N1 o1105) (N1 o1617)) (N o849 (N1 o1361) L)) (N o465 (N o721 (N1 o1233) L) (N o977 (N1 o1489) L)))) (N o113 (N o177 (N o305 (N o561 (N1 o1073) (N1 o1585)) (N o817 (N1 o1329) L)) (N o433 (N o689 (N1 o1201) L) (N o945 (N1 o1457) L))) (N o241 (N o369 (N o625 (N1 o1137) (N1 o1649)) (N o881 (N1 o1393) L)) (N o497 (N o753 (N1 o1265) L) (N o1009 (N1 o1521) L)))))) (N o25 (N o41 (N (o73 p) (N o137 (N o265 (N o521 (N1 o1033) (N1 o1545)) (N o777 (N1 o1289) L)) (N o393 (N o649 (N1 o1161) L) (N o905 (N1 o1417) L))) (N o201 (N o329 (N o585 (N1 o1097) (N1 o1609)) (N o841 (N1 o1353) L)) (N (o457 p) (N o713 (N1 o1225) L) (N o969 (N1 o1481) L)))) (N o105 (N o169 (N o297 (N o553 (N1 o1065) (N1 o1577)) (N o809 (N1 o1321) L)) (N o425 (N (o681 p) (N1 o1193) L) (N o937 (N1 o1449) L))) (N o233 (N o361 (N o617 (N1 o1129) (N1 o1641)) (N o873 (N1 o1385) L)) (N o489 (N o745 (N1 o1257) L) (N o1001 (N1 o1513) L))))) (N o57 (N o89 (N o153 (N o281 (N o537 (N1 o1049) (N1 o1561)) (N o793 (N1 o1305) L)) (N o409 (N o665 (N1 o1177) L) (N o921 (N1 o1433) L))) (N o217 (N o345 (N o601 (N1 o1113) (N1 o1625)) (N o857 (N1 o1369) L)) (N o473 (N o729 (N1 o1241) L) (N o985 (N1 o1497) L)))) (N o121 (N o185 (N o313 (N o569 (N1 o1081) (N1 o1593)) (N o825 (N1 o1337) L)) (N o441 (N o697 (N1 o1209) L) (N o953 (N1 o1465) L))) (N o249 (N o377 (N o633 (N1 o1145) (N1 o1657)) (N o889 (N1 o1401) L)) (N o505 (N o761 (N1 o1273) L) (N o1017 (N1 o1529) L))))))) (N o13 (N o21 (N (o37 p) (N o69 (N o133 (N o261 (N o517 (N1 o1029) (N1 o1541)) (N o773 (N1 o1285) L)) (N o389 (N o645 (N1 o1157) L) (N o901 (N1 o1413) L))) (N o197 (N o325 (N o581 (N1 o1093) (N1 o1605)) (N o837 (N1 o1349) L)) (N o453 (N o709 (N1 o1221) L) (N o965 (N1 o1477) L)))) (N o101 (N o165 (N o293 (N o549 (N1 o1061) (N1 o1573)) (N (o805 p) (N1 o1317) L)) (N o421 (N o677 (N1 o1189) L) (N o933 (N1 o1445) L))) (N o229 (N o357 (N o613 (N1 o1125) (N1 o1637)) (N o869 (N1 o1381) L)) (N (o485 p) (N o741 (N1 o1253) L) (N o997 (N1 o1509) L))))) (N o53 (N (o85 p) (N o149 (N o277 (N o533 (N1 o1045) (N1 o1557)) (N o789 (N1 o1301) L)) (N o405 (N (o661 p) (N1 o1173) L) (N o917 (N1 o1429) L))) (N o213 (N o341 (N o597 (N1 o1109) (N1 o1621)) (N o853 (N1 o1365) L)) (N o469 (N o725 (N1 o1237) L) (N o981 (N1 o1493) L)))) (N o117 (N o181 (N o309 (N o565 (N1 o1077) (N1 o1589)) (N o821 (N1 o1333) L)) (N o437 (N o693 (N1 o1205) L) (N o949 (N1 o1461) L))) (N o245 (N (o373 p) (N o629 (N1 o1141) (N1 o1653)) (N o885 (N1 o1397) L)) (N o501 (N o757 (N1 o1269) L) (N o1013 (N1 o1525) L)))))) (N o29 (N o45 (N o77 (N o141 (N o269 (N o525 (N1 o1037) (N1 o1549)) (N o781 (N1 o1293) L)) (N o397 (N (o653 p) (N1 o1165) L) (N o909 (N1 o1421) L))) (N o205 (N o333 (N o589 (N1 o1101) (N1 o1613)) (N o845 (N1 o1357) L)) (N o461 (N o717 (N1 o1229) L) (N o973 (N1 o1485) L)))) (N o109 (N o173 (N o301 (N o557 (N1 o1069) (N1 o1581)) (N o813 (N1 o1325) L)) (N o429 (N o685 (N1 o1197) L) (N o941 (N1 o1453) L))) (N o237 (N o365 (N o621 (N1 o1133) (N1 o1645)) (N o877 (N1 o1389) L)) (N o493 (N o749 (N1 o1261) L) (N o1005 (N1 o1517) L))))) (N o61 (N o93 (N o157 (N o285 (N o541 (N1 o1053) (N1 o1565)) (N o797 (N1 o1309) L)) (N o413 (N o669 (N1 o1181) L) (N o925 (N1 o1437) L))) (N o221 (N o349 (N o605 (N1 o1117) (N1 o1629)) (N o861 (N1 o1373) L)) (N o477 (N (o733 p) (N1 o1245) L) (N o989 (N1 o1501) L)))) (N o125 (N o189 (N o317 (N o573 (N1 o1085) (N1 o1597)) (N o829 (N1 o1341) L)) (N o445 (N o701 (N1 o1213) L) (N o957 (N1 o1469) L))) (N o253 (N (o381 p) (N o637 (N1 (o1149 p)) L) (N o893 (N1 o1405) L)) (N o509 (N o765 (N1 o1277) L) (N o1021 (N1 o1533) L)))))))
def T4_2 (p : Params) : PySem.W.BT := N o4 (N o8 (N o16 (N o32 (N o64 (N o128 (N o256 (N o512 (N1 o1024) (N1 o1536)) (N o768 (N1 o1280) L)) (N o384 (N o640 (N1 o1152) L) (N o896 (N1 o1408) L))) (N o192 (N o320 (N o576 (N1 o1088) (N1 o1600)) (N o832 (N1 o1344) L)) (N o448 (N o704 (N1 o1216) L) (N o960 (N1 o1472) L)))) (N o96 (N o160 (N o288 (N o544 (N1 o1056) (N1 o1568)) (N o800 (N1 o1312) L)) (N o416 (N o672 (N1 (o1184 p)) L) (N o928 (N1 o1440) L))) (N o224 (N o352 (N o608 (N1 o1120) (N1 o1632)) (N o864 (N1 o1376) L)) (N o480 (N o736 (N1 o1248) L) (N o992 (N1 o1504) L))))) (N o48 (N o80 (N o144 (N o272 (N o528 (N1 o1040) (N1 o1552)) (N o784 (N1 o1296) L)) (N o400 (N o656 (N1 o1168) L) (N o912 (N1 o1424) L))) (N o208 (N o336 (N o592 (N1 o1104) (N1 o1616)) (N o848 (N1 o1360) L)) (N o464 (N o720 (N1 o1232) L) (N o976 (N1 o1488) L)))) (N o112 (N o176 (N o304 (N o560 (N1 o1072) (N1 o1584)) (N o816 (N1 o1328) L)) (N o432 (N o688 (N1 o1200) L) (N o944 (N1 o1456) L))) (N o240 (N o368 (N o624 (N1 o1136) (N1 o1648)) (N o880 (N1 o1392) L)) (N (o496 p) (N o752 (N1 o1264) L) (N o1008 (N1 o1520) L)))))) (N (o24 p) (N o40 (N o72 (N o136 (N o264 (N o520 (N1 o1032) (N1 o1544)) (N o776 (N1 o1288) L)) (N o392 (N o648 (N1 o1160) L) (N o904 (N1 o1416) L))) (N o200 (N o328 (N o584 (N1 o1096) (N1 o1608)) (N o840 (N1 o1352) L)) (N o456 (N o712 (N1 o1224) L) (N o968 (N1 o1480) L)))) (N o104 (N o168 (N o296 (N o552 (N1 o1064) (N1 o1576)) (N o808 (N1 o1320) L)) (N o424 (N o680 (N1 o1192) L) (N o936 (N1 o1448) L))) (N o232 (N o360 (N o616 (N1 o1128) (N1 o1640)) (N o872 (N1 o1384) L)) (N o488 (N o744 (N1 o1256) L) (N o1000 (N1 o1512) L))))) (N o56 (N o88 (N o152 (N o280 (N o536 (N1 o1048) (N1 o1560)) (N o792 (N1 o1304) L)) (N o408 (N o664 (N1 (o1176 p)) L) (N o920 (N1 o1432) L))) (N o216 (N o344 (N o600 (N1 o1112) (N1 o1624)) (N o856 (N1 o1368) L)) (N o472 (N o728 (N1 o1240) L) (N o984 (N1 o1496) L)))) (N o120 (N o184 (N o312 (N o568 (N1 o1080) (N1 o1592)) (N o824 (N1 o1336) L)) (N o440 (N o696 (N1 o1208) L) (N o952 (N1 o1464) L))) (N o248 (N o376 (N o632 (N1 o1144) (N1 o1656)) (N o888 (N1 o1400) L)) (N (o504 p) (N o760 (N1 o1272) L) (N o1016 (N1 o1528) L))))))) (N o12_4 (N o20 (N o36 (N o68 (N o132 (N o260 (N o516 (N1 o1028) (N1 o1540)) (N o772 (N1 o1284) L)) (N o388 (N o644 (N1 (o1156 p)) L) (N o900 (N1 o1412) L))) (N o196 (N o324 (N o580 (N1 o1092) (N1 o1604)) (N o836 (N1 o1348) L)) (N o452 (N o708 (N1 o1220) L) (N o964 (N1 o1476) L)))) (N o100 (N o164 (N o292 (N o548 (N1 o1060) (N1 o1572)) (N o804 (N1 o1316) L)) (N o420 (N o676 (N1 o1188) L) (N o932 (N1 o1444) L))) (N o228 (N o356 (N o612 (N1 o1124) (N1 o1636)) (N o868 (N1 o1380) L)) (N o484 (N o740 (N1 o1252) L) (N o996 (N1 o1508) L))))) (N (o52 p) (N o84 (N o148 (N o276 (N o532 (N1 o1044) (N1 o1556)) (N o788 (N1 o1300) L)) (N o404 (N o660 (N1 o1172) L) (N o916 (N1 o1428) L))) (N o212 (N o340 (N o596 (N1 o1108) (N1 o1620)) (N o852 (N1 o1364) L)) (N o468 (N o724 (N1 o1236) L) (N o980 (N1 o1492) L)))) (N o116 (N o180 (N o308 (N o564 (N1 o1076) (N1 o1588)) (N o820 (N1 o1332) L)) (N (o436 p) (N o692 (N1 o1204) L) (N o948 (N1 o1460) L))) (N o244 (N o372 (N o628 (N1 o1140) (N1 o1652)) (N o884 (N1 o1396) L)) (N o500 (N o756 (N1 o1268) L) (N o1012 (N1 o1524) L)))))) (N o28 (N o44 (N o76 (N o140 (N o268 (N o524 (N1 o1036) (N1 o1548)) (N o780 (N1 o1292) L)) (N o396 (N o652 (N1 o1164) L) (N o908 (N1 o1420) L))) (N o204 (N o332 (N o588 (N1 o1100) (N1 o1612)) (N o844 (N1 o1356) L)) (N o460 (N o716 (N1 o1228) L) (N o972 (N1 o1484) L)))) (N o108 (N o172 (N o300 (N o556 (N1 o1068) (N1 o1580)) (N o812 (N1 o1324) L)) (N o428 (N o684 (N1 o1196) L) (N o940 (N1 o1452) L))) (N o236 (N o364 (N o620 (N1 o1132) (N1 o1644)) (N o876 (N1 o1388) L)) (N o492 (N o748 (N1 o1260) L) (N o1004 (N1 o1516) L))))) (N o60 (N o92 (N (o156 p) (N o284 (N o540 (N1 o1052) (N1 o1564)) (N o796 (N1 o1308) L)) (N o412 (N o668 (N1 o1180) L) (N o924 (N1 o1436) L))) (N o220 (N o348 (N o604 (N1 o1116) (N1 o1628)) (N o860 (N1 o1372) L)) (N o476 (N o732 (N1 o1244) L) (N o988 (N1 o1500) L)))) (N o124 (N o188 (N o316 (N o572 (N1 o1084) (N1 o1596)) (N o828 (N1 o1340) L)) (N o444 (N o700 (N1 o1212) L) (N o956 (N1 o1468) L))) (N o252 (N o380 (N o636 (N1 o1148) L) (N o892 (N1 o1404) L)) (N o508 (N o764 (N1 o1276) L) (N o1020 (N1 o1532) L)))))))
def T4_3 (p : Params) : PySem.W.BT := N o6 (N o10 (N o18 (N o34 (N o66 (N o130 (N o258 (N o514 (N1 o1026) (N1 o1538)) (N o770 (N1 o1282) L)) (N o386 (N o642 (N1 o1154) L) (N o898 (N1 o1410) L))) (N o194 (N o322 (N o578 (N1 o1090) (N1 o1602)) (N o834 (N1 o1346) L)) (N o450 (N o706 (N1 o1218) L) (N o962 (N1 o1474) L)))) (N o98 (N o162 (N o290 (N o546 (N1 o1058) (N1 o1570)) (N o802 (N1 o1314) L)) (N o418 (N o674 (N1 o1186) L) (N o930 (N1 o1442) L))) (N o226 (N o354 (N o610 (N1 o1122) (N1 o1634)) (N o866 (N1 o1378) L)) (N o482 (N o738 (N1 o1250) L) (N o994 (N1 o1506) L))))) (N o50 (N o82 (N o146 (N o274 (N o530 (N1 o1042) (N1 o1554)) (N o786 (N1 o1298) L)) (N o402 (N o658 (N1 o1170) L) (N o914 (N1 o1426) L))) (N o210 (N o338 (N (o594 p) (N1 o1106) (N1 o1618)) (N o850 (N1 o1362) L)) (N o466 (N o722 (N1 o1234) L) (N o978 (N1 o1490) L)))) (N o114 (N o178 (N o306 (N o562 (N1 o1074) (N1 o1586)) (N o818 (N1 o1330) L)) (N o434 (N o690 (N1 o1202) L) (N o946 (N1 o1458) L))) (N o242 (N o370 (N o626 (N1 o1138) (N1 o1650)) (N o882 (N1 o1394) L)) (N o498 (N o754 (N1 o1266) L) (N o1010 (N1 o1522) L)))))) (N o26 (N o42 (N o74 (N o138 (N o266 (N o522 (N1 o1034) (N1 o1546)) (N o778 (N1 o1290) L)) (N o394 (N o650 (N1 o1162) L) (N o906 (N1 o1418) L))) (N o202 (N o330 (N o586 (N1 o1098) (N1 o1610)) (N o842 (N1 o1354) L)) (N o458 (N o714 (N1 o1226) L) (N o970 (N1 o1482) L)))) (N (o106 p) (N o170 (N o298 (N o554 (N1 o1066) (N1 o1578)) (N o810 (N1 o1322) L)) (N o426 (N o682 (N1 o1194) L) (N o938 (N1 o1450) L))) (N o234 (N (o362 p) (N o618 (N1 o1130) (N1 o1642)) (N o874 (N1 o1386) L)) (N o490 (N o746 (N1 o1258) L) (N o1002 (N1 o1514) L))))) (N (o58 p) (N o90 (N o154 (N o282 (N o538 (N1 o1050) (N1 o1562)) (N o794 (N1 o1306) L)) (N o410 (N o666 (N1 o1178) L) (N o922 (N1 o1434) L))) (N o218 (N o346 (N o602 (N1 o1114) (N1 o1626)) (N o858 (N1 o1370) L)) (N o474 (N o730 (N1 o1242) L) (N o986 (N1 o1498) L)))) (N o122 (N o186 (N o314 (N o570 (N1 o1082) (N1 o1594)) (N o826 (N1 o1338) L)) (N o442 (N o698 (N1 o1210) L) (N o954 (N1 o1466) L))) (N o250 (N o378 (N o634 (N1 o1146) (N1 o1658)) (N o890 (N1 o1402) L)) (N o506 (N o762 (N1 o1274) L) (N o1018 (N1 o1530) L))))))) (N o14 (N o22 (N o38 (N o70 (N o134 (N (o262 p) (N o518 (N1 o1030) (N1 o1542)) (N o774 (N1 o1286) L)) (N o390 (N o646 (N1 o1158) L) (N o902 (N1 o1414) L))) (N o198 (N o326 (N o582 (N1 o1094) (N1 o1606)) (N o838 (N1 o1350) L)) (N o454 (N o710 (N1 o1222) L) (N o966 (N1 o1478) L)))) (N o102 (N o166 (N o294 (N o550 (N1 o1062) (N1 o1574)) (N o806 (N1 o1318) L)) (N o422 (N o678 (N1 o1190) L) (N o934 (N1 o1446) L))) (N o230 (N o358 (N (o614 p) (N1 o1126) (N1 o1638)) (N o870 (N1 o1382) L)) (N o486 (N o742 (N1 (o1254 p)) L) (N o998 (N1 o1510) L))))) (N o54 (N o86 (N o150 (N o278 (N o534 (N1 o1046) (N1 o1558)) (N o790 (N1 o1302) L)) (N o406 (N o662 (N1 o1174) L) (N o918 (N1 o1430) L))) (N o214 (N o342 (N o598 (N1 o1110) (N1 o1622)) (N o854 (N1 (o1366 p)) L)) (N (o470 p) (N o726 (N1 o1238) L) (N o982 (N1 o1494) L)))) (N o118 (N o182 (N o310 (N o566 (N1 o1078) (N1 o1590)) (N o822 (N1 o1334) L)) (N o438 (N o694 (N1 o1206) L) (N o950 (N1 o1462) L))) (N o246 (N o374 (N o630 (N1 o1142) (N1 o1654)) (N o886 (N1 o1398) L)) (N o502 (N o758 (N1 o1270) L) (N o1014 (N1 o1526) L)))))) (N (o30 p) (N o46 (N o78 (N o142 (N o270 (N o526 (N1 o1038) (N1 o1550)) (N o782 (N1 o1294) L)) (N o398 (N o654 (N1 o1166) L) (N o910 (N1 o1422) L))) (N o206 (N o334 (N o590 (N1 o1102) (N1 o1614)) (N o846 (N1 o1358) L)) (N o462 (N o718 (N1 o1230) L) (N o974 (N1 o1486) L)))) (N o110 (N (o174 p) (N o302 (N o558 (N1 o1070) (N1 o1582)) (N o814 (N1 o1326) L)) (N o430 (N o686 (N1 o1198) L) (N o942 (N1 o1454) L))) (N o238 (N o366 (N o622 (N1 (o1134 p)) (N1 o1646)) (N o878 (N1 o1390) L)) (N o494 (N o750 (N1 o1262) L) (N o1006 (N1 o1518) L))))) (N o62 (N o94 (N o158 (N o286 (N o542 (N1 o1054) (N1 o1566)) (N o798 (N1 o1310) L)) (N o414 (N o670 (N1 o1182) L) (N o926 (N1 o1438) L))) (N o222 (N o350 (N o606 (N1 o1118) (N1 o1630)) (N o862 (N1 o1374) L)) (N o478 (N o734 (N1 (o1246 p)) L) (N o990 (N1 o1502) L)))) (N o126 (N (o190 p) (N o318 (N o574 (N1 o1086) (N1 o1598)) (N o830 (N1 o1342) L)) (N o446 (N o702 (N1 o1214) L) (N o958 (N1 o1470) L))) (N o254 (N o382 (N o638 (N1 o1150) L) (N o894 (N1 o1406) L)) (N o510 (N o766 (N1 o1278) L) (N o1022 (N1 o1534) L)))))))
def T4 (p : Params) : PySem.W.BT := N (o0 p) (N (o1 p) (T4_0 p) (T4_1 p)) (N (o2_4 p) (T4_2 p) (T4_3 p))
def o3_5 (p : Params) : Obj := ⟨(.type "dict"), none, (.dict #[en p (S "__name__") 165 (.str (S "bindertongue.desks") 2827), en p (S "__doc__") 166 .none, en p (S "__package__") 167 .none, en p (S "__loader__") 168 (.builtin "__main__.__loader__#opaque"), en p (S "__spec__") 169 .none, en p (S "__annotations__") 170 (.ref 6), en p (S "__builtins__") 171 (.ref 4), en p (S "__file__") 173 (.str (S "/claim/cut.py") 172), en p (S "__cached__") 174 .none, en p (S "_wall") 193 (.ref 21), en p (S "BinderError") 215 (.ref 31), en p (S "Barred") 242 (.ref 53), en p (S "InvalidDeed") 269 (.ref 74), en p (S "TooWide") 285 (.ref 86), en p (S "InvalidText") 312 (.ref 107), en p (S "is_whole") 321 (.ref 116), en p (S "is_number") 328 (.ref 123), en p (S "is_string") 335 (.ref 130), en p (S "is_tuple_of") 343 (.ref 137), en p (S "LANGUAGE") 372 (.ref 138), en p (S "LETTERS") 374 (.str (S "abcdefghijklmnopqrstuvwxyz") 373), en p (S "MOST_LETTERS") 376 (.int 6 375), en p (S "HANDED") 378 (.str (S "x") 377), en p (S "PART_WORDS") 382 (.ref 139), en p (S "OPENED_WORDS") 386 (.ref 140), en p (S "NOT_GIVEN") 394 (.ref 141), en p (S "is_name") 400 (.ref 146), en p (S "word_told") 409 (.ref 153), en p (S "Words") 446 (.ref 175), en p (S "ASKS") 454 (.ref 180), en p (S "FREE") 456 (.str (S "free") 455), en p (S "NAME") 458 (.str (S "name") 457), en p (S "UNDER") 460 (.str (S "under") 459), en p (S "standard_pattern") 470 (.ref 187), en p (S "Lookup") 578 (.ref 263), en p (S "ends_in") 588 (.ref 274), en p (S "MOST_MAKERS") 592 (.int 1000 591), en p (S "MOST_DEEP") 594 (.int 50 593), en p (S "maker_of") 602 (.ref 281), en p (S "parts_asked") 613 (.ref 288), en p (S "is_tree_by") 619 (.ref 293), en p (S "branches_of") 631 (.ref 300), en p (S "own_names") 637 (.ref 305), en p (S "free_by") 643 (.ref 310), en p (S "renamed") 657 (.ref 317), en p (S "clear_by") 667 (.ref 324), en p (S "NEW_judgework") 671 (.str (S "new") 670), en p (S "Spot") 721 (.ref 348), en p (S "spot_of") 730 (.ref 359), en p (S "Case") 760 (.ref 374), en p (S "Answers") 851 (.ref 437), en p (S "says_by") 861 (.ref 448), en p (S "NEW_bodywork") 865 (.ref 449), en p (S "translated") 871 (.ref 454), en p (S "Node") 905 (.ref 471), en p (S "root_node") 917 (.ref 482), en p (S "Scope") 949 (.ref 497), en p (S "Walk") 1117 (.ref 595), en p (S "token_for") 1123 (.ref 604), en p (S "reference_at") 1136 (.ref 611), en p (S "Road") 1204 (.ref 654), en p (S "NamedRoad") 1240 (.ref 682), en p (S "next_script") 1248 (.ref 691), en p (S "MOST_ENDS_behindwork") 1252 (.int 40 1251), en p (S "is_handed_by") 1261 (.ref 698), en p (S "word_of") 1268 (.ref 705), en p (S "test_of") 1275 (.ref 712), en p (S "Making") 1319 (.ref 734), en p (S "made_case") 1329 (.ref 745), en p (S "made_cases") 1335 (.ref 750), en p (S "MOST_DEMANDS") 1339 (.int 16 1338), en p (S "is_part_of") 1345 (.ref 755), en p (S "formed") 1351 (.ref 760), en p (S "count_demands") 1357 (.ref 765), en p (S "all_demands") 1363 (.ref 770), en p (S "cuts_of") 1374 (.ref 777), en p (S "lots_of") 1380 (.ref 782), en p (S "MOST_WAYS") 1384 (.int 3000 1383), en p (S "Way") 1426 (.ref 806), en p (S "namings") 1432 (.ref 815), en p (S "names_for") 1438 (.ref 820), en p (S "names_by_place") 1444 (.ref 825), en p (S "demanded") 1450 (.ref 830), en p (S "part_target") 1456 (.ref 835), en p (S "parts_of_way") 1462 (.ref 840), en p (S "demands_of") 1468 (.ref 845), en p (S "joined") 1478 (.ref 852), en p (S "Shop") 1566 (.ref 900), en p (S "MOST_TARGETS") 1570 (.int 150 1569), en p (S "MOST_ROUND") 1572 (.int 3 1571), en p (S "Round") 1660 (.ref 964), en p (S "telling") 1670 (.ref 975), en p (S "is_ever_by") 1678 (.ref 982), en p (S "given_at") 1686 (.ref 987), en p (S "for_a_name") 1692 (.ref 992), en p (S "demanding") 1702 (.ref 999), en p (S "ever_by") 1712 (.ref 1006), en p (S "alike_by") 1724 (.ref 1013), en p (S "right_by") 1732 (.ref 1020), en p (S "keeps_by") 1744 (.ref 1027), en p (S "is_never_in") 1753 (.ref 1034), en p (S "shop_of") 1760 (.ref 1041), en p (S "is_never_by") 1768 (.ref 1048), en p (S "YES_askwork") 1772 (.str (S "yes") 1771), en p (S "NO") 1774 (.str (S "no") 1773), en p (S "WIDE") 1776 (.str (S "wide") 1775), en p (S "told_yes") 1783 (.ref 1055), en p (S "is_ever_so") 1791 (.ref 1062), en p (S "are_alike_so") 1801 (.ref 1069), en p (S "is_right_so") 1809 (.ref 1076), en p (S "does_keep_so") 1819 (.ref 1083), en p (S "is_so") 1827 (.ref 1090), en p (S "answer_by") 1835 (.ref 1097), en p (S "answers_by") 1841 (.ref 1102), en p (S "least_of") 1854 (.ref 1109), en p (S "least_sizes") 1860 (.ref 1114), en p (S "BLANK") 1864 (.str (S " ") 1863), en p (S "ALONE") 1866 (.str (S "[]:") 1865), en p (S "SIGNS") 1869 (.str (S "abcdefghijklmnopqrstuvwxyz []:") 1868), en p (S "FORM") 1871 (.str (S "form") 1870), en p (S "KIND") 1873 (.str (S "kind") 1872), en p (S "words_in") 1885 (.ref 1121), en p (S "row_words") 1891 (.ref 1126), en p (S "has_odd_sign") 1897 (.ref 1131), en p (S "Wrong") 1930 (.ref 1150), en p (S "Known") 1974 (.ref 1177), en p (S "Frame") 2022 (.ref 1212), en p (S "Sight") 2070 (.ref 1247), en p (S "Taking") 2203 (.ref 1352), en p (S "MOST_PLACES") 2207 (.int 3 2206), en p (S "MAKE") 2209 (.str (S "make") 2208), en p (S "GIVEN") 2211 (.str (S "given") 2210), en p (S "JUDGE") 2213 (.str (S "judge") 2212), en p (S "TURNER") 2215 (.str (S "turner") 2214), en p (S "CASE") 2217 (.str (S "case") 2216), en p (S "ELSE") 2219 (.str (S "else") 2218), en p (S "ASK") 2221 (.str (S "ask") 2220), en p (S "ROW_WORDS") 2222 (.ref 1357), en p (S "YES_parsing") 2224 (.str (S "yes") 2223), en p (S "TRUTHS") 2226 (.ref 1358), en p (S "firsts") 2232 (.ref 1363), en p (S "Reading") 2504 (.ref 1570), en p (S "tree_words") 2517 (.ref 1579), en p (S "pieces_of") 2528 (.ref 1586), en p (S "tree_text_by") 2536 (.ref 1593), en p (S "arg_text") 2543 (.ref 1600), en p (S "is_bound") 2550 (.ref 1607), en p (S "expression_text") 2556 (.ref 1612), en p (S "test_text") 2563 (.ref 1619), en p (S "truth_text") 2570 (.ref 1626), en p (S "body_text") 2577 (.ref 1633), en p (S "place_text") 2584 (.ref 1640), en p (S "pattern_text") 2591 (.ref 1647), en p (S "declared_text") 2597 (.ref 1652), en p (S "row_text") 2603 (.ref 1657), en p (S "SIGN") 2607 (.str (S "sign") 2606), en p (S "LATE") 2609 (.str (S "late") 2608), en p (S "MANY") 2611 (.str (S "many") 2610), en p (S "EMPTY") 2613 (.str (S "empty") 2612), en p (S "DECLARING") 2614 (.ref 1658), en p (S "WITH_CASES") 2615 (.ref 1659), en p (S "MOST_OF") 2626 (.ref 1660), en p (S "MOST_ASKS") 2628 (.int 8 2627), en p (S "MOST_ROWS_readwork") 2630 (.int 60 2629), en p (S "MOST_SIGNS") 2632 (.int 2000 2631), en p (S "MOST_ENDS_readwork") 2634 (.int 8 2633), en p (S "MOST_MADE") 2636 (.int 12 2635), en p (S "headed_in") 2642 (.ref 1665), en p (S "known_of") 2648 (.ref 1670), en p (S "count_made") 2654 (.ref 1675), en p (S "expressions_in") 2664 (.ref 1682), en p (S "is_great_body") 2670 (.ref 1687), en p (S "Looking") 2763 (.ref 1754), en p (S "ReadBook") 2794 (.ref 1775), en p (S "rows_of") 2800 (.ref 1784), en p (S "row_read") 2813 (.ref 1791), en p (S "wrong_behind") 2820 (.ref 1798), en p (S "book_read") 2826 (.ref 1803), en p (S "PUT") 2830 (.str (S "put") 2829), en p (S "ROW") 2832 (.str (S "row") 2831), en p (S "OUT") 2834 (.str (S "out") 2833), en p (S "SIZES") 2841 (.ref 1804)] 182), #[]⟩
def o12_5 : Obj := ⟨.none, none, (.fields #[(.int 1 0), (.int 0 0), (.ref 20), (.int 5 0), (.int 0 0), (.ref 27), (.int 7 0), (.int 0 0), (.ref 41), (.int 12 0), (.int 0 0), (.ref 62), (.int 17 0), (.int 0 0), (.ref 82), (.int 19 0), (.int 0 0), (.ref 95), (.int 25 0), (.int 0 0), (.ref 115), (.int 27 0), (.int 0 0), (.ref 122), (.int 29 0), (.int 0 0), (.ref 129), (.int 31 0), (.int 0 0), (.ref 136), (.int 41 0), (.int 0 0), (.ref 145), (.int 45 0), (.int 0 0), (.ref 152), (.int 50 0), (.int 0 0), (.ref 159), (.int 69 0), (.int 0 0), (.ref 186), (.int 74 0), (.int 0 0), (.ref 193), (.int 123 0), (.int 0 0), (.ref 273), (.int 135 0), (.int 0 0), (.ref 280), (.int 141 0), (.int 0 0), (.ref 287), (.int 154 0), (.int 0 0), (.ref 292), (.int 168 0), (.int 0 0), (.ref 299), (.int 176 0), (.int 0 0), (.ref 304), (.int 179 0), (.int 0 0), (.ref 309), (.int 188 0), (.int 0 0), (.ref 316), (.int 199 0), (.int 0 0), (.ref 323), (.int 203 0), (.int 0 0), (.ref 330), (.int 226 0), (.int 0 0), (.ref 358), (.int 228 0), (.int 0 0), (.ref 365), (.int 245 0), (.int 0 0), (.ref 384), (.int 287 0), (.int 0 0), (.ref 447), (.int 291 0), (.int 0 0), (.ref 453), (.int 302 0), (.int 0 0), (.ref 460), (.int 310 0), (.int 0 0), (.ref 481), (.int 320 0), (.int 0 0), (.ref 488), (.int 339 0), (.int 0 0), (.ref 507), (.int 449 0), (.int 0 0), (.ref 603), (.int 452 0), (.int 0 0), (.ref 610), (.int 465 0), (.int 0 0), (.ref 617), (.int 488 0), (.int 0 0), (.ref 664), (.int 496 0), (.int 0 0), (.ref 690), (.int 503 0), (.int 0 0), (.ref 697), (.int 508 0), (.int 0 0), (.ref 704), (.int 518 0), (.int 0 0), (.ref 711), (.int 522 0), (.int 0 0), (.ref 718), (.int 544 0), (.int 0 0), (.ref 744), (.int 547 0), (.int 0 0), (.ref 749), (.int 551 0), (.int 0 0), (.ref 754), (.int 553 0), (.int 0 0), (.ref 759), (.int 556 0), (.int 0 0), (.ref 764), (.int 558 0), (.int 0 0), (.ref 769), (.int 560 0), (.int 0 0), (.ref 776), (.int 569 0), (.int 0 0), (.ref 781), (.int 577 0), (.int 0 0), (.ref 788), (.int 587 0), (.int 0 0), (.ref 814), (.int 593 0), (.int 0 0), (.ref 819), (.int 597 0), (.int 0 0), (.ref 824), (.int 600 0), (.int 0 0), (.ref 829), (.int 602 0), (.int 0 0), (.ref 834), (.int 614 0), (.int 0 0), (.ref 839), (.int 620 0), (.int 0 0), (.ref 844), (.int 627 0), (.int 0 0), (.ref 851), (.int 632 0), (.int 0 0), (.ref 858), (.int 693 0), (.int 0 0), (.ref 910), (.int 756 0), (.int 0 0), (.ref 974), (.int 762 0), (.int 0 0), (.ref 981), (.int 765 0), (.int 0 0), (.ref 986), (.int 767 0), (.int 0 0), (.ref 991), (.int 771 0), (.int 0 0), (.ref 998), (.int 775 0), (.int 0 0), (.ref 1005), (.int 777 0), (.int 0 0), (.ref 1012), (.int 782 0), (.int 0 0), (.ref 1019), (.int 784 0), (.int 0 0), (.ref 1026), (.int 787 0), (.int 0 0), (.ref 1033), (.int 792 0), (.int 0 0), (.ref 1040), (.int 794 0), (.int 0 0), (.ref 1047), (.int 800 0), (.int 0 0), (.ref 1054), (.int 802 0), (.int 0 0), (.ref 1061), (.int 804 0), (.int 0 0), (.ref 1068), (.int 807 0), (.int 0 0), (.ref 1075), (.int 809 0), (.int 0 0), (.ref 1082), (.int 811 0), (.int 0 0), (.ref 1089), (.int 821 0), (.int 0 0), (.ref 1096), (.int 826 0), (.int 0 0), (.ref 1101), (.int 829 0), (.int 0 0), (.ref 1108), (.int 837 0), (.int 0 0), (.ref 1113), (.int 851 0), (.int 0 0), (.ref 1120), (.int 859 0), (.int 0 0), (.ref 1125), (.int 868 0), (.int 0 0), (.ref 1130), (.int 871 0), (.int 0 0), (.ref 1138), (.int 877 0), (.int 0 0), (.ref 1159), (.int 890 0), (.int 0 0), (.ref 1187), (.int 903 0), (.int 0 0), (.ref 1222), (.int 916 0), (.int 0 0), (.ref 1257), (.int 997 0), (.int 0 0), (.ref 1362), (.int 999 0), (.int 0 0), (.ref 1369), (.int 1212 0), (.int 0 0), (.ref 1578), (.int 1222 0), (.int 0 0), (.ref 1585), (.int 1227 0), (.int 0 0), (.ref 1592), (.int 1229 0), (.int 0 0), (.ref 1599), (.int 1233 0), (.int 0 0), (.ref 1606), (.int 1235 0), (.int 0 0), (.ref 1611), (.int 1241 0), (.int 0 0), (.ref 1618), (.int 1245 0), (.int 0 0), (.ref 1625), (.int 1247 0), (.int 0 0), (.ref 1632), (.int 1253 0), (.int 0 0), (.ref 1639), (.int 1257 0), (.int 0 0), (.ref 1646), (.int 1259 0), (.int 0 0), (.ref 1651), (.int 1267 0), (.int 0 0), (.ref 1656), (.int 1290 0), (.int 0 0), (.ref 1664), (.int 1297 0), (.int 0 0), (.ref 1669), (.int 1304 0), (.int 0 0), (.ref 1674), (.int 1312 0), (.int 0 0), (.ref 1681), (.int 1321 0), (.int 0 0), (.ref 1686), (.int 1325 0), (.int 0 0), (.ref 1693), (.int 1392 0), (.int 0 0), (.ref 1764), (.int 1397 0), (.int 0 0), (.ref 1783), (.int 1401 0), (.int 0 0), (.ref 1790), (.int 1415 0), (.int 0 0), (.ref 1797), (.int 1419 0), (.int 0 0), (.ref 1802)]), #[]⟩
def o1660 (p : Params) : Obj := ⟨(.type "dict"), none, (.dict #[en p (S "kind") 1872 (.int 3 2616), en p (S "make") 2208 (.int 6 2617), en p (S "given") 2210 (.int 2 2618), en p (S "judge") 2212 (.int 8 2619), en p (S "turner") 2214 (.int 4 2620)] 5), #[]⟩
def o1661 : Obj := ⟨(.type "tuple"), none, (.seq #[] 0), #[]⟩
def o1662 : Obj := ⟨.none, none, (.fields #[]), #[]⟩
def o1663 : Obj := ⟨.none, none, (fD (top 177) (S "headed_in") (S "headed_in") 0 [] .none .none .none .none none .none .none 0), #[]⟩
def o1664 : Obj := ⟨(.type "code"), none, (.fields #[(.str (S "headed_in") 2637), (.str (S "headed_in") 2638), (.str (S "/claim/cut.py") 2639), (.int 1290 0), (.int 1 0), (.int 0 0), (.int 0 0), (.int 3 0), (.ref 1661), (.bool true), (.int 181 0), (.ref 1662), .none, .none, .none, (.ref 1663), (.int 2640 0), (.int 1290 0), (.str (S "/claim/cut.py") 2641)]), #[]⟩
def o1665 : Obj := ⟨(.type "function"), none, (fD (top 177) (S "headed_in") (S "headed_in") 3 [] .none .none .none (.str (S "bindertongue.readwork") 2604) none (.ref 1664) .none 0), #[]⟩
def o1666 : Obj := ⟨(.type "tuple"), none, (.seq #[] 0), #[]⟩
def o1667 : Obj := ⟨.none, none, (.fields #[]), #[]⟩
def o1668 : Obj := ⟨.none, none, (fD (top 178) (S "known_of") (S "known_of") 0 [] .none .none .none .none none .none .none 0), #[]⟩
def o1669 : Obj := ⟨(.type "code"), none, (.fields #[(.str (S "known_of") 2643), (.str (S "known_of") 2644), (.str (S "/claim/cut.py") 2645), (.int 1297 0), (.int 1 0), (.int 0 0), (.int 0 0), (.int 3 0), (.ref 1666), (.bool true), (.int 181 0), (.ref 1667), .none, .none, .none, (.ref 1668), (.int 2646 0), (.int 1297 0), (.str (S "/claim/cut.py") 2647)]), #[]⟩
def o1670 : Obj := ⟨(.type "function"), none, (fD (top 178) (S "known_of") (S "known_of") 3 [] .none .none .none (.str (S "bindertongue.readwork") 2604) none (.ref 1669) .none 0), #[]⟩
def o1671 : Obj := ⟨(.type "tuple"), none, (.seq #[] 0), #[]⟩
def o1672 : Obj := ⟨.none, none, (.fields #[]), #[]⟩
def o1673 : Obj := ⟨.none, none, (fD (top 179) (S "count_made") (S "count_made") 0 [] .none .none .none .none none .none .none 0), #[]⟩
def o1674 : Obj := ⟨(.type "code"), none, (.fields #[(.str (S "count_made") 2649), (.str (S "count_made") 2650), (.str (S "/claim/cut.py") 2651), (.int 1304 0), (.int 1 0), (.int 0 0), (.int 0 0), (.int 3 0), (.ref 1671), (.bool true), (.int 181 0), (.ref 1672), .none, .none, .none, (.ref 1673), (.int 2652 0), (.int 1304 0), (.str (S "/claim/cut.py") 2653)]), #[]⟩
def o1675 : Obj := ⟨(.type "function"), none, (fD (top 179) (S "count_made") (S "count_made") 3 [] .none .none .none (.str (S "bindertongue.readwork") 2604) none (.ref 1674) .none 0), #[]⟩
def o1676 : Obj := ⟨(.type "tuple"), none, (.seq #[] 0), #[]⟩
def o1677 : Obj := ⟨.none, none, (.fields #[]), #[]⟩
def o1678 : Obj := ⟨(.type "tuple"), none, (.seq #[(.str (S "body") 2658), (.str (S "line") 2659), (.str (S "found") 2660), (.str (S "own") 2661)] 0), #[]⟩
def o1679 : Obj := ⟨(.type "tuple"), none, (.seq #[] 0), #[]⟩
def o1680 : Obj := ⟨.none, none, (fD (top 180) (S "expressions_in") (S "expressions_in") 0 [] .none .none .none .none none .none .none 0), #[]⟩
def o1681 : Obj := ⟨(.type "code"), none, (.fields #[(.str (S "expressions_in") 2655), (.str (S "expressions_in") 2656), (.str (S "/claim/cut.py") 2657), (.int 1312 0), (.int 1 0), (.int 0 0), (.int 0 0), (.int 3 0), (.ref 1676), (.bool true), (.int 181 0), (.ref 1677), .none, (.ref 1678), (.ref 1679), (.ref 1680), (.int 2662 0), (.int 1312 0), (.str (S "/claim/cut.py") 2663)]), #[]⟩
def o1682 : Obj := ⟨(.type "function"), none, (fD (top 180) (S "expressions_in") (S "expressions_in") 3 [] .none .none .none (.str (S "bindertongue.readwork") 2604) none (.ref 1681) .none 0), #[]⟩
def o1683 : Obj := ⟨(.type "tuple"), none, (.seq #[] 0), #[]⟩
def o1684 : Obj := ⟨.none, none, (.fields #[]), #[]⟩
def o1685 : Obj := ⟨.none, none, (fD (top 181) (S "is_great_body") (S "is_great_body") 0 [] .none .none .none .none none .none .none 0), #[]⟩
def o1686 : Obj := ⟨(.type "code"), none, (.fields #[(.str (S "is_great_body") 2665), (.str (S "is_great_body") 2666), (.str (S "/claim/cut.py") 2667), (.int 1321 0), (.int 1 0), (.int 0 0), (.int 0 0), (.int 3 0), (.ref 1683), (.bool true), (.int 181 0), (.ref 1684), .none, .none, .none, (.ref 1685), (.int 2668 0), (.int 1321 0), (.str (S "/claim/cut.py") 2669)]), #[]⟩
def o1687 : Obj := ⟨(.type "function"), none, (fD (top 181) (S "is_great_body") (S "is_great_body") 3 [] .none .none .none (.str (S "bindertongue.readwork") 2604) none (.ref 1686) .none 0), #[]⟩
def o1688 : Obj := ⟨(.type "tuple"), none, (.seq #[] 0), #[]⟩
def o1689 : Obj := ⟨(.type "builtin_function_or_method"), none, (.fields #[(.builtin "type.__prepare__"), (.type "type")]), #[]⟩
def o1690 (p : Params) : Obj := ⟨(.type "dict"), none, (.dict #[en p (S "__module__") 2678 (.str (S "bindertongue.readwork") 2604), en p (S "__qualname__") 2680 (.str (S "Looking") 2679), en p (S "__firstlineno__") 2682 (.int 1325 2681), en p (S "__init__") 2690 (.ref 1701), en p (S "left") 2696 (.ref 1706), en p (S "has_odd_case") 2704 (.ref 1713), en p (S "is_late") 2710 (.ref 1718), en p (S "is_many") 2719 (.ref 1725), en p (S "many_of") 2725 (.ref 1730), en p (S "wrong_in") 2734 (.ref 1737), en p (S "add") 2743 (.ref 1744), en p (S "add_case") 2751 (.ref 1751), en p (S "__static_attributes__") 2756 (.ref 1752)] 13), #[]⟩
def o1691 : Obj := ⟨(.type "tuple"), none, (.seq #[] 0), #[]⟩
def o1692 : Obj := ⟨.none, none, (.fields #[(.int 1327 0), (.int 4 0), (.ref 1700), (.int 1333 0), (.int 4 0), (.ref 1705), (.int 1340 0), (.int 4 0), (.ref 1712), (.int 1349 0), (.int 4 0), (.ref 1717), (.int 1352 0), (.int 4 0), (.ref 1724), (.int 1361 0), (.int 4 0), (.ref 1729), (.int 1364 0), (.int 4 0), (.ref 1736), (.int 1371 0), (.int 4 0), (.ref 1743), (.int 1385 0), (.int 4 0), (.ref 1750)]), #[]⟩
def o1693 : Obj := ⟨(.type "code"), none, (.fields #[(.str (S "Looking") 2673), (.str (S "Looking") 2674), (.str (S "/claim/cut.py") 2675), (.int 1325 0), (.int 0 0), (.int 0 0), (.int 0 0), (.int 0 0), (.ref 1691), (.bool false), (.int 181 0), (.ref 1692), .none, .none, .none, .none, (.int 2676 0), (.int 1325 0), (.str (S "/claim/cut.py") 2677)]), #[]⟩
def o1694 : Obj := ⟨(.type "frame"), none, .plain, #[(some (.ref 1693)), (some (.ref 3)), (some (.ref 1690)), none, (some (.str (S "bindertongue.readwork") 2604)), none, (some (.ref 0))]⟩
def o1695 : Obj := ⟨(.type "tuple"), none, (.seq #[] 0), #[]⟩
def o1696 : Obj := ⟨.none, none, (.fields #[]), #[]⟩
def o1697 : Obj := ⟨(.type "tuple"), none, (.seq #[(.str (S "self") 2686), (.str (S "known") 2687)] 0), #[]⟩
def o1698 : Obj := ⟨(.type "tuple"), none, (.seq #[] 0), #[]⟩
def o1699 : Obj := ⟨.none, none, (fD (inC 182 0) (S "__init__") (S "Looking.__init__") 0 [] .none .none .none .none none .none .none 0), #[]⟩
def o1700 : Obj := ⟨(.type "code"), none, (.fields #[(.str (S "__init__") 2683), (.str (S "Looking.__init__") 2684), (.str (S "/claim/cut.py") 2685), (.int 1327 0), (.int 2 0), (.int 0 0), (.int 0 0), (.int 3 0), (.ref 1695), (.bool true), (.int 181 0), (.ref 1696), .none, (.ref 1697), (.ref 1698), (.ref 1699), (.int 2688 0), (.int 1327 0), (.str (S "/claim/cut.py") 2689)]), #[]⟩
def o1701 : Obj := ⟨(.type "function"), none, (fD (inC 182 0) (S "__init__") (S "Looking.__init__") 3 [] .none .none .none (.str (S "bindertongue.readwork") 2604) none (.ref 1700) .none 0), #[]⟩
def o1702 : Obj := ⟨(.type "tuple"), none, (.seq #[] 0), #[]⟩
def o1703 : Obj := ⟨.none, none, (.fields #[]), #[]⟩
def o1704 : Obj := ⟨.none, none, (fD (inC 182 1) (S "left") (S "Looking.left") 0 [] .none .none .none .none none .none .none 0), #[]⟩
def o1705 : Obj := ⟨(.type "code"), none, (.fields #[(.str (S "left") 2691), (.str (S "Looking.left") 2692), (.str (S "/claim/cut.py") 2693), (.int 1333 0), (.int 1 0), (.int 0 0), (.int 0 0), (.int 3 0), (.ref 1702), (.bool true), (.int 181 0), (.ref 1703), .none, .none, .none, (.ref 1704), (.int 2694 0), (.int 1333 0), (.str (S "/claim/cut.py") 2695)]), #[]⟩
def o1706 : Obj := ⟨(.type "function"), none, (fD (inC 182 1) (S "left") (S "Looking.left") 3 [] .none .none .none (.str (S "bindertongue.readwork") 2604) none (.ref 1705) .none 0), #[]⟩
def o1707 : Obj := ⟨(.type "tuple"), none, (.seq #[] 0), #[]⟩
def o1708 : Obj := ⟨.none, none, (.fields #[]), #[]⟩
def o1709 : Obj := ⟨(.type "tuple"), none, (.seq #[(.str (S "self") 2700), (.str (S "row") 2701)] 0), #[]⟩
def o1710 : Obj := ⟨(.type "tuple"), none, (.seq #[] 0), #[]⟩
def o1711 : Obj := ⟨.none, none, (fD (inC 182 2) (S "has_odd_case") (S "Looking.has_odd_case") 0 [] .none .none .none .none none .none .none 0), #[]⟩
def o1712 : Obj := ⟨(.type "code"), none, (.fields #[(.str (S "has_odd_case") 2697), (.str (S "Looking.has_odd_case") 2698), (.str (S "/claim/cut.py") 2699), (.int 1340 0), (.int 2 0), (.int 0 0), (.int 0 0), (.int 3 0), (.ref 1707), (.bool true), (.int 181 0), (.ref 1708), .none, (.ref 1709), (.ref 1710), (.ref 1711), (.int 2702 0), (.int 1340 0), (.str (S "/claim/cut.py") 2703)]), #[]⟩
def o1713 : Obj := ⟨(.type "function"), none, (fD (inC 182 2) (S "has_odd_case") (S "Looking.has_odd_case") 3 [] .none .none .none (.str (S "bindertongue.readwork") 2604) none (.ref 1712) .none 0), #[]⟩
def o1714 : Obj := ⟨(.type "tuple"), none, (.seq #[] 0), #[]⟩
def o1715 : Obj := ⟨.none, none, (.fields #[]), #[]⟩
def o1716 : Obj := ⟨.none, none, (fD (inC 182 3) (S "is_late") (S "Looking.is_late") 0 [] .none .none .none .none none .none .none 0), #[]⟩
def o1717 : Obj := ⟨(.type "code"), none, (.fields #[(.str (S "is_late") 2705), (.str (S "Looking.is_late") 2706), (.str (S "/claim/cut.py") 2707), (.int 1349 0), (.int 2 0), (.int 0 0), (.int 0 0), (.int 3 0), (.ref 1714), (.bool true), (.int 181 0), (.ref 1715), .none, .none, .none, (.ref 1716), (.int 2708 0), (.int 1349 0), (.str (S "/claim/cut.py") 2709)]), #[]⟩
def o1718 : Obj := ⟨(.type "function"), none, (fD (inC 182 3) (S "is_late") (S "Looking.is_late") 3 [] .none .none .none (.str (S "bindertongue.readwork") 2604) none (.ref 1717) .none 0), #[]⟩
def o1719 : Obj := ⟨(.type "tuple"), none, (.seq #[] 0), #[]⟩
def o1720 : Obj := ⟨.none, none, (.fields #[]), #[]⟩
def o1721 : Obj := ⟨(.type "tuple"), none, (.seq #[(.str (S "self") 2714), (.str (S "text") 2715), (.str (S "row") 2716)] 0), #[]⟩
def o1722 : Obj := ⟨(.type "tuple"), none, (.seq #[] 0), #[]⟩
def o1723 : Obj := ⟨.none, none, (fD (inC 182 4) (S "is_many") (S "Looking.is_many") 0 [] .none .none .none .none none .none .none 0), #[]⟩
def o1724 : Obj := ⟨(.type "code"), none, (.fields #[(.str (S "is_many") 2711), (.str (S "Looking.is_many") 2712), (.str (S "/claim/cut.py") 2713), (.int 1352 0), (.int 3 0), (.int 0 0), (.int 0 0), (.int 3 0), (.ref 1719), (.bool true), (.int 181 0), (.ref 1720), .none, (.ref 1721), (.ref 1722), (.ref 1723), (.int 2717 0), (.int 1352 0), (.str (S "/claim/cut.py") 2718)]), #[]⟩
def o1725 : Obj := ⟨(.type "function"), none, (fD (inC 182 4) (S "is_many") (S "Looking.is_many") 3 [] .none .none .none (.str (S "bindertongue.readwork") 2604) none (.ref 1724) .none 0), #[]⟩
def o1726 : Obj := ⟨(.type "tuple"), none, (.seq #[] 0), #[]⟩
def o1727 : Obj := ⟨.none, none, (.fields #[]), #[]⟩
def o1728 : Obj := ⟨.none, none, (fD (inC 182 5) (S "many_of") (S "Looking.many_of") 0 [] .none .none .none .none none .none .none 0), #[]⟩
def o1729 : Obj := ⟨(.type "code"), none, (.fields #[(.str (S "many_of") 2720), (.str (S "Looking.many_of") 2721), (.str (S "/claim/cut.py") 2722), (.int 1361 0), (.int 2 0), (.int 0 0), (.int 0 0), (.int 3 0), (.ref 1726), (.bool true), (.int 181 0), (.ref 1727), .none, .none, .none, (.ref 1728), (.int 2723 0), (.int 1361 0), (.str (S "/claim/cut.py") 2724)]), #[]⟩
def o1730 : Obj := ⟨(.type "function"), none, (fD (inC 182 5) (S "many_of") (S "Looking.many_of") 3 [] .none .none .none (.str (S "bindertongue.readwork") 2604) none (.ref 1729) .none 0), #[]⟩
def o1731 : Obj := ⟨(.type "tuple"), none, (.seq #[] 0), #[]⟩
def o1732 : Obj := ⟨.none, none, (.fields #[]), #[]⟩
def o1733 : Obj := ⟨(.type "tuple"), none, (.seq #[(.str (S "self") 2729), (.str (S "text") 2730), (.str (S "row") 2731)] 0), #[]⟩
def o1734 : Obj := ⟨(.type "tuple"), none, (.seq #[] 0), #[]⟩
def o1735 : Obj := ⟨.none, none, (fD (inC 182 6) (S "wrong_in") (S "Looking.wrong_in") 0 [] .none .none .none .none none .none .none 0), #[]⟩
def o1736 : Obj := ⟨(.type "code"), none, (.fields #[(.str (S "wrong_in") 2726), (.str (S "Looking.wrong_in") 2727), (.str (S "/claim/cut.py") 2728), (.int 1364 0), (.int 3 0), (.int 0 0), (.int 0 0), (.int 3 0), (.ref 1731), (.bool true), (.int 181 0), (.ref 1732), .none, (.ref 1733), (.ref 1734), (.ref 1735), (.int 2732 0), (.int 1364 0), (.str (S "/claim/cut.py") 2733)]), #[]⟩
def o1737 : Obj := ⟨(.type "function"), none, (fD (inC 182 6) (S "wrong_in") (S "Looking.wrong_in") 3 [] .none .none .none (.str (S "bindertongue.readwork") 2604) none (.ref 1736) .none 0), #[]⟩
def o1738 : Obj := ⟨(.type "tuple"), none, (.seq #[] 0), #[]⟩
def o1739 : Obj := ⟨.none, none, (.fields #[]), #[]⟩
def o1740 : Obj := ⟨(.type "tuple"), none, (.seq #[(.str (S "self") 2738), (.str (S "row") 2739), (.str (S "known") 2740)] 0), #[]⟩
def o1741 : Obj := ⟨(.type "tuple"), none, (.seq #[] 0), #[]⟩
def o1742 : Obj := ⟨.none, none, (fD (inC 182 7) (S "add") (S "Looking.add") 0 [] .none .none .none .none none .none .none 0), #[]⟩
def o1743 : Obj := ⟨(.type "code"), none, (.fields #[(.str (S "add") 2735), (.str (S "Looking.add") 2736), (.str (S "/claim/cut.py") 2737), (.int 1371 0), (.int 2 0), (.int 0 0), (.int 0 0), (.int 3 0), (.ref 1738), (.bool true), (.int 181 0), (.ref 1739), .none, (.ref 1740), (.ref 1741), (.ref 1742), (.int 2741 0), (.int 1371 0), (.str (S "/claim/cut.py") 2742)]), #[]⟩
def o1744 : Obj := ⟨(.type "function"), none, (fD (inC 182 7) (S "add") (S "Looking.add") 3 [] .none .none .none (.str (S "bindertongue.readwork") 2604) none (.ref 1743) .none 0), #[]⟩
def o1745 : Obj := ⟨(.type "tuple"), none, (.seq #[] 0), #[]⟩
def o1746 : Obj := ⟨.none, none, (.fields #[]), #[]⟩
def o1747 : Obj := ⟨(.type "tuple"), none, (.seq #[(.str (S "self") 2747), (.str (S "row") 2748)] 0), #[]⟩
def o1748 : Obj := ⟨(.type "tuple"), none, (.seq #[] 0), #[]⟩
def o1749 : Obj := ⟨.none, none, (fD (inC 182 8) (S "add_case") (S "Looking.add_case") 0 [] .none .none .none .none none .none .none 0), #[]⟩
def o1750 : Obj := ⟨(.type "code"), none, (.fields #[(.str (S "add_case") 2744), (.str (S "Looking.add_case") 2745), (.str (S "/claim/cut.py") 2746), (.int 1385 0), (.int 2 0), (.int 0 0), (.int 0 0), (.int 3 0), (.ref 1745), (.bool true), (.int 181 0), (.ref 1746), .none, (.ref 1747), (.ref 1748), (.ref 1749), (.int 2749 0), (.int 1385 0), (.str (S "/claim/cut.py") 2750)]), #[]⟩
def o1751 : Obj := ⟨(.type "function"), none, (fD (inC 182 8) (S "add_case") (S "Looking.add_case") 3 [] .none .none .none (.str (S "bindertongue.readwork") 2604) none (.ref 1750) .none 0), #[]⟩
def o1752 : Obj := ⟨(.type "tuple"), none, (.seq #[(.str (S "done") 2752), (.str (S "known") 2753), (.str (S "last") 2754), (.str (S "rows") 2755)] 0), #[]⟩
def o1753 (p : Params) : Obj := ⟨(.type "dict"), none, (.dict #[en p (S "__module__") 2678 (.str (S "bindertongue.readwork") 2604), en p (S "__firstlineno__") 2682 (.int 1325 2681), en p (S "__init__") 2690 (.ref 1701), en p (S "left") 2696 (.ref 1706), en p (S "has_odd_case") 2704 (.ref 1713), en p (S "is_late") 2710 (.ref 1718), en p (S "is_many") 2719 (.ref 1725), en p (S "many_of") 2725 (.ref 1730), en p (S "wrong_in") 2734 (.ref 1737), en p (S "add") 2743 (.ref 1744), en p (S "add_case") 2751 (.ref 1751), en p (S "__static_attributes__") 2756 (.ref 1752), en p (S "__dict__") 2758 (.ref 1755), en p (S "__weakref__") 2760 (.ref 1756), en p (S "__doc__") 2761 .none] 4), #[]⟩
def o1754 : Obj := ⟨(.type "type"), none, (.cls ⟨(S "Looking"), [(.type "object")], [(.ref 1754), (.type "object")], 1753, (S "Looking"), true, [], [], false, none, false⟩), #[none, none, (some (.str (S "Looking") 2671)), (some (.str (S "Looking") 2679)), (some (.builtin "object.__new__")), (some (.bool true))]⟩
def o1755 : Obj := ⟨(.type "getset_descriptor"), none, (.fields #[(.str (S "__dict__") 2757), (.ref 1754), (.builtin "function.__dict__"), (.builtin "function.__dict__#set")]), #[]⟩
def o1756 : Obj := ⟨(.type "getset_descriptor"), none, (.fields #[(.str (S "__weakref__") 2759), (.ref 1754), (.builtin "ExceptionGroup.__weakref__"), .none]), #[]⟩
def o1757 : Obj := ⟨(.type "super"), none, (.fields #[(.ref 1754), (.ref 1754), (.ref 1754)]), #[]⟩
def o1758 : Obj := ⟨(.type "builtin_function_or_method"), none, (.fields #[(.builtin "object.__init_subclass__"), (.ref 1754)]), #[]⟩
def o1759 : Obj := ⟨(.type "tuple"), none, (.seq #[] 0), #[]⟩
def o1760 : Obj := ⟨(.type "builtin_function_or_method"), none, (.fields #[(.builtin "type.__prepare__"), (.type "type")]), #[]⟩
def o1761 (p : Params) : Obj := ⟨(.type "dict"), none, (.dict #[en p (S "__module__") 2771 (.str (S "bindertongue.readwork") 2604), en p (S "__qualname__") 2773 (.str (S "ReadBook") 2772), en p (S "__firstlineno__") 2775 (.int 1392 2774), en p (S "__init__") 2784 (.ref 1772), en p (S "__static_attributes__") 2787 (.ref 1773)] 5), #[]⟩
def o1762 : Obj := ⟨(.type "tuple"), none, (.seq #[] 0), #[]⟩
def o1763 : Obj := ⟨.none, none, (.fields #[(.int 1394 0), (.int 4 0), (.ref 1771)]), #[]⟩
def o1764 : Obj := ⟨(.type "code"), none, (.fields #[(.str (S "ReadBook") 2766), (.str (S "ReadBook") 2767), (.str (S "/claim/cut.py") 2768), (.int 1392 0), (.int 0 0), (.int 0 0), (.int 0 0), (.int 0 0), (.ref 1762), (.bool false), (.int 181 0), (.ref 1763), .none, .none, .none, .none, (.int 2769 0), (.int 1392 0), (.str (S "/claim/cut.py") 2770)]), #[]⟩
def o1765 : Obj := ⟨(.type "frame"), none, .plain, #[(some (.ref 1764)), (some (.ref 3)), (some (.ref 1761)), none, (some (.str (S "bindertongue.readwork") 2604)), none, (some (.ref 0))]⟩
def o1766 : Obj := ⟨(.type "tuple"), none, (.seq #[] 0), #[]⟩
def o1767 : Obj := ⟨.none, none, (.fields #[]), #[]⟩
def o1768 : Obj := ⟨(.type "tuple"), none, (.seq #[(.str (S "self") 2779), (.str (S "fault") 2780), (.str (S "rows") 2781)] 0), #[]⟩
def o1769 : Obj := ⟨(.type "tuple"), none, (.seq #[] 0), #[]⟩
def o1770 : Obj := ⟨.none, none, (fD (inC 183 0) (S "__init__") (S "ReadBook.__init__") 0 [] .none .none .none .none none .none .none 0), #[]⟩
def o1771 : Obj := ⟨(.type "code"), none, (.fields #[(.str (S "__init__") 2776), (.str (S "ReadBook.__init__") 2777), (.str (S "/claim/cut.py") 2778), (.int 1394 0), (.int 3 0), (.int 0 0), (.int 0 0), (.int 3 0), (.ref 1766), (.bool true), (.int 181 0), (.ref 1767), .none, (.ref 1768), (.ref 1769), (.ref 1770), (.int 2782 0), (.int 1394 0), (.str (S "/claim/cut.py") 2783)]), #[]⟩
def o1772 : Obj := ⟨(.type "function"), none, (fD (inC 183 0) (S "__init__") (S "ReadBook.__init__") 3 [] .none .none .none (.str (S "bindertongue.readwork") 2604) none (.ref 1771) .none 0), #[]⟩
def o1773 : Obj := ⟨(.type "tuple"), none, (.seq #[(.str (S "fault") 2785), (.str (S "rows") 2786)] 0), #[]⟩
def o1774 (p : Params) : Obj := ⟨(.type "dict"), none, (.dict #[en p (S "__module__") 2771 (.str (S "bindertongue.readwork") 2604), en p (S "__firstlineno__") 2775 (.int 1392 2774), en p (S "__init__") 2784 (.ref 1772), en p (S "__static_attributes__") 2787 (.ref 1773), en p (S "__dict__") 2789 (.ref 1776), en p (S "__weakref__") 2791 (.ref 1777), en p (S "__doc__") 2792 .none] 4), #[]⟩
def o1775 : Obj := ⟨(.type "type"), none, (.cls ⟨(S "ReadBook"), [(.type "object")], [(.ref 1775), (.type "object")], 1774, (S "ReadBook"), true, [], [], false, none, false⟩), #[none, none, (some (.str (S "ReadBook") 2764)), (some (.str (S "ReadBook") 2772)), (some (.builtin "object.__new__")), (some (.bool true))]⟩
def o1776 : Obj := ⟨(.type "getset_descriptor"), none, (.fields #[(.str (S "__dict__") 2788), (.ref 1775), (.builtin "function.__dict__"), (.builtin "function.__dict__#set")]), #[]⟩
def o1777 : Obj := ⟨(.type "getset_descriptor"), none, (.fields #[(.str (S "__weakref__") 2790), (.ref 1775), (.builtin "ExceptionGroup.__weakref__"), .none]), #[]⟩
def o1778 : Obj := ⟨(.type "super"), none, (.fields #[(.ref 1775), (.ref 1775), (.ref 1775)]), #[]⟩
def o1779 : Obj := ⟨(.type "builtin_function_or_method"), none, (.fields #[(.builtin "object.__init_subclass__"), (.ref 1775)]), #[]⟩
def o1780 : Obj := ⟨(.type "tuple"), none, (.seq #[] 0), #[]⟩
def o1781 : Obj := ⟨.none, none, (.fields #[]), #[]⟩
def o1782 : Obj := ⟨.none, none, (fD (top 184) (S "rows_of") (S "rows_of") 0 [] .none .none .none .none none .none .none 0), #[]⟩
def o1783 : Obj := ⟨(.type "code"), none, (.fields #[(.str (S "rows_of") 2795), (.str (S "rows_of") 2796), (.str (S "/claim/cut.py") 2797), (.int 1397 0), (.int 1 0), (.int 0 0), (.int 0 0), (.int 3 0), (.ref 1780), (.bool true), (.int 181 0), (.ref 1781), .none, .none, .none, (.ref 1782), (.int 2798 0), (.int 1397 0), (.str (S "/claim/cut.py") 2799)]), #[]⟩
def o1784 : Obj := ⟨(.type "function"), none, (fD (top 184) (S "rows_of") (S "rows_of") 3 [] .none .none .none (.str (S "bindertongue.readwork") 2604) none (.ref 1783) .none 0), #[]⟩
def o1785 : Obj := ⟨(.type "tuple"), none, (.seq #[] 0), #[]⟩
def o1786 : Obj := ⟨.none, none, (.fields #[]), #[]⟩
def o1787 : Obj := ⟨(.type "tuple"), none, (.seq #[(.str (S "text") 2804), (.str (S "is_ended") 2805), (.str (S "looking") 2806), (.str (S "odd") 2807), (.str (S "reading") 2808), (.str (S "row") 2809), (.str (S "word") 2810)] 0), #[]⟩
def o1788 : Obj := ⟨(.type "tuple"), none, (.seq #[] 0), #[]⟩
def o1789 : Obj := ⟨.none, none, (fD (top 185) (S "row_read") (S "row_read") 0 [] .none .none .none .none none .none .none 0), #[]⟩
def o1790 : Obj := ⟨(.type "code"), none, (.fields #[(.str (S "row_read") 2801), (.str (S "row_read") 2802), (.str (S "/claim/cut.py") 2803), (.int 1401 0), (.int 3 0), (.int 0 0), (.int 0 0), (.int 3 0), (.ref 1785), (.bool true), (.int 181 0), (.ref 1786), .none, (.ref 1787), (.ref 1788), (.ref 1789), (.int 2811 0), (.int 1401 0), (.str (S "/claim/cut.py") 2812)]), #[]⟩
def o1791 : Obj := ⟨(.type "function"), none, (fD (top 185) (S "row_read") (S "row_read") 3 [] .none .none .none (.str (S "bindertongue.readwork") 2604) none (.ref 1790) .none 0), #[]⟩
def o1792 : Obj := ⟨(.type "tuple"), none, (.seq #[] 0), #[]⟩
def o1793 : Obj := ⟨.none, none, (.fields #[]), #[]⟩
def o1794 : Obj := ⟨(.type "tuple"), none, (.seq #[(.str (S "looking") 2817)] 0), #[]⟩
def o1795 : Obj := ⟨(.type "tuple"), none, (.seq #[] 0), #[]⟩
def o1796 : Obj := ⟨.none, none, (fD (top 186) (S "wrong_behind") (S "wrong_behind") 0 [] .none .none .none .none none .none .none 0), #[]⟩
def o1797 : Obj := ⟨(.type "code"), none, (.fields #[(.str (S "wrong_behind") 2814), (.str (S "wrong_behind") 2815), (.str (S "/claim/cut.py") 2816), (.int 1415 0), (.int 1 0), (.int 0 0), (.int 0 0), (.int 3 0), (.ref 1792), (.bool true), (.int 181 0), (.ref 1793), .none, (.ref 1794), (.ref 1795), (.ref 1796), (.int 2818 0), (.int 1415 0), (.str (S "/claim/cut.py") 2819)]), #[]⟩
def o1798 : Obj := ⟨(.type "function"), none, (fD (top 186) (S "wrong_behind") (S "wrong_behind") 3 [] .none .none .none (.str (S "bindertongue.readwork") 2604) none (.ref 1797) .none 0), #[]⟩
def o1799 : Obj := ⟨(.type "tuple"), none, (.seq #[] 0), #[]⟩
def o1800 : Obj := ⟨.none, none, (.fields #[]), #[]⟩
def o1801 : Obj := ⟨.none, none, (fD (top 187) (S "book_read") (S "book_read") 0 [] .none .none .none .none none .none .none 0), #[]⟩
def o1802 : Obj := ⟨(.type "code"), none, (.fields #[(.str (S "book_read") 2821), (.str (S "book_read") 2822), (.str (S "/claim/cut.py") 2823), (.int 1419 0), (.int 1 0), (.int 0 0), (.int 0 0), (.int 3 0), (.ref 1799), (.bool true), (.int 181 0), (.ref 1800), .none, .none, .none, (.ref 1801), (.int 2824 0), (.int 1419 0), (.str (S "/claim/cut.py") 2825)]), #[]⟩
def o1803 : Obj := ⟨(.type "function"), none, (fD (top 187) (S "book_read") (S "book_read") 3 [] .none .none .none (.str (S "bindertongue.readwork") 2604) none (.ref 1802) .none 0), #[]⟩
def o1804 (p : Params) : Obj := ⟨(.type "dict"), none, (.dict #[en p (S "put") 2829 (.int 3 2835), en p (S "row") 2831 (.int 3 2836), en p (S "out") 2833 (.int 2 2837)] 3), #[]⟩
def T5_0 (p : Params) : PySem.W.BT := N (o3_5 p) (N o7 (N o15 (N o31 (N o63 (N o127 (N o255 (N o511 (N1 o1023) (N1 o1535)) (N o767 (N1 o1279) (N1 o1791))) (N o383 (N o639 (N1 o1151) (N1 o1663)) (N o895 (N1 o1407) L))) (N o191 (N o319 (N o575 (N1 o1087) (N1 o1599)) (N o831 (N1 o1343) L)) (N o447 (N o703 (N1 o1215) (N1 o1727)) (N o959 (N1 o1471) L)))) (N o95 (N o159 (N o287 (N o543 (N1 o1055) (N1 o1567)) (N o799 (N1 o1311) L)) (N o415 (N o671 (N1 o1183) (N1 o1695)) (N o927 (N1 o1439) L))) (N o223 (N o351 (N o607 (N1 o1119) (N1 o1631)) (N o863 (N1 o1375) L)) (N o479 (N o735 (N1 o1247) (N1 o1759)) (N o991 (N1 o1503) L))))) (N o47 (N (o79 p) (N o143 (N o271 (N o527 (N1 o1039) (N1 o1551)) (N o783 (N1 o1295) L)) (N o399 (N o655 (N1 o1167) (N1 o1679)) (N o911 (N1 o1423) L))) (N o207 (N o335 (N o591 (N1 o1103) (N1 o1615)) (N o847 (N1 o1359) L)) (N o463 (N o719 (N1 o1231) (N1 o1743)) (N o975 (N1 o1487) L)))) (N o111 (N o175 (N o303 (N o559 (N1 o1071) (N1 o1583)) (N o815 (N1 o1327) L)) (N o431 (N o687 (N1 o1199) (N1 o1711)) (N o943 (N1 o1455) L))) (N o239 (N o367 (N o623 (N1 o1135) (N1 o1647)) (N o879 (N1 o1391) L)) (N o495 (N o751 (N1 o1263) (N1 o1775)) (N o1007 (N1 o1519) L)))))) (N o23 (N o39 (N o71 (N o135 (N o263 (N o519 (N1 o1031) (N1 o1543)) (N o775 (N1 o1287) (N1 o1799))) (N o391 (N o647 (N1 o1159) (N1 o1671)) (N o903 (N1 o1415) L))) (N o199 (N (o327 p) (N o583 (N1 o1095) (N1 o1607)) (N o839 (N1 (o1351 p)) L)) (N o455 (N o711 (N1 o1223) (N1 o1735)) (N o967 (N1 o1479) L)))) (N o103 (N o167 (N o295 (N o551 (N1 o1063) (N1 o1575)) (N o807 (N1 o1319) L)) (N o423 (N o679 (N1 o1191) (N1 o1703)) (N o935 (N1 o1447) L))) (N o231 (N o359 (N o615 (N1 o1127) (N1 o1639)) (N o871 (N1 o1383) L)) (N o487 (N o743 (N1 o1255) (N1 o1767)) (N o999 (N1 o1511) L))))) (N o55 (N o87 (N o151 (N o279 (N o535 (N1 o1047) (N1 o1559)) (N o791 (N1 o1303) L)) (N o407 (N o663 (N1 o1175) (N1 o1687)) (N o919 (N1 o1431) L))) (N o215 (N o343 (N o599 (N1 o1111) (N1 o1623)) (N (o855 p) (N1 o1367) L)) (N o471 (N o727 (N1 o1239) (N1 o1751)) (N o983 (N1 o1495) L)))) (N o119 (N o183 (N o311 (N o567 (N1 o1079) (N1 o1591)) (N o823 (N1 o1335) L)) (N o439 (N o695 (N1 o1207) (N1 o1719)) (N o951 (N1 o1463) L))) (N o247 (N o375 (N o631 (N1 o1143) (N1 o1655)) (N o887 (N1 o1399) L)) (N o503 (N o759 (N1 o1271) (N1 o1783)) (N o1015 (N1 o1527) L))))))) (N o11 (N o19 (N o35 (N o67 (N o131 (N o259 (N o515 (N1 o1027) (N1 o1539)) (N o771 (N1 o1283) (N1 o1795))) (N o387 (N o643 (N1 o1155) (N1 o1667)) (N (o899 p) (N1 o1411) L))) (N o195 (N o323 (N o579 (N1 o1091) (N1 o1603)) (N o835 (N1 o1347) L)) (N o451 (N o707 (N1 (o1219 p)) (N1 o1731)) (N (o963 p) (N1 o1475) L)))) (N o99 (N o163 (N o291 (N o547 (N1 o1059) (N1 o1571)) (N o803 (N1 o1315) L)) (N o419 (N o675 (N1 o1187) (N1 o1699)) (N o931 (N1 o1443) L))) (N o227 (N o355 (N o611 (N1 o1123) (N1 o1635)) (N o867 (N1 o1379) L)) (N o483 (N o739 (N1 o1251) (N1 o1763)) (N o995 (N1 o1507) L))))) (N o51 (N o83 (N o147 (N o275 (N o531 (N1 o1043) (N1 o1555)) (N o787 (N1 o1299) L)) (N o403 (N o659 (N1 o1171) (N1 o1683)) (N o915 (N1 o1427) L))) (N o211 (N o339 (N o595 (N1 o1107) (N1 o1619)) (N o851 (N1 o1363) L)) (N o467 (N o723 (N1 o1235) (N1 o1747)) (N o979 (N1 o1491) L)))) (N o115 (N o179 (N o307 (N o563 (N1 o1075) (N1 o1587)) (N o819 (N1 o1331) L)) (N o435 (N o691 (N1 o1203) (N1 o1715)) (N o947 (N1 o1459) L))) (N o243 (N o371 (N o627 (N1 o1139) (N1 o1651)) (N o883 (N1 o1395) L)) (N o499 (N o755 (N1 o1267) (N1 o1779)) (N o1011 (N1 o1523) L)))))) (N o27 (N o43 (N o75 (N o139 (N o267 (N o523 (N1 o1035) (N1 o1547)) (N o779 (N1 o1291) (N1 o1803))) (N o395 (N o651 (N1 o1163) (N1 o1675)) (N (o907 p) (N1 o1419) L))) (N o203 (N o331 (N o587 (N1 o1099) (N1 o1611)) (N o843 (N1 o1355) L)) (N o459 (N (o715 p) (N1 o1227) (N1 o1739)) (N o971 (N1 o1483) L)))) (N o107 (N o171 (N o299 (N o555 (N1 o1067) (N1 o1579)) (N o811 (N1 o1323) L)) (N o427 (N o683 (N1 o1195) (N1 o1707)) (N o939 (N1 o1451) L))) (N o235 (N o363 (N o619 (N1 o1131) (N1 o1643)) (N o875 (N1 o1387) L)) (N o491 (N o747 (N1 o1259) (N1 o1771)) (N o1003 (N1 o1515) L))))) (N o59 (N (o91 p) (N o155 (N o283 (N o539 (N1 o1051) (N1 o1563)) (N o795 (N1 o1307) L)) (N o411 (N o667 (N1 o1179) (N1 o1691)) (N o923 (N1 o1435) L))) (N o219 (N (o347 p) (N o603 (N1 o1115) (N1 o1627)) (N o859 (N1 o1371) L)) (N o475 (N o731 (N1 o1243) (N1 o1755)) (N o987 (N1 o1499) L)))) (N o123 (N o187 (N o315 (N o571 (N1 o1083) (N1 o1595)) (N o827 (N1 o1339) L)) (N o443 (N o699 (N1 (o1211 p)) (N1 o1723)) (N o955 (N1 o1467) L))) (N o251 (N o379 (N o635 (N1 o1147) (N1 o1659)) (N o891 (N1 o1403) L)) (N o507 (N o763 (N1 o1275) (N1 o1787)) (N o1019 (N1 o1531) L)))))))
def T5_1 (p : Params) : PySem.W.BT := N o5 (N o9 (N o17 (N o33 (N o65 (N o129 (N o257 (N o513 (N1 o1025) (N1 o1537)) (N o769 (N1 o1281) (N1 o1793))) (N o385 (N o641 (N1 o1153) (N1 o1665)) (N o897 (N1 o1409) L))) (N o193 (N o321 (N o577 (N1 o1089) (N1 o1601)) (N o833 (N1 o1345) L)) (N o449 (N o705 (N1 o1217) (N1 o1729)) (N o961 (N1 o1473) L)))) (N o97 (N o161 (N o289 (N o545 (N1 o1057) (N1 (o1569 p))) (N o801 (N1 o1313) L)) (N o417 (N o673 (N1 o1185) (N1 o1697)) (N o929 (N1 o1441) L))) (N o225 (N o353 (N o609 (N1 o1121) (N1 o1633)) (N o865 (N1 o1377) L)) (N o481 (N o737 (N1 o1249) (N1 (o1761 p))) (N o993 (N1 o1505) L))))) (N o49 (N o81 (N o145 (N o273 (N o529 (N1 o1041) (N1 o1553)) (N (o785 p) (N1 o1297) L)) (N o401 (N o657 (N1 o1169) (N1 o1681)) (N o913 (N1 o1425) L))) (N o209 (N o337 (N o593 (N1 o1105) (N1 o1617)) (N o849 (N1 o1361) L)) (N o465 (N o721 (N1 o1233) (N1 o1745)) (N o977 (N1 o1489) L)))) (N o113 (N o177 (N o305 (N o561 (N1 o1073) (N1 o1585)) (N o817 (N1 o1329) L)) (N o433 (N o689 (N1 o1201) (N1 o1713)) (N o945 (N1 o1457) L))) (N o241 (N o369 (N o625 (N1 o1137) (N1 o1649)) (N o881 (N1 o1393) L)) (N o497 (N o753 (N1 o1265) (N1 o1777)) (N o1009 (N1 o1521) L)))))) (N o25 (N o41 (N (o73 p) (N o137 (N o265 (N o521 (N1 o1033) (N1 o1545)) (N o777 (N1 o1289) (N1 o1801))) (N o393 (N o649 (N1 o1161) (N1 o1673)) (N o905 (N1 o1417) L))) (N o201 (N o329 (N o585 (N1 o1097) (N1 o1609)) (N o841 (N1 o1353) L)) (N (o457 p) (N o713 (N1 o1225) (N1 o1737)) (N o969 (N1 o1481) L)))) (N o105 (N o169 (N o297 (N o553 (N1 o1065) (N1 o1577)) (N o809 (N1 o1321) L)) (N o425 (N (o681 p) (N1 o1193) (N1 o1705)) (N o937 (N1 o1449) L))) (N o233 (N o361 (N o617 (N1 o1129) (N1 o1641)) (N o873 (N1 o1385) L)) (N o489 (N o745 (N1 o1257) (N1 o1769)) (N o1001 (N1 o1513) L))))) (N o57 (N o89 (N o153 (N o281 (N o537 (N1 o1049) (N1 o1561)) (N o793 (N1 o1305) L)) (N o409 (N o665 (N1 o1177) (N1 o1689)) (N o921 (N1 o1433) L))) (N o217 (N o345 (N o601 (N1 o1113) (N1 o1625)) (N o857 (N1 o1369) L)) (N o473 (N o729 (N1 o1241) (N1 (o1753 p))) (N o985 (N1 o1497) L)))) (N o121 (N o185 (N o313 (N o569 (N1 o1081) (N1 o1593)) (N o825 (N1 o1337) L)) (N o441 (N o697 (N1 o1209) (N1 o1721)) (N o953 (N1 o1465) L))) (N o249 (N o377 (N o633 (N1 o1145) (N1 o1657)) (N o889 (N1 o1401) L)) (N o505 (N o761 (N1 o1273) (N1 o1785)) (N o1017 (N1 o1529) L))))))) (N o13 (N o21 (N (o37 p) (N o69 (N o133 (N o261 (N o517 (N1 o1029) (N1 o1541)) (N o773 (N1 o1285) (N1 o1797))) (N o389 (N o645 (N1 o1157) (N1 o1669)) (N o901 (N1 o1413) L))) (N o197 (N o325 (N o581 (N1 o1093) (N1 o1605)) (N o837 (N1 o1349) L)) (N o453 (N o709 (N1 o1221) (N1 o1733)) (N o965 (N1 o1477) L)))) (N o101 (N o165 (N o293 (N o549 (N1 o1061) (N1 o1573)) (N (o805 p) (N1 o1317) L)) (N o421 (N o677 (N1 o1189) (N1 o1701)) (N o933 (N1 o1445) L))) (N o229 (N o357 (N o613 (N1 o1125) (N1 o1637)) (N o869 (N1 o1381) L)) (N (o485 p) (N o741 (N1 o1253) (N1 o1765)) (N o997 (N1 o1509) L))))) (N o53 (N (o85 p) (N o149 (N o277 (N o533 (N1 o1045) (N1 o1557)) (N o789 (N1 o1301) L)) (N o405 (N (o661 p) (N1 o1173) (N1 o1685)) (N o917 (N1 o1429) L))) (N o213 (N o341 (N o597 (N1 o1109) (N1 o1621)) (N o853 (N1 o1365) L)) (N o469 (N o725 (N1 o1237) (N1 o1749)) (N o981 (N1 o1493) L)))) (N o117 (N o181 (N o309 (N o565 (N1 o1077) (N1 o1589)) (N o821 (N1 o1333) L)) (N o437 (N o693 (N1 o1205) (N1 o1717)) (N o949 (N1 o1461) L))) (N o245 (N (o373 p) (N o629 (N1 o1141) (N1 o1653)) (N o885 (N1 o1397) L)) (N o501 (N o757 (N1 o1269) (N1 o1781)) (N o1013 (N1 o1525) L)))))) (N o29 (N o45 (N o77 (N o141 (N o269 (N o525 (N1 o1037) (N1 o1549)) (N o781 (N1 o1293) L)) (N o397 (N (o653 p) (N1 o1165) (N1 o1677)) (N o909 (N1 o1421) L))) (N o205 (N o333 (N o589 (N1 o1101) (N1 o1613)) (N o845 (N1 o1357) L)) (N o461 (N o717 (N1 o1229) (N1 o1741)) (N o973 (N1 o1485) L)))) (N o109 (N o173 (N o301 (N o557 (N1 o1069) (N1 o1581)) (N o813 (N1 o1325) L)) (N o429 (N o685 (N1 o1197) (N1 o1709)) (N o941 (N1 o1453) L))) (N o237 (N o365 (N o621 (N1 o1133) (N1 o1645)) (N o877 (N1 o1389) L)) (N o493 (N o749 (N1 o1261) (N1 o1773)) (N o1005 (N1 o1517) L))))) (N o61 (N o93 (N o157 (N o285 (N o541 (N1 o1053) (N1 o1565)) (N o797 (N1 o1309) L)) (N o413 (N o669 (N1 o1181) (N1 o1693)) (N o925 (N1 o1437) L))) (N o221 (N o349 (N o605 (N1 o1117) (N1 o1629)) (N o861 (N1 o1373) L)) (N o477 (N (o733 p) (N1 o1245) (N1 o1757)) (N o989 (N1 o1501) L)))) (N o125 (N o189 (N o317 (N o573 (N1 o1085) (N1 o1597)) (N o829 (N1 o1341) L)) (N o445 (N o701 (N1 o1213) (N1 o1725)) (N o957 (N1 o1469) L))) (N o253 (N (o381 p) (N o637 (N1 (o1149 p)) (N1 o1661)) (N o893 (N1 o1405) L)) (N o509 (N o765 (N1 o1277) (N1 o1789)) (N o1021 (N1 o1533) L)))))))
def T5_2 (p : Params) : PySem.W.BT := N o4 (N o8 (N o16 (N o32 (N o64 (N o128 (N o256 (N o512 (N1 o1024) (N1 o1536)) (N o768 (N1 o1280) (N1 o1792))) (N o384 (N o640 (N1 o1152) (N1 o1664)) (N o896 (N1 o1408) L))) (N o192 (N o320 (N o576 (N1 o1088) (N1 o1600)) (N o832 (N1 o1344) L)) (N o448 (N o704 (N1 o1216) (N1 o1728)) (N o960 (N1 o1472) L)))) (N o96 (N o160 (N o288 (N o544 (N1 o1056) (N1 o1568)) (N o800 (N1 o1312) L)) (N o416 (N o672 (N1 (o1184 p)) (N1 o1696)) (N o928 (N1 o1440) L))) (N o224 (N o352 (N o608 (N1 o1120) (N1 o1632)) (N o864 (N1 o1376) L)) (N o480 (N o736 (N1 o1248) (N1 o1760)) (N o992 (N1 o1504) L))))) (N o48 (N o80 (N o144 (N o272 (N o528 (N1 o1040) (N1 o1552)) (N o784 (N1 o1296) L)) (N o400 (N o656 (N1 o1168) (N1 o1680)) (N o912 (N1 o1424) L))) (N o208 (N o336 (N o592 (N1 o1104) (N1 o1616)) (N o848 (N1 o1360) L)) (N o464 (N o720 (N1 o1232) (N1 o1744)) (N o976 (N1 o1488) L)))) (N o112 (N o176 (N o304 (N o560 (N1 o1072) (N1 o1584)) (N o816 (N1 o1328) L)) (N o432 (N o688 (N1 o1200) (N1 o1712)) (N o944 (N1 o1456) L))) (N o240 (N o368 (N o624 (N1 o1136) (N1 o1648)) (N o880 (N1 o1392) L)) (N (o496 p) (N o752 (N1 o1264) (N1 o1776)) (N o1008 (N1 o1520) L)))))) (N (o24 p) (N o40 (N o72 (N o136 (N o264 (N o520 (N1 o1032) (N1 o1544)) (N o776 (N1 o1288) (N1 o1800))) (N o392 (N o648 (N1 o1160) (N1 o1672)) (N o904 (N1 o1416) L))) (N o200 (N o328 (N o584 (N1 o1096) (N1 o1608)) (N o840 (N1 o1352) L)) (N o456 (N o712 (N1 o1224) (N1 o1736)) (N o968 (N1 o1480) L)))) (N o104 (N o168 (N o296 (N o552 (N1 o1064) (N1 o1576)) (N o808 (N1 o1320) L)) (N o424 (N o680 (N1 o1192) (N1 o1704)) (N o936 (N1 o1448) L))) (N o232 (N o360 (N o616 (N1 o1128) (N1 o1640)) (N o872 (N1 o1384) L)) (N o488 (N o744 (N1 o1256) (N1 o1768)) (N o1000 (N1 o1512) L))))) (N o56 (N o88 (N o152 (N o280 (N o536 (N1 o1048) (N1 o1560)) (N o792 (N1 o1304) L)) (N o408 (N o664 (N1 (o1176 p)) (N1 o1688)) (N o920 (N1 o1432) L))) (N o216 (N o344 (N o600 (N1 o1112) (N1 o1624)) (N o856 (N1 o1368) L)) (N o472 (N o728 (N1 o1240) (N1 o1752)) (N o984 (N1 o1496) L)))) (N o120 (N o184 (N o312 (N o568 (N1 o1080) (N1 o1592)) (N o824 (N1 o1336) L)) (N o440 (N o696 (N1 o1208) (N1 o1720)) (N o952 (N1 o1464) L))) (N o248 (N o376 (N o632 (N1 o1144) (N1 o1656)) (N o888 (N1 o1400) L)) (N (o504 p) (N o760 (N1 o1272) (N1 o1784)) (N o1016 (N1 o1528) L))))))) (N o12_5 (N o20 (N o36 (N o68 (N o132 (N o260 (N o516 (N1 o1028) (N1 o1540)) (N o772 (N1 o1284) (N1 o1796))) (N o388 (N o644 (N1 (o1156 p)) (N1 o1668)) (N o900 (N1 o1412) L))) (N o196 (N o324 (N o580 (N1 o1092) (N1 o1604)) (N o836 (N1 o1348) L)) (N o452 (N o708 (N1 o1220) (N1 o1732)) (N o964 (N1 o1476) L)))) (N o100 (N o164 (N o292 (N o548 (N1 o1060) (N1 o1572)) (N o804 (N1 o1316) L)) (N o420 (N o676 (N1 o1188) (N1 o1700)) (N o932 (N1 o1444) L))) (N o228 (N o356 (N o612 (N1 o1124) (N1 o1636)) (N o868 (N1 o1380) L)) (N o484 (N o740 (N1 o1252) (N1 o1764)) (N o996 (N1 o1508) L))))) (N (o52 p) (N o84 (N o148 (N o276 (N o532 (N1 o1044) (N1 o1556)) (N o788 (N1 o1300) L)) (N o404 (N o660 (N1 o1172) (N1 o1684)) (N o916 (N1 o1428) L))) (N o212 (N o340 (N o596 (N1 o1108) (N1 o1620)) (N o852 (N1 o1364) L)) (N o468 (N o724 (N1 o1236) (N1 o1748)) (N o980 (N1 o1492) L)))) (N o116 (N o180 (N o308 (N o564 (N1 o1076) (N1 o1588)) (N o820 (N1 o1332) L)) (N (o436 p) (N o692 (N1 o1204) (N1 o1716)) (N o948 (N1 o1460) L))) (N o244 (N o372 (N o628 (N1 o1140) (N1 o1652)) (N o884 (N1 o1396) L)) (N o500 (N o756 (N1 o1268) (N1 o1780)) (N o1012 (N1 o1524) L)))))) (N o28 (N o44 (N o76 (N o140 (N o268 (N o524 (N1 o1036) (N1 o1548)) (N o780 (N1 o1292) (N1 (o1804 p)))) (N o396 (N o652 (N1 o1164) (N1 o1676)) (N o908 (N1 o1420) L))) (N o204 (N o332 (N o588 (N1 o1100) (N1 o1612)) (N o844 (N1 o1356) L)) (N o460 (N o716 (N1 o1228) (N1 o1740)) (N o972 (N1 o1484) L)))) (N o108 (N o172 (N o300 (N o556 (N1 o1068) (N1 o1580)) (N o812 (N1 o1324) L)) (N o428 (N o684 (N1 o1196) (N1 o1708)) (N o940 (N1 o1452) L))) (N o236 (N o364 (N o620 (N1 o1132) (N1 o1644)) (N o876 (N1 o1388) L)) (N o492 (N o748 (N1 o1260) (N1 o1772)) (N o1004 (N1 o1516) L))))) (N o60 (N o92 (N (o156 p) (N o284 (N o540 (N1 o1052) (N1 o1564)) (N o796 (N1 o1308) L)) (N o412 (N o668 (N1 o1180) (N1 o1692)) (N o924 (N1 o1436) L))) (N o220 (N o348 (N o604 (N1 o1116) (N1 o1628)) (N o860 (N1 o1372) L)) (N o476 (N o732 (N1 o1244) (N1 o1756)) (N o988 (N1 o1500) L)))) (N o124 (N o188 (N o316 (N o572 (N1 o1084) (N1 o1596)) (N o828 (N1 o1340) L)) (N o444 (N o700 (N1 o1212) (N1 o1724)) (N o956 (N1 o1468) L))) (N o252 (N o380 (N o636 (N1 o1148) (N1 (o1660 p))) (N o892 (N1 o1404) L)) (N o508 (N o764 (N1 o1276) (N1 o1788)) (N o1020 (N1 o1532) L)))))))
def T5_3 (p : Params) : PySem.W.BT := N o6 (N o10 (N o18 (N o34 (N o66 (N o130 (N o258 (N o514 (N1 o1026) (N1 o1538)) (N o770 (N1 o1282) (N1 o1794))) (N o386 (N o642 (N1 o1154) (N1 o1666)) (N o898 (N1 o1410) L))) (N o194 (N o322 (N o578 (N1 o1090) (N1 o1602)) (N o834 (N1 o1346) L)) (N o450 (N o706 (N1 o1218) (N1 o1730)) (N o962 (N1 o1474) L)))) (N o98 (N o162 (N o290 (N o546 (N1 o1058) (N1 o1570)) (N o802 (N1 o1314) L)) (N o418 (N o674 (N1 o1186) (N1 o1698)) (N o930 (N1 o1442) L))) (N o226 (N o354 (N o610 (N1 o1122) (N1 o1634)) (N o866 (N1 o1378) L)) (N o482 (N o738 (N1 o1250) (N1 o1762)) (N o994 (N1 o1506) L))))) (N o50 (N o82 (N o146 (N o274 (N o530 (N1 o1042) (N1 o1554)) (N o786 (N1 o1298) L)) (N o402 (N o658 (N1 o1170) (N1 o1682)) (N o914 (N1 o1426) L))) (N o210 (N o338 (N (o594 p) (N1 o1106) (N1 o1618)) (N o850 (N1 o1362) L)) (N o466 (N o722 (N1 o1234) (N1 o1746)) (N o978 (N1 o1490) L)))) (N o114 (N o178 (N o306 (N o562 (N1 o1074) (N1 o1586)) (N o818 (N1 o1330) L)) (N o434 (N o690 (N1 o1202) (N1 o1714)) (N o946 (N1 o1458) L))) (N o242 (N o370 (N o626 (N1 o1138) (N1 o1650)) (N o882 (N1 o1394) L)) (N o498 (N o754 (N1 o1266) (N1 o1778)) (N o1010 (N1 o1522) L)))))) (N o26 (N o42 (N o74 (N o138 (N o266 (N o522 (N1 o1034) (N1 o1546)) (N o778 (N1 o1290) (N1 o1802))) (N o394 (N o650 (N1 o1162) (N1 o1674)) (N o906 (N1 o1418) L))) (N o202 (N o330 (N o586 (N1 o1098) (N1 o1610)) (N o842 (N1 o1354) L)) (N o458 (N o714 (N1 o1226) (N1 o1738)) (N o970 (N1 o1482) L)))) (N (o106 p) (N o170 (N o298 (N o554 (N1 o1066) (N1 o1578)) (N o810 (N1 o1322) L)) (N o426 (N o682 (N1 o1194) (N1 o1706)) (N o938 (N1 o1450) L))) (N o234 (N (o362 p) (N o618 (N1 o1130) (N1 o1642)) (N o874 (N1 o1386) L)) (N o490 (N o746 (N1 o1258) (N1 o1770)) (N o1002 (N1 o1514) L))))) (N (o58 p) (N o90 (N o154 (N o282 (N o538 (N1 o1050) (N1 o1562)) (N o794 (N1 o1306) L)) (N o410 (N o666 (N1 o1178) (N1 (o1690 p))) (N o922 (N1 o1434) L))) (N o218 (N o346 (N o602 (N1 o1114) (N1 o1626)) (N o858 (N1 o1370) L)) (N o474 (N o730 (N1 o1242) (N1 o1754)) (N o986 (N1 o1498) L)))) (N o122 (N o186 (N o314 (N o570 (N1 o1082) (N1 o1594)) (N o826 (N1 o1338) L)) (N o442 (N o698 (N1 o1210) (N1 o1722)) (N o954 (N1 o1466) L))) (N o250 (N o378 (N o634 (N1 o1146) (N1 o1658)) (N o890 (N1 o1402) L)) (N o506 (N o762 (N1 o1274) (N1 o1786)) (N o1018 (N1 o1530) L))))))) (N o14 (N o22 (N o38 (N o70 (N o134 (N (o262 p) (N o518 (N1 o1030) (N1 o1542)) (N o774 (N1 o1286) (N1 o1798))) (N o390 (N o646 (N1 o1158) (N1 o1670)) (N o902 (N1 o1414) L))) (N o198 (N o326 (N o582 (N1 o1094) (N1 o1606)) (N o838 (N1 o1350) L)) (N o454 (N o710 (N1 o1222) (N1 o1734)) (N o966 (N1 o1478) L)))) (N o102 (N o166 (N o294 (N o550 (N1 o1062) (N1 o1574)) (N o806 (N1 o1318) L)) (N o422 (N o678 (N1 o1190) (N1 o1702)) (N o934 (N1 o1446) L))) (N o230 (N o358 (N (o614 p) (N1 o1126) (N1 o1638)) (N o870 (N1 o1382) L)) (N o486 (N o742 (N1 (o1254 p)) (N1 o1766)) (N o998 (N1 o1510) L))))) (N o54 (N o86 (N o150 (N o278 (N o534 (N1 o1046) (N1 o1558)) (N o790 (N1 o1302) L)) (N o406 (N o662 (N1 o1174) (N1 o1686)) (N o918 (N1 o1430) L))) (N o214 (N o342 (N o598 (N1 o1110) (N1 o1622)) (N o854 (N1 (o1366 p)) L)) (N (o470 p) (N o726 (N1 o1238) (N1 o1750)) (N o982 (N1 o1494) L)))) (N o118 (N o182 (N o310 (N o566 (N1 o1078) (N1 o1590)) (N o822 (N1 o1334) L)) (N o438 (N o694 (N1 o1206) (N1 o1718)) (N o950 (N1 o1462) L))) (N o246 (N o374 (N o630 (N1 o1142) (N1 o1654)) (N o886 (N1 o1398) L)) (N o502 (N o758 (N1 o1270) (N1 o1782)) (N o1014 (N1 o1526) L)))))) (N (o30 p) (N o46 (N o78 (N o142 (N o270 (N o526 (N1 o1038) (N1 o1550)) (N o782 (N1 o1294) L)) (N o398 (N o654 (N1 o1166) (N1 o1678)) (N o910 (N1 o1422) L))) (N o206 (N o334 (N o590 (N1 o1102) (N1 o1614)) (N o846 (N1 o1358) L)) (N o462 (N o718 (N1 o1230) (N1 o1742)) (N o974 (N1 o1486) L)))) (N o110 (N (o174 p) (N o302 (N o558 (N1 o1070) (N1 o1582)) (N o814 (N1 o1326) L)) (N o430 (N o686 (N1 o1198) (N1 o1710)) (N o942 (N1 o1454) L))) (N o238 (N o366 (N o622 (N1 (o1134 p)) (N1 o1646)) (N o878 (N1 o1390) L)) (N o494 (N o750 (N1 o1262) (N1 (o1774 p))) (N o1006 (N1 o1518) L))))) (N o62 (N o94 (N o158 (N o286 (N o542 (N1 o1054) (N1 o1566)) (N o798 (N1 o1310) L)) (N o414 (N o670 (N1 o1182) (N1 o1694)) (N o926 (N1 o1438) L))) (N o222 (N o350 (N o606 (N1 o1118) (N1 o1630)) (N o862 (N1 o1374) L)) (N o478 (N o734 (N1 (o1246 p)) (N1 o1758)) (N o990 (N1 o1502) L)))) (N o126 (N (o190 p) (N o318 (N o574 (N1 o1086) (N1 o1598)) (N o830 (N1 o1342) L)) (N o446 (N o702 (N1 o1214) (N1 o1726)) (N o958 (N1 o1470) L))) (N o254 (N o382 (N o638 (N1 o1150) (N1 o1662)) (N o894 (N1 o1406) L)) (N o510 (N o766 (N1 o1278) (N1 o1790)) (N o1022 (N1 o1534) L)))))))
def T5 (p : Params) : PySem.W.BT := N (o0 p) (N (o1 p) (T5_0 p) (T5_1 p)) (N (o2_4 p) (T5_2 p) (T5_3 p))
def o3_6 (p : Params) : Obj := ⟨(.type "dict"), none, (.dict #[en p (S "__name__") 165 (.str (S "law_bindertongue_k11_desks_unbound_and_twins") 2992), en p (S "__doc__") 166 .none, en p (S "__package__") 167 .none, en p (S "__loader__") 168 (.builtin "__main__.__loader__#opaque"), en p (S "__spec__") 169 .none, en p (S "__annotations__") 170 (.ref 6), en p (S "__builtins__") 171 (.ref 4), en p (S "__file__") 173 (.str (S "/claim/cut.py") 172), en p (S "__cached__") 174 .none, en p (S "_wall") 193 (.ref 21), en p (S "BinderError") 215 (.ref 31), en p (S "Barred") 242 (.ref 53), en p (S "InvalidDeed") 269 (.ref 74), en p (S "TooWide") 285 (.ref 86), en p (S "InvalidText") 312 (.ref 107), en p (S "is_whole") 321 (.ref 116), en p (S "is_number") 328 (.ref 123), en p (S "is_string") 335 (.ref 130), en p (S "is_tuple_of") 343 (.ref 137), en p (S "LANGUAGE") 372 (.ref 138), en p (S "LETTERS") 374 (.str (S "abcdefghijklmnopqrstuvwxyz") 373), en p (S "MOST_LETTERS") 376 (.int 6 375), en p (S "HANDED") 378 (.str (S "x") 377), en p (S "PART_WORDS") 382 (.ref 139), en p (S "OPENED_WORDS") 386 (.ref 140), en p (S "NOT_GIVEN") 394 (.ref 141), en p (S "is_name") 400 (.ref 146), en p (S "word_told") 409 (.ref 153), en p (S "Words") 446 (.ref 175), en p (S "ASKS") 454 (.ref 180), en p (S "FREE") 456 (.str (S "free") 455), en p (S "NAME") 458 (.str (S "name") 457), en p (S "UNDER") 460 (.str (S "under") 459), en p (S "standard_pattern") 470 (.ref 187), en p (S "Lookup") 578 (.ref 263), en p (S "ends_in") 588 (.ref 274), en p (S "MOST_MAKERS") 592 (.int 1000 591), en p (S "MOST_DEEP") 594 (.int 50 593), en p (S "maker_of") 602 (.ref 281), en p (S "parts_asked") 613 (.ref 288), en p (S "is_tree_by") 619 (.ref 293), en p (S "branches_of") 631 (.ref 300), en p (S "own_names") 637 (.ref 305), en p (S "free_by") 643 (.ref 310), en p (S "renamed") 657 (.ref 317), en p (S "clear_by") 667 (.ref 324), en p (S "NEW_judgework") 671 (.str (S "new") 670), en p (S "Spot") 721 (.ref 348), en p (S "spot_of") 730 (.ref 359), en p (S "Case") 760 (.ref 374), en p (S "Answers") 851 (.ref 437), en p (S "says_by") 861 (.ref 448), en p (S "NEW_bodywork") 865 (.ref 449), en p (S "translated") 871 (.ref 454), en p (S "Node") 905 (.ref 471), en p (S "root_node") 917 (.ref 482), en p (S "Scope") 949 (.ref 497), en p (S "Walk") 1117 (.ref 595), en p (S "token_for") 1123 (.ref 604), en p (S "reference_at") 1136 (.ref 611), en p (S "Road") 1204 (.ref 654), en p (S "NamedRoad") 1240 (.ref 682), en p (S "next_script") 1248 (.ref 691), en p (S "MOST_ENDS_behindwork") 1252 (.int 40 1251), en p (S "is_handed_by") 1261 (.ref 698), en p (S "word_of") 1268 (.ref 705), en p (S "test_of") 1275 (.ref 712), en p (S "Making") 1319 (.ref 734), en p (S "made_case") 1329 (.ref 745), en p (S "made_cases") 1335 (.ref 750), en p (S "MOST_DEMANDS") 1339 (.int 16 1338), en p (S "is_part_of") 1345 (.ref 755), en p (S "formed") 1351 (.ref 760), en p (S "count_demands") 1357 (.ref 765), en p (S "all_demands") 1363 (.ref 770), en p (S "cuts_of") 1374 (.ref 777), en p (S "lots_of") 1380 (.ref 782), en p (S "MOST_WAYS") 1384 (.int 3000 1383), en p (S "Way") 1426 (.ref 806), en p (S "namings") 1432 (.ref 815), en p (S "names_for") 1438 (.ref 820), en p (S "names_by_place") 1444 (.ref 825), en p (S "demanded") 1450 (.ref 830), en p (S "part_target") 1456 (.ref 835), en p (S "parts_of_way") 1462 (.ref 840), en p (S "demands_of") 1468 (.ref 845), en p (S "joined") 1478 (.ref 852), en p (S "Shop") 1566 (.ref 900), en p (S "MOST_TARGETS") 1570 (.int 150 1569), en p (S "MOST_ROUND") 1572 (.int 3 1571), en p (S "Round") 1660 (.ref 964), en p (S "telling") 1670 (.ref 975), en p (S "is_ever_by") 1678 (.ref 982), en p (S "given_at") 1686 (.ref 987), en p (S "for_a_name") 1692 (.ref 992), en p (S "demanding") 1702 (.ref 999), en p (S "ever_by") 1712 (.ref 1006), en p (S "alike_by") 1724 (.ref 1013), en p (S "right_by") 1732 (.ref 1020), en p (S "keeps_by") 1744 (.ref 1027), en p (S "is_never_in") 1753 (.ref 1034), en p (S "shop_of") 1760 (.ref 1041), en p (S "is_never_by") 1768 (.ref 1048), en p (S "YES_askwork") 1772 (.str (S "yes") 1771), en p (S "NO") 1774 (.str (S "no") 1773), en p (S "WIDE") 1776 (.str (S "wide") 1775), en p (S "told_yes") 1783 (.ref 1055), en p (S "is_ever_so") 1791 (.ref 1062), en p (S "are_alike_so") 1801 (.ref 1069), en p (S "is_right_so") 1809 (.ref 1076), en p (S "does_keep_so") 1819 (.ref 1083), en p (S "is_so") 1827 (.ref 1090), en p (S "answer_by") 1835 (.ref 1097), en p (S "answers_by") 1841 (.ref 1102), en p (S "least_of") 1854 (.ref 1109), en p (S "least_sizes") 1860 (.ref 1114), en p (S "BLANK") 1864 (.str (S " ") 1863), en p (S "ALONE") 1866 (.str (S "[]:") 1865), en p (S "SIGNS") 1869 (.str (S "abcdefghijklmnopqrstuvwxyz []:") 1868), en p (S "FORM") 1871 (.str (S "form") 1870), en p (S "KIND") 1873 (.str (S "kind") 1872), en p (S "words_in") 1885 (.ref 1121), en p (S "row_words") 1891 (.ref 1126), en p (S "has_odd_sign") 1897 (.ref 1131), en p (S "Wrong") 1930 (.ref 1150), en p (S "Known") 1974 (.ref 1177), en p (S "Frame") 2022 (.ref 1212), en p (S "Sight") 2070 (.ref 1247), en p (S "Taking") 2203 (.ref 1352), en p (S "MOST_PLACES") 2207 (.int 3 2206), en p (S "MAKE") 2209 (.str (S "make") 2208), en p (S "GIVEN") 2211 (.str (S "given") 2210), en p (S "JUDGE") 2213 (.str (S "judge") 2212), en p (S "TURNER") 2215 (.str (S "turner") 2214), en p (S "CASE") 2217 (.str (S "case") 2216), en p (S "ELSE") 2219 (.str (S "else") 2218), en p (S "ASK") 2221 (.str (S "ask") 2220), en p (S "ROW_WORDS") 2222 (.ref 1357), en p (S "YES_parsing") 2224 (.str (S "yes") 2223), en p (S "TRUTHS") 2226 (.ref 1358), en p (S "firsts") 2232 (.ref 1363), en p (S "Reading") 2504 (.ref 1570), en p (S "tree_words") 2517 (.ref 1579), en p (S "pieces_of") 2528 (.ref 1586), en p (S "tree_text_by") 2536 (.ref 1593), en p (S "arg_text") 2543 (.ref 1600), en p (S "is_bound") 2550 (.ref 1607), en p (S "expression_text") 2556 (.ref 1612), en p (S "test_text") 2563 (.ref 1619), en p (S "truth_text") 2570 (.ref 1626), en p (S "body_text") 2577 (.ref 1633), en p (S "place_text") 2584 (.ref 1640), en p (S "pattern_text") 2591 (.ref 1647), en p (S "declared_text") 2597 (.ref 1652), en p (S "row_text") 2603 (.ref 1657), en p (S "SIGN") 2607 (.str (S "sign") 2606), en p (S "LATE") 2609 (.str (S "late") 2608), en p (S "MANY") 2611 (.str (S "many") 2610), en p (S "EMPTY") 2613 (.str (S "empty") 2612), en p (S "DECLARING") 2614 (.ref 1658), en p (S "WITH_CASES") 2615 (.ref 1659), en p (S "MOST_OF") 2626 (.ref 1660), en p (S "MOST_ASKS") 2628 (.int 8 2627), en p (S "MOST_ROWS_readwork") 2630 (.int 60 2629), en p (S "MOST_SIGNS") 2632 (.int 2000 2631), en p (S "MOST_ENDS_readwork") 2634 (.int 8 2633), en p (S "MOST_MADE") 2636 (.int 12 2635), en p (S "headed_in") 2642 (.ref 1665), en p (S "known_of") 2648 (.ref 1670), en p (S "count_made") 2654 (.ref 1675), en p (S "expressions_in") 2664 (.ref 1682), en p (S "is_great_body") 2670 (.ref 1687), en p (S "Looking") 2763 (.ref 1754), en p (S "ReadBook") 2794 (.ref 1775), en p (S "rows_of") 2800 (.ref 1784), en p (S "row_read") 2813 (.ref 1791), en p (S "wrong_behind") 2820 (.ref 1798), en p (S "book_read") 2826 (.ref 1803), en p (S "PUT") 2830 (.str (S "put") 2829), en p (S "ROW") 2832 (.str (S "row") 2831), en p (S "OUT") 2834 (.str (S "out") 2833), en p (S "SIZES") 2841 (.ref 1804), en p (S "FAULT") 2843 (.str (S "fault") 2842), en p (S "MOST_ROWS_desks") 2845 (.int 60 2844), en p (S "is_row_text") 2852 (.ref 1811), en p (S "rows_in") 2858 (.ref 1816), en p (S "is_headed") 2865 (.ref 1823), en p (S "check_deed") 2872 (.ref 1830), en p (S "barred_by") 2880 (.ref 1837), en p (S "rows_behind") 2889 (.ref 1844), en p (S "Desk") 2991 (.ref 1922), en p (S "_law_court") 2999 (.ref 1931), en p (S "_law_call") 3008 (.ref 1938), en p (S "_law_one_of") 3016 (.ref 1945), en p (S "_law_like") 3024 (.ref 1952), en p (S "_law_small") 3030 (.ref 1957), en p (S "_law_after") 3043 (.ref 1964), en p (S "_law_said_of") 3052 (.ref 1971), en p (S "_law_deed") 3063 (.ref 1978), en p (S "_law_due_of") 3070 (.ref 1985), en p (S "_law_small_asks") 3083 (.ref 1992), en p (S "_law_is_one") 3089 (.ref 1997), en p (S "_law_by_hand") 3095 (.ref 2002), en p (S "law") 3102 (.ref 2009)] 204), #[]⟩
def o12_6 : Obj := ⟨.none, none, (.fields #[(.int 1 0), (.int 0 0), (.ref 20), (.int 5 0), (.int 0 0), (.ref 27), (.int 7 0), (.int 0 0), (.ref 41), (.int 12 0), (.int 0 0), (.ref 62), (.int 17 0), (.int 0 0), (.ref 82), (.int 19 0), (.int 0 0), (.ref 95), (.int 25 0), (.int 0 0), (.ref 115), (.int 27 0), (.int 0 0), (.ref 122), (.int 29 0), (.int 0 0), (.ref 129), (.int 31 0), (.int 0 0), (.ref 136), (.int 41 0), (.int 0 0), (.ref 145), (.int 45 0), (.int 0 0), (.ref 152), (.int 50 0), (.int 0 0), (.ref 159), (.int 69 0), (.int 0 0), (.ref 186), (.int 74 0), (.int 0 0), (.ref 193), (.int 123 0), (.int 0 0), (.ref 273), (.int 135 0), (.int 0 0), (.ref 280), (.int 141 0), (.int 0 0), (.ref 287), (.int 154 0), (.int 0 0), (.ref 292), (.int 168 0), (.int 0 0), (.ref 299), (.int 176 0), (.int 0 0), (.ref 304), (.int 179 0), (.int 0 0), (.ref 309), (.int 188 0), (.int 0 0), (.ref 316), (.int 199 0), (.int 0 0), (.ref 323), (.int 203 0), (.int 0 0), (.ref 330), (.int 226 0), (.int 0 0), (.ref 358), (.int 228 0), (.int 0 0), (.ref 365), (.int 245 0), (.int 0 0), (.ref 384), (.int 287 0), (.int 0 0), (.ref 447), (.int 291 0), (.int 0 0), (.ref 453), (.int 302 0), (.int 0 0), (.ref 460), (.int 310 0), (.int 0 0), (.ref 481), (.int 320 0), (.int 0 0), (.ref 488), (.int 339 0), (.int 0 0), (.ref 507), (.int 449 0), (.int 0 0), (.ref 603), (.int 452 0), (.int 0 0), (.ref 610), (.int 465 0), (.int 0 0), (.ref 617), (.int 488 0), (.int 0 0), (.ref 664), (.int 496 0), (.int 0 0), (.ref 690), (.int 503 0), (.int 0 0), (.ref 697), (.int 508 0), (.int 0 0), (.ref 704), (.int 518 0), (.int 0 0), (.ref 711), (.int 522 0), (.int 0 0), (.ref 718), (.int 544 0), (.int 0 0), (.ref 744), (.int 547 0), (.int 0 0), (.ref 749), (.int 551 0), (.int 0 0), (.ref 754), (.int 553 0), (.int 0 0), (.ref 759), (.int 556 0), (.int 0 0), (.ref 764), (.int 558 0), (.int 0 0), (.ref 769), (.int 560 0), (.int 0 0), (.ref 776), (.int 569 0), (.int 0 0), (.ref 781), (.int 577 0), (.int 0 0), (.ref 788), (.int 587 0), (.int 0 0), (.ref 814), (.int 593 0), (.int 0 0), (.ref 819), (.int 597 0), (.int 0 0), (.ref 824), (.int 600 0), (.int 0 0), (.ref 829), (.int 602 0), (.int 0 0), (.ref 834), (.int 614 0), (.int 0 0), (.ref 839), (.int 620 0), (.int 0 0), (.ref 844), (.int 627 0), (.int 0 0), (.ref 851), (.int 632 0), (.int 0 0), (.ref 858), (.int 693 0), (.int 0 0), (.ref 910), (.int 756 0), (.int 0 0), (.ref 974), (.int 762 0), (.int 0 0), (.ref 981), (.int 765 0), (.int 0 0), (.ref 986), (.int 767 0), (.int 0 0), (.ref 991), (.int 771 0), (.int 0 0), (.ref 998), (.int 775 0), (.int 0 0), (.ref 1005), (.int 777 0), (.int 0 0), (.ref 1012), (.int 782 0), (.int 0 0), (.ref 1019), (.int 784 0), (.int 0 0), (.ref 1026), (.int 787 0), (.int 0 0), (.ref 1033), (.int 792 0), (.int 0 0), (.ref 1040), (.int 794 0), (.int 0 0), (.ref 1047), (.int 800 0), (.int 0 0), (.ref 1054), (.int 802 0), (.int 0 0), (.ref 1061), (.int 804 0), (.int 0 0), (.ref 1068), (.int 807 0), (.int 0 0), (.ref 1075), (.int 809 0), (.int 0 0), (.ref 1082), (.int 811 0), (.int 0 0), (.ref 1089), (.int 821 0), (.int 0 0), (.ref 1096), (.int 826 0), (.int 0 0), (.ref 1101), (.int 829 0), (.int 0 0), (.ref 1108), (.int 837 0), (.int 0 0), (.ref 1113), (.int 851 0), (.int 0 0), (.ref 1120), (.int 859 0), (.int 0 0), (.ref 1125), (.int 868 0), (.int 0 0), (.ref 1130), (.int 871 0), (.int 0 0), (.ref 1138), (.int 877 0), (.int 0 0), (.ref 1159), (.int 890 0), (.int 0 0), (.ref 1187), (.int 903 0), (.int 0 0), (.ref 1222), (.int 916 0), (.int 0 0), (.ref 1257), (.int 997 0), (.int 0 0), (.ref 1362), (.int 999 0), (.int 0 0), (.ref 1369), (.int 1212 0), (.int 0 0), (.ref 1578), (.int 1222 0), (.int 0 0), (.ref 1585), (.int 1227 0), (.int 0 0), (.ref 1592), (.int 1229 0), (.int 0 0), (.ref 1599), (.int 1233 0), (.int 0 0), (.ref 1606), (.int 1235 0), (.int 0 0), (.ref 1611), (.int 1241 0), (.int 0 0), (.ref 1618), (.int 1245 0), (.int 0 0), (.ref 1625), (.int 1247 0), (.int 0 0), (.ref 1632), (.int 1253 0), (.int 0 0), (.ref 1639), (.int 1257 0), (.int 0 0), (.ref 1646), (.int 1259 0), (.int 0 0), (.ref 1651), (.int 1267 0), (.int 0 0), (.ref 1656), (.int 1290 0), (.int 0 0), (.ref 1664), (.int 1297 0), (.int 0 0), (.ref 1669), (.int 1304 0), (.int 0 0), (.ref 1674), (.int 1312 0), (.int 0 0), (.ref 1681), (.int 1321 0), (.int 0 0), (.ref 1686), (.int 1325 0), (.int 0 0), (.ref 1693), (.int 1392 0), (.int 0 0), (.ref 1764), (.int 1397 0), (.int 0 0), (.ref 1783), (.int 1401 0), (.int 0 0), (.ref 1790), (.int 1415 0), (.int 0 0), (.ref 1797), (.int 1419 0), (.int 0 0), (.ref 1802), (.int 1439 0), (.int 0 0), (.ref 1810), (.int 1441 0), (.int 0 0), (.ref 1815), (.int 1448 0), (.int 0 0), (.ref 1822), (.int 1452 0), (.int 0 0), (.ref 1829), (.int 1459 0), (.int 0 0), (.ref 1836), (.int 1467 0), (.int 0 0), (.ref 1843), (.int 1472 0), (.int 0 0), (.ref 1850), (.int 1528 0), (.int 0 0), (.ref 1930), (.int 1534 0), (.int 0 0), (.ref 1937), (.int 1540 0), (.int 0 0), (.ref 1944), (.int 1542 0), (.int 0 0), (.ref 1951), (.int 1544 0), (.int 0 0), (.ref 1956), (.int 1576 0), (.int 0 0), (.ref 1963), (.int 1588 0), (.int 0 0), (.ref 1970), (.int 1596 0), (.int 0 0), (.ref 1977), (.int 1600 0), (.int 0 0), (.ref 1984), (.int 1602 0), (.int 0 0), (.ref 1991), (.int 1610 0), (.int 0 0), (.ref 1996), (.int 1642 0), (.int 0 0), (.ref 2001), (.int 1657 0), (.int 0 0), (.ref 2008)]), #[]⟩
def o1805 : Obj := ⟨(.type "tuple"), none, (.seq #[] 0), #[]⟩
def o1806 : Obj := ⟨.none, none, (.fields #[]), #[]⟩
def o1807 : Obj := ⟨(.type "tuple"), none, (.seq #[(.str (S "value") 2849)] 0), #[]⟩
def o1808 : Obj := ⟨(.type "tuple"), none, (.seq #[] 0), #[]⟩
def o1809 : Obj := ⟨.none, none, (fD (top 195) (S "is_row_text") (S "is_row_text") 0 [] .none .none .none .none none .none .none 0), #[]⟩
def o1810 : Obj := ⟨(.type "code"), none, (.fields #[(.str (S "is_row_text") 2846), (.str (S "is_row_text") 2847), (.str (S "/claim/cut.py") 2848), (.int 1439 0), (.int 1 0), (.int 0 0), (.int 0 0), (.int 3 0), (.ref 1805), (.bool true), (.int 181 0), (.ref 1806), .none, (.ref 1807), (.ref 1808), (.ref 1809), (.int 2850 0), (.int 1439 0), (.str (S "/claim/cut.py") 2851)]), #[]⟩
def o1811 : Obj := ⟨(.type "function"), none, (fD (top 195) (S "is_row_text") (S "is_row_text") 3 [] .none .none .none (.str (S "bindertongue.desks") 2827) none (.ref 1810) .none 0), #[]⟩
def o1812 : Obj := ⟨(.type "tuple"), none, (.seq #[] 0), #[]⟩
def o1813 : Obj := ⟨.none, none, (.fields #[]), #[]⟩
def o1814 : Obj := ⟨.none, none, (fD (top 196) (S "rows_in") (S "rows_in") 0 [] .none .none .none .none none .none .none 0), #[]⟩
def o1815 : Obj := ⟨(.type "code"), none, (.fields #[(.str (S "rows_in") 2853), (.str (S "rows_in") 2854), (.str (S "/claim/cut.py") 2855), (.int 1441 0), (.int 1 0), (.int 0 0), (.int 0 0), (.int 3 0), (.ref 1812), (.bool true), (.int 181 0), (.ref 1813), .none, .none, .none, (.ref 1814), (.int 2856 0), (.int 1441 0), (.str (S "/claim/cut.py") 2857)]), #[]⟩
def o1816 : Obj := ⟨(.type "function"), none, (fD (top 196) (S "rows_in") (S "rows_in") 3 [] .none .none .none (.str (S "bindertongue.desks") 2827) none (.ref 1815) .none 0), #[]⟩
def o1817 : Obj := ⟨(.type "tuple"), none, (.seq #[] 0), #[]⟩
def o1818 : Obj := ⟨.none, none, (.fields #[]), #[]⟩
def o1819 : Obj := ⟨(.type "tuple"), none, (.seq #[(.str (S "value") 2862)] 0), #[]⟩
def o1820 : Obj := ⟨(.type "tuple"), none, (.seq #[] 0), #[]⟩
def o1821 : Obj := ⟨.none, none, (fD (top 197) (S "is_headed") (S "is_headed") 0 [] .none .none .none .none none .none .none 0), #[]⟩
def o1822 : Obj := ⟨(.type "code"), none, (.fields #[(.str (S "is_headed") 2859), (.str (S "is_headed") 2860), (.str (S "/claim/cut.py") 2861), (.int 1448 0), (.int 1 0), (.int 0 0), (.int 0 0), (.int 3 0), (.ref 1817), (.bool true), (.int 181 0), (.ref 1818), .none, (.ref 1819), (.ref 1820), (.ref 1821), (.int 2863 0), (.int 1448 0), (.str (S "/claim/cut.py") 2864)]), #[]⟩
def o1823 : Obj := ⟨(.type "function"), none, (fD (top 197) (S "is_headed") (S "is_headed") 3 [] .none .none .none (.str (S "bindertongue.desks") 2827) none (.ref 1822) .none 0), #[]⟩
def o1824 : Obj := ⟨(.type "tuple"), none, (.seq #[] 0), #[]⟩
def o1825 : Obj := ⟨.none, none, (.fields #[]), #[]⟩
def o1826 : Obj := ⟨(.type "tuple"), none, (.seq #[(.str (S "deed") 2869)] 0), #[]⟩
def o1827 : Obj := ⟨(.type "tuple"), none, (.seq #[] 0), #[]⟩
def o1828 : Obj := ⟨.none, none, (fD (top 198) (S "check_deed") (S "check_deed") 0 [] .none .none .none .none none .none .none 0), #[]⟩
def o1829 : Obj := ⟨(.type "code"), none, (.fields #[(.str (S "check_deed") 2866), (.str (S "check_deed") 2867), (.str (S "/claim/cut.py") 2868), (.int 1452 0), (.int 1 0), (.int 0 0), (.int 0 0), (.int 3 0), (.ref 1824), (.bool true), (.int 181 0), (.ref 1825), .none, (.ref 1826), (.ref 1827), (.ref 1828), (.int 2870 0), (.int 1452 0), (.str (S "/claim/cut.py") 2871)]), #[]⟩
def o1830 : Obj := ⟨(.type "function"), none, (fD (top 198) (S "check_deed") (S "check_deed") 3 [] .none .none .none (.str (S "bindertongue.desks") 2827) none (.ref 1829) .none 0), #[]⟩
def o1831 : Obj := ⟨(.type "tuple"), none, (.seq #[] 0), #[]⟩
def o1832 : Obj := ⟨.none, none, (.fields #[]), #[]⟩
def o1833 : Obj := ⟨(.type "tuple"), none, (.seq #[(.str (S "rows") 2876), (.str (S "deed") 2877)] 0), #[]⟩
def o1834 : Obj := ⟨(.type "tuple"), none, (.seq #[] 0), #[]⟩
def o1835 : Obj := ⟨.none, none, (fD (top 199) (S "barred_by") (S "barred_by") 0 [] .none .none .none .none none .none .none 0), #[]⟩
def o1836 : Obj := ⟨(.type "code"), none, (.fields #[(.str (S "barred_by") 2873), (.str (S "barred_by") 2874), (.str (S "/claim/cut.py") 2875), (.int 1459 0), (.int 2 0), (.int 0 0), (.int 0 0), (.int 3 0), (.ref 1831), (.bool true), (.int 181 0), (.ref 1832), .none, (.ref 1833), (.ref 1834), (.ref 1835), (.int 2878 0), (.int 1459 0), (.str (S "/claim/cut.py") 2879)]), #[]⟩
def o1837 : Obj := ⟨(.type "function"), none, (fD (top 199) (S "barred_by") (S "barred_by") 3 [] .none .none .none (.str (S "bindertongue.desks") 2827) none (.ref 1836) .none 0), #[]⟩
def o1838 : Obj := ⟨(.type "tuple"), none, (.seq #[] 0), #[]⟩
def o1839 : Obj := ⟨.none, none, (.fields #[]), #[]⟩
def o1840 : Obj := ⟨(.type "tuple"), none, (.seq #[(.str (S "rows") 2884), (.str (S "deed") 2885), (.str (S "at") 2886)] 0), #[]⟩
def o1841 : Obj := ⟨(.type "tuple"), none, (.seq #[] 0), #[]⟩
def o1842 : Obj := ⟨.none, none, (fD (top 200) (S "rows_behind") (S "rows_behind") 0 [] .none .none .none .none none .none .none 0), #[]⟩
def o1843 : Obj := ⟨(.type "code"), none, (.fields #[(.str (S "rows_behind") 2881), (.str (S "rows_behind") 2882), (.str (S "/claim/cut.py") 2883), (.int 1467 0), (.int 2 0), (.int 0 0), (.int 0 0), (.int 3 0), (.ref 1838), (.bool true), (.int 181 0), (.ref 1839), .none, (.ref 1840), (.ref 1841), (.ref 1842), (.int 2887 0), (.int 1467 0), (.str (S "/claim/cut.py") 2888)]), #[]⟩
def o1844 : Obj := ⟨(.type "function"), none, (fD (top 200) (S "rows_behind") (S "rows_behind") 3 [] .none .none .none (.str (S "bindertongue.desks") 2827) none (.ref 1843) .none 0), #[]⟩
def o1845 : Obj := ⟨(.type "tuple"), none, (.seq #[] 0), #[]⟩
def o1846 : Obj := ⟨(.type "builtin_function_or_method"), none, (.fields #[(.builtin "type.__prepare__"), (.type "type")]), #[]⟩
def o1847 (p : Params) : Obj := ⟨(.type "dict"), none, (.dict #[en p (S "__module__") 2897 (.str (S "bindertongue.desks") 2827), en p (S "__qualname__") 2899 (.str (S "Desk") 2898), en p (S "__firstlineno__") 2901 (.int 1472 2900), en p (S "__init__") 2909 (.ref 1858), en p (S "__eq__") 2917 (.ref 1865), en p (S "do") 2926 (.ref 1872), en p (S "undo") 2933 (.ref 1879), en p (S "text") 2939 (.ref 1884), en p (S "read") 2946 (.ref 1891), en p (S "fault") 2954 (.ref 1898), en p (S "fault_place") 2961 (.ref 1905), en p (S "book") 2969 (.ref 1912), en p (S "word") 2978 (.ref 1919), en p (S "__static_attributes__") 2983 (.ref 1920)] 14), #[]⟩
def o1848 : Obj := ⟨(.type "tuple"), none, (.seq #[] 0), #[]⟩
def o1849 : Obj := ⟨.none, none, (.fields #[(.int 1474 0), (.int 4 0), (.ref 1857), (.int 1480 0), (.int 4 0), (.ref 1864), (.int 1485 0), (.int 4 0), (.ref 1871), (.int 1494 0), (.int 4 0), (.ref 1878), (.int 1502 0), (.int 4 0), (.ref 1883), (.int 1505 0), (.int 4 0), (.ref 1890), (.int 1508 0), (.int 4 0), (.ref 1897), (.int 1512 0), (.int 4 0), (.ref 1904), (.int 1515 0), (.int 4 0), (.ref 1911), (.int 1519 0), (.int 4 0), (.ref 1918)]), #[]⟩
def o1850 : Obj := ⟨(.type "code"), none, (.fields #[(.str (S "Desk") 2892), (.str (S "Desk") 2893), (.str (S "/claim/cut.py") 2894), (.int 1472 0), (.int 0 0), (.int 0 0), (.int 0 0), (.int 0 0), (.ref 1848), (.bool false), (.int 181 0), (.ref 1849), .none, .none, .none, .none, (.int 2895 0), (.int 1472 0), (.str (S "/claim/cut.py") 2896)]), #[]⟩
def o1851 : Obj := ⟨(.type "frame"), none, .plain, #[(some (.ref 1850)), (some (.ref 3)), (some (.ref 1847)), none, (some (.str (S "bindertongue.desks") 2827)), none, (some (.ref 0))]⟩
def o1852 : Obj := ⟨(.type "tuple"), none, (.seq #[] 0), #[]⟩
def o1853 : Obj := ⟨.none, none, (.fields #[]), #[]⟩
def o1854 : Obj := ⟨(.type "tuple"), none, (.seq #[(.str (S "self") 2905), (.str (S "text") 2906)] 0), #[]⟩
def o1855 : Obj := ⟨(.type "tuple"), none, (.seq #[] 0), #[]⟩
def o1856 : Obj := ⟨.none, none, (fD (inC 201 0) (S "__init__") (S "Desk.__init__") 0 [] .none .none .none .none none .none .none 0), #[]⟩
def o1857 : Obj := ⟨(.type "code"), none, (.fields #[(.str (S "__init__") 2902), (.str (S "Desk.__init__") 2903), (.str (S "/claim/cut.py") 2904), (.int 1474 0), (.int 2 0), (.int 0 0), (.int 0 0), (.int 3 0), (.ref 1852), (.bool true), (.int 181 0), (.ref 1853), .none, (.ref 1854), (.ref 1855), (.ref 1856), (.int 2907 0), (.int 1474 0), (.str (S "/claim/cut.py") 2908)]), #[]⟩
def o1858 : Obj := ⟨(.type "function"), none, (fD (inC 201 0) (S "__init__") (S "Desk.__init__") 3 [] .none .none .none (.str (S "bindertongue.desks") 2827) none (.ref 1857) .none 0), #[]⟩
def o1859 : Obj := ⟨(.type "tuple"), none, (.seq #[] 0), #[]⟩
def o1860 : Obj := ⟨.none, none, (.fields #[]), #[]⟩
def o1861 : Obj := ⟨(.type "tuple"), none, (.seq #[(.str (S "self") 2913), (.str (S "other") 2914)] 0), #[]⟩
def o1862 : Obj := ⟨(.type "tuple"), none, (.seq #[] 0), #[]⟩
def o1863 : Obj := ⟨.none, none, (fD (inC 201 1) (S "__eq__") (S "Desk.__eq__") 0 [] .none .none .none .none none .none .none 0), #[]⟩
def o1864 : Obj := ⟨(.type "code"), none, (.fields #[(.str (S "__eq__") 2910), (.str (S "Desk.__eq__") 2911), (.str (S "/claim/cut.py") 2912), (.int 1480 0), (.int 2 0), (.int 0 0), (.int 0 0), (.int 3 0), (.ref 1859), (.bool true), (.int 181 0), (.ref 1860), .none, (.ref 1861), (.ref 1862), (.ref 1863), (.int 2915 0), (.int 1480 0), (.str (S "/claim/cut.py") 2916)]), #[]⟩
def o1865 : Obj := ⟨(.type "function"), none, (fD (inC 201 1) (S "__eq__") (S "Desk.__eq__") 3 [] .none .none .none (.str (S "bindertongue.desks") 2827) none (.ref 1864) .none 0), #[]⟩
def o1866 : Obj := ⟨(.type "tuple"), none, (.seq #[] 0), #[]⟩
def o1867 : Obj := ⟨.none, none, (.fields #[]), #[]⟩
def o1868 : Obj := ⟨(.type "tuple"), none, (.seq #[(.str (S "self") 2921), (.str (S "deed") 2922), (.str (S "reason") 2923)] 0), #[]⟩
def o1869 : Obj := ⟨(.type "tuple"), none, (.seq #[] 0), #[]⟩
def o1870 : Obj := ⟨.none, none, (fD (inC 201 2) (S "do") (S "Desk.do") 0 [] .none .none .none .none none .none .none 0), #[]⟩
def o1871 : Obj := ⟨(.type "code"), none, (.fields #[(.str (S "do") 2918), (.str (S "Desk.do") 2919), (.str (S "/claim/cut.py") 2920), (.int 1485 0), (.int 2 0), (.int 0 0), (.int 0 0), (.int 3 0), (.ref 1866), (.bool true), (.int 181 0), (.ref 1867), .none, (.ref 1868), (.ref 1869), (.ref 1870), (.int 2924 0), (.int 1485 0), (.str (S "/claim/cut.py") 2925)]), #[]⟩
def o1872 : Obj := ⟨(.type "function"), none, (fD (inC 201 2) (S "do") (S "Desk.do") 3 [] .none .none .none (.str (S "bindertongue.desks") 2827) none (.ref 1871) .none 0), #[]⟩
def o1873 : Obj := ⟨(.type "tuple"), none, (.seq #[] 0), #[]⟩
def o1874 : Obj := ⟨.none, none, (.fields #[]), #[]⟩
def o1875 : Obj := ⟨(.type "tuple"), none, (.seq #[(.str (S "self") 2930)] 0), #[]⟩
def o1876 : Obj := ⟨(.type "tuple"), none, (.seq #[] 0), #[]⟩
def o1877 : Obj := ⟨.none, none, (fD (inC 201 3) (S "undo") (S "Desk.undo") 0 [] .none .none .none .none none .none .none 0), #[]⟩
def o1878 : Obj := ⟨(.type "code"), none, (.fields #[(.str (S "undo") 2927), (.str (S "Desk.undo") 2928), (.str (S "/claim/cut.py") 2929), (.int 1494 0), (.int 1 0), (.int 0 0), (.int 0 0), (.int 3 0), (.ref 1873), (.bool true), (.int 181 0), (.ref 1874), .none, (.ref 1875), (.ref 1876), (.ref 1877), (.int 2931 0), (.int 1494 0), (.str (S "/claim/cut.py") 2932)]), #[]⟩
def o1879 : Obj := ⟨(.type "function"), none, (fD (inC 201 3) (S "undo") (S "Desk.undo") 3 [] .none .none .none (.str (S "bindertongue.desks") 2827) none (.ref 1878) .none 0), #[]⟩
def o1880 : Obj := ⟨(.type "tuple"), none, (.seq #[] 0), #[]⟩
def o1881 : Obj := ⟨.none, none, (.fields #[]), #[]⟩
def o1882 : Obj := ⟨.none, none, (fD (inC 201 4) (S "text") (S "Desk.text") 0 [] .none .none .none .none none .none .none 0), #[]⟩
def o1883 : Obj := ⟨(.type "code"), none, (.fields #[(.str (S "text") 2934), (.str (S "Desk.text") 2935), (.str (S "/claim/cut.py") 2936), (.int 1502 0), (.int 1 0), (.int 0 0), (.int 0 0), (.int 3 0), (.ref 1880), (.bool true), (.int 181 0), (.ref 1881), .none, .none, .none, (.ref 1882), (.int 2937 0), (.int 1502 0), (.str (S "/claim/cut.py") 2938)]), #[]⟩
def o1884 : Obj := ⟨(.type "function"), none, (fD (inC 201 4) (S "text") (S "Desk.text") 3 [] .none .none .none (.str (S "bindertongue.desks") 2827) none (.ref 1883) .none 0), #[]⟩
def o1885 : Obj := ⟨(.type "tuple"), none, (.seq #[] 0), #[]⟩
def o1886 : Obj := ⟨.none, none, (.fields #[]), #[]⟩
def o1887 : Obj := ⟨(.type "tuple"), none, (.seq #[(.str (S "self") 2943)] 0), #[]⟩
def o1888 : Obj := ⟨(.type "tuple"), none, (.seq #[] 0), #[]⟩
def o1889 : Obj := ⟨.none, none, (fD (inC 201 5) (S "read") (S "Desk.read") 0 [] .none .none .none .none none .none .none 0), #[]⟩
def o1890 : Obj := ⟨(.type "code"), none, (.fields #[(.str (S "read") 2940), (.str (S "Desk.read") 2941), (.str (S "/claim/cut.py") 2942), (.int 1505 0), (.int 1 0), (.int 0 0), (.int 0 0), (.int 3 0), (.ref 1885), (.bool true), (.int 181 0), (.ref 1886), .none, (.ref 1887), (.ref 1888), (.ref 1889), (.int 2944 0), (.int 1505 0), (.str (S "/claim/cut.py") 2945)]), #[]⟩
def o1891 : Obj := ⟨(.type "function"), none, (fD (inC 201 5) (S "read") (S "Desk.read") 3 [] .none .none .none (.str (S "bindertongue.desks") 2827) none (.ref 1890) .none 0), #[]⟩
def o1892 : Obj := ⟨(.type "tuple"), none, (.seq #[] 0), #[]⟩
def o1893 : Obj := ⟨.none, none, (.fields #[]), #[]⟩
def o1894 : Obj := ⟨(.type "tuple"), none, (.seq #[(.str (S "self") 2950), (.str (S "found") 2951)] 0), #[]⟩
def o1895 : Obj := ⟨(.type "tuple"), none, (.seq #[] 0), #[]⟩
def o1896 : Obj := ⟨.none, none, (fD (inC 201 6) (S "fault") (S "Desk.fault") 0 [] .none .none .none .none none .none .none 0), #[]⟩
def o1897 : Obj := ⟨(.type "code"), none, (.fields #[(.str (S "fault") 2947), (.str (S "Desk.fault") 2948), (.str (S "/claim/cut.py") 2949), (.int 1508 0), (.int 1 0), (.int 0 0), (.int 0 0), (.int 3 0), (.ref 1892), (.bool true), (.int 181 0), (.ref 1893), .none, (.ref 1894), (.ref 1895), (.ref 1896), (.int 2952 0), (.int 1508 0), (.str (S "/claim/cut.py") 2953)]), #[]⟩
def o1898 : Obj := ⟨(.type "function"), none, (fD (inC 201 6) (S "fault") (S "Desk.fault") 3 [] .none .none .none (.str (S "bindertongue.desks") 2827) none (.ref 1897) .none 0), #[]⟩
def o1899 : Obj := ⟨(.type "tuple"), none, (.seq #[] 0), #[]⟩
def o1900 : Obj := ⟨.none, none, (.fields #[]), #[]⟩
def o1901 : Obj := ⟨(.type "tuple"), none, (.seq #[(.str (S "self") 2958)] 0), #[]⟩
def o1902 : Obj := ⟨(.type "tuple"), none, (.seq #[] 0), #[]⟩
def o1903 : Obj := ⟨.none, none, (fD (inC 201 7) (S "fault_place") (S "Desk.fault_place") 0 [] .none .none .none .none none .none .none 0), #[]⟩
def o1904 : Obj := ⟨(.type "code"), none, (.fields #[(.str (S "fault_place") 2955), (.str (S "Desk.fault_place") 2956), (.str (S "/claim/cut.py") 2957), (.int 1512 0), (.int 1 0), (.int 0 0), (.int 0 0), (.int 3 0), (.ref 1899), (.bool true), (.int 181 0), (.ref 1900), .none, (.ref 1901), (.ref 1902), (.ref 1903), (.int 2959 0), (.int 1512 0), (.str (S "/claim/cut.py") 2960)]), #[]⟩
def o1905 : Obj := ⟨(.type "function"), none, (fD (inC 201 7) (S "fault_place") (S "Desk.fault_place") 3 [] .none .none .none (.str (S "bindertongue.desks") 2827) none (.ref 1904) .none 0), #[]⟩
def o1906 : Obj := ⟨(.type "tuple"), none, (.seq #[] 0), #[]⟩
def o1907 : Obj := ⟨.none, none, (.fields #[]), #[]⟩
def o1908 : Obj := ⟨(.type "tuple"), none, (.seq #[(.str (S "self") 2965), (.str (S "found") 2966)] 0), #[]⟩
def o1909 : Obj := ⟨(.type "tuple"), none, (.seq #[] 0), #[]⟩
def o1910 : Obj := ⟨.none, none, (fD (inC 201 8) (S "book") (S "Desk.book") 0 [] .none .none .none .none none .none .none 0), #[]⟩
def o1911 : Obj := ⟨(.type "code"), none, (.fields #[(.str (S "book") 2962), (.str (S "Desk.book") 2963), (.str (S "/claim/cut.py") 2964), (.int 1515 0), (.int 1 0), (.int 0 0), (.int 0 0), (.int 3 0), (.ref 1906), (.bool true), (.int 181 0), (.ref 1907), .none, (.ref 1908), (.ref 1909), (.ref 1910), (.int 2967 0), (.int 1515 0), (.str (S "/claim/cut.py") 2968)]), #[]⟩
def o1912 : Obj := ⟨(.type "function"), none, (fD (inC 201 8) (S "book") (S "Desk.book") 3 [] .none .none .none (.str (S "bindertongue.desks") 2827) none (.ref 1911) .none 0), #[]⟩
def o1913 : Obj := ⟨(.type "tuple"), none, (.seq #[] 0), #[]⟩
def o1914 : Obj := ⟨.none, none, (.fields #[]), #[]⟩
def o1915 : Obj := ⟨(.type "tuple"), none, (.seq #[(.str (S "self") 2973), (.str (S "book") 2974), (.str (S "found") 2975)] 0), #[]⟩
def o1916 : Obj := ⟨(.type "tuple"), none, (.seq #[] 0), #[]⟩
def o1917 : Obj := ⟨.none, none, (fD (inC 201 9) (S "word") (S "Desk.word") 0 [] .none .none .none .none none .none .none 0), #[]⟩
def o1918 : Obj := ⟨(.type "code"), none, (.fields #[(.str (S "word") 2970), (.str (S "Desk.word") 2971), (.str (S "/claim/cut.py") 2972), (.int 1519 0), (.int 1 0), (.int 0 0), (.int 0 0), (.int 3 0), (.ref 1913), (.bool true), (.int 181 0), (.ref 1914), .none, (.ref 1915), (.ref 1916), (.ref 1917), (.int 2976 0), (.int 1519 0), (.str (S "/claim/cut.py") 2977)]), #[]⟩
def o1919 : Obj := ⟨(.type "function"), none, (fD (inC 201 9) (S "word") (S "Desk.word") 3 [] .none .none .none (.str (S "bindertongue.desks") 2827) none (.ref 1918) .none 0), #[]⟩
def o1920 : Obj := ⟨(.type "tuple"), none, (.seq #[(.str (S "begun") 2979), (.str (S "deeds") 2980), (.str (S "past") 2981), (.str (S "rows") 2982)] 0), #[]⟩
def o1921 (p : Params) : Obj := ⟨(.type "dict"), none, (.dict #[en p (S "__module__") 2897 (.str (S "bindertongue.desks") 2827), en p (S "__firstlineno__") 2901 (.int 1472 2900), en p (S "__init__") 2909 (.ref 1858), en p (S "__eq__") 2917 (.ref 1865), en p (S "do") 2926 (.ref 1872), en p (S "undo") 2933 (.ref 1879), en p (S "text") 2939 (.ref 1884), en p (S "read") 2946 (.ref 1891), en p (S "fault") 2954 (.ref 1898), en p (S "fault_place") 2961 (.ref 1905), en p (S "book") 2969 (.ref 1912), en p (S "word") 2978 (.ref 1919), en p (S "__static_attributes__") 2983 (.ref 1920), en p (S "__dict__") 2985 (.ref 1923), en p (S "__weakref__") 2987 (.ref 1924), en p (S "__doc__") 2988 .none, en p (S "__hash__") 2989 .none] 5), #[]⟩
def o1922 : Obj := ⟨(.type "type"), none, (.cls ⟨(S "Desk"), [(.type "object")], [(.ref 1922), (.type "object")], 1921, (S "Desk"), true, [], [], false, none, false⟩), #[none, none, (some (.str (S "Desk") 2890)), (some (.str (S "Desk") 2898)), (some (.builtin "object.__new__")), (some (.bool true))]⟩
def o1923 : Obj := ⟨(.type "getset_descriptor"), none, (.fields #[(.str (S "__dict__") 2984), (.ref 1922), (.builtin "function.__dict__"), (.builtin "function.__dict__#set")]), #[]⟩
def o1924 : Obj := ⟨(.type "getset_descriptor"), none, (.fields #[(.str (S "__weakref__") 2986), (.ref 1922), (.builtin "ExceptionGroup.__weakref__"), .none]), #[]⟩
def o1925 : Obj := ⟨(.type "super"), none, (.fields #[(.ref 1922), (.ref 1922), (.ref 1922)]), #[]⟩
def o1926 : Obj := ⟨(.type "builtin_function_or_method"), none, (.fields #[(.builtin "object.__init_subclass__"), (.ref 1922)]), #[]⟩
def o1927 : Obj := ⟨(.type "tuple"), none, (.seq #[] 0), #[]⟩
def o1928 : Obj := ⟨.none, none, (.fields #[]), #[]⟩
def o1929 : Obj := ⟨.none, none, (fD (top 203) (S "_law_court") (S "_law_court") 0 [] .none .none .none .none none .none .none 0), #[]⟩
def o1930 : Obj := ⟨(.type "code"), none, (.fields #[(.str (S "_law_court") 2994), (.str (S "_law_court") 2995), (.str (S "/claim/cut.py") 2996), (.int 1528 0), (.int 2 0), (.int 0 0), (.int 0 0), (.int 3 0), (.ref 1927), (.bool true), (.int 181 0), (.ref 1928), .none, .none, .none, (.ref 1929), (.int 2997 0), (.int 1528 0), (.str (S "/claim/cut.py") 2998)]), #[]⟩
def o1931 : Obj := ⟨(.type "function"), none, (fD (top 203) (S "_law_court") (S "_law_court") 3 [] .none .none .none (.str (S "law_bindertongue_k11_desks_unbound_and_twins") 2992) none (.ref 1930) .none 0), #[]⟩
def o1932 : Obj := ⟨(.type "tuple"), none, (.seq #[] 0), #[]⟩
def o1933 : Obj := ⟨.none, none, (.fields #[]), #[]⟩
def o1934 : Obj := ⟨(.type "tuple"), none, (.seq #[(.str (S "court") 3003), (.str (S "many") 3004), (.str (S "number") 3005)] 0), #[]⟩
def o1935 : Obj := ⟨(.type "tuple"), none, (.seq #[] 0), #[]⟩
def o1936 : Obj := ⟨.none, none, (fD (top 204) (S "_law_call") (S "_law_call") 0 [] .none .none .none .none none .none .none 0), #[]⟩
def o1937 : Obj := ⟨(.type "code"), none, (.fields #[(.str (S "_law_call") 3000), (.str (S "_law_call") 3001), (.str (S "/claim/cut.py") 3002), (.int 1534 0), (.int 2 0), (.int 0 0), (.int 0 0), (.int 3 0), (.ref 1932), (.bool true), (.int 181 0), (.ref 1933), .none, (.ref 1934), (.ref 1935), (.ref 1936), (.int 3006 0), (.int 1534 0), (.str (S "/claim/cut.py") 3007)]), #[]⟩
def o1938 : Obj := ⟨(.type "function"), none, (fD (top 204) (S "_law_call") (S "_law_call") 3 [] .none .none .none (.str (S "law_bindertongue_k11_desks_unbound_and_twins") 2992) none (.ref 1937) .none 0), #[]⟩
def o1939 : Obj := ⟨(.type "tuple"), none, (.seq #[] 0), #[]⟩
def o1940 : Obj := ⟨.none, none, (.fields #[]), #[]⟩
def o1941 : Obj := ⟨(.type "tuple"), none, (.seq #[(.str (S "court") 3012), (.str (S "some") 3013)] 0), #[]⟩
def o1942 : Obj := ⟨(.type "tuple"), none, (.seq #[] 0), #[]⟩
def o1943 : Obj := ⟨.none, none, (fD (top 205) (S "_law_one_of") (S "_law_one_of") 0 [] .none .none .none .none none .none .none 0), #[]⟩
def o1944 : Obj := ⟨(.type "code"), none, (.fields #[(.str (S "_law_one_of") 3009), (.str (S "_law_one_of") 3010), (.str (S "/claim/cut.py") 3011), (.int 1540 0), (.int 2 0), (.int 0 0), (.int 0 0), (.int 3 0), (.ref 1939), (.bool true), (.int 181 0), (.ref 1940), .none, (.ref 1941), (.ref 1942), (.ref 1943), (.int 3014 0), (.int 1540 0), (.str (S "/claim/cut.py") 3015)]), #[]⟩
def o1945 : Obj := ⟨(.type "function"), none, (fD (top 205) (S "_law_one_of") (S "_law_one_of") 3 [] .none .none .none (.str (S "law_bindertongue_k11_desks_unbound_and_twins") 2992) none (.ref 1944) .none 0), #[]⟩
def o1946 : Obj := ⟨(.type "tuple"), none, (.seq #[] 0), #[]⟩
def o1947 : Obj := ⟨.none, none, (.fields #[]), #[]⟩
def o1948 : Obj := ⟨(.type "tuple"), none, (.seq #[(.str (S "seen") 3020), (.str (S "due") 3021)] 0), #[]⟩
def o1949 : Obj := ⟨(.type "tuple"), none, (.seq #[] 0), #[]⟩
def o1950 : Obj := ⟨.none, none, (fD (top 206) (S "_law_like") (S "_law_like") 0 [] .none .none .none .none none .none .none 0), #[]⟩
def o1951 : Obj := ⟨(.type "code"), none, (.fields #[(.str (S "_law_like") 3017), (.str (S "_law_like") 3018), (.str (S "/claim/cut.py") 3019), (.int 1542 0), (.int 2 0), (.int 0 0), (.int 0 0), (.int 3 0), (.ref 1946), (.bool true), (.int 181 0), (.ref 1947), .none, (.ref 1948), (.ref 1949), (.ref 1950), (.int 3022 0), (.int 1542 0), (.str (S "/claim/cut.py") 3023)]), #[]⟩
def o1952 : Obj := ⟨(.type "function"), none, (fD (top 206) (S "_law_like") (S "_law_like") 3 [] .none .none .none (.str (S "law_bindertongue_k11_desks_unbound_and_twins") 2992) none (.ref 1951) .none 0), #[]⟩
def o1953 : Obj := ⟨(.type "tuple"), none, (.seq #[] 0), #[]⟩
def o1954 : Obj := ⟨.none, none, (.fields #[]), #[]⟩
def o1955 : Obj := ⟨.none, none, (fD (top 207) (S "_law_small") (S "_law_small") 0 [] .none .none .none .none none .none .none 0), #[]⟩
def o1956 : Obj := ⟨(.type "code"), none, (.fields #[(.str (S "_law_small") 3025), (.str (S "_law_small") 3026), (.str (S "/claim/cut.py") 3027), (.int 1544 0), (.int 2 0), (.int 0 0), (.int 0 0), (.int 3 0), (.ref 1953), (.bool true), (.int 181 0), (.ref 1954), .none, .none, .none, (.ref 1955), (.int 3028 0), (.int 1544 0), (.str (S "/claim/cut.py") 3029)]), #[]⟩
def o1957 : Obj := ⟨(.type "function"), none, (fD (top 207) (S "_law_small") (S "_law_small") 3 [] .none .none .none (.str (S "law_bindertongue_k11_desks_unbound_and_twins") 2992) none (.ref 1956) .none 0), #[]⟩
def o1958 : Obj := ⟨(.type "tuple"), none, (.seq #[] 0), #[]⟩
def o1959 : Obj := ⟨.none, none, (.fields #[]), #[]⟩
def o1960 : Obj := ⟨(.type "tuple"), none, (.seq #[(.str (S "rows") 3034), (.str (S "deed") 3035), (.str (S "word") 3036), (.str (S "at") 3037), (.str (S "ahead") 3038), (.str (S "here") 3039), (.str (S "rest") 3040)] 0), #[]⟩
def o1961 : Obj := ⟨(.type "tuple"), none, (.seq #[] 0), #[]⟩
def o1962 : Obj := ⟨.none, none, (fD (top 208) (S "_law_after") (S "_law_after") 0 [] .none .none .none .none none .none .none 0), #[]⟩
def o1963 : Obj := ⟨(.type "code"), none, (.fields #[(.str (S "_law_after") 3031), (.str (S "_law_after") 3032), (.str (S "/claim/cut.py") 3033), (.int 1576 0), (.int 2 0), (.int 0 0), (.int 0 0), (.int 3 0), (.ref 1958), (.bool true), (.int 181 0), (.ref 1959), .none, (.ref 1960), (.ref 1961), (.ref 1962), (.int 3041 0), (.int 1576 0), (.str (S "/claim/cut.py") 3042)]), #[]⟩
def o1964 : Obj := ⟨(.type "function"), none, (fD (top 208) (S "_law_after") (S "_law_after") 3 [] .none .none .none (.str (S "law_bindertongue_k11_desks_unbound_and_twins") 2992) none (.ref 1963) .none 0), #[]⟩
def o1965 : Obj := ⟨(.type "tuple"), none, (.seq #[] 0), #[]⟩
def o1966 : Obj := ⟨.none, none, (.fields #[]), #[]⟩
def o1967 : Obj := ⟨(.type "tuple"), none, (.seq #[(.str (S "desk") 3047), (.str (S "deed") 3048), (.str (S "e") 3049)] 0), #[]⟩
def o1968 : Obj := ⟨(.type "tuple"), none, (.seq #[] 0), #[]⟩
def o1969 : Obj := ⟨.none, none, (fD (top 209) (S "_law_said_of") (S "_law_said_of") 0 [] .none .none .none .none none .none .none 0), #[]⟩
def o1970 : Obj := ⟨(.type "code"), none, (.fields #[(.str (S "_law_said_of") 3044), (.str (S "_law_said_of") 3045), (.str (S "/claim/cut.py") 3046), (.int 1588 0), (.int 2 0), (.int 0 0), (.int 0 0), (.int 3 0), (.ref 1965), (.bool true), (.int 181 0), (.ref 1966), .none, (.ref 1967), (.ref 1968), (.ref 1969), (.int 3050 0), (.int 1588 0), (.str (S "/claim/cut.py") 3051)]), #[]⟩
def o1971 : Obj := ⟨(.type "function"), none, (fD (top 209) (S "_law_said_of") (S "_law_said_of") 3 [] .none .none .none (.str (S "law_bindertongue_k11_desks_unbound_and_twins") 2992) none (.ref 1970) .none 0), #[]⟩
def o1972 : Obj := ⟨(.type "tuple"), none, (.seq #[] 0), #[]⟩
def o1973 : Obj := ⟨.none, none, (.fields #[]), #[]⟩
def o1974 : Obj := ⟨(.type "tuple"), none, (.seq #[(.str (S "court") 3056), (.str (S "rows") 3057), (.str (S "texts") 3058), (.str (S "at") 3059), (.str (S "word") 3060)] 0), #[]⟩
def o1975 : Obj := ⟨(.type "tuple"), none, (.seq #[] 0), #[]⟩
def o1976 : Obj := ⟨.none, none, (fD (top 210) (S "_law_deed") (S "_law_deed") 0 [] .none .none .none .none none .none .none 0), #[]⟩
def o1977 : Obj := ⟨(.type "code"), none, (.fields #[(.str (S "_law_deed") 3053), (.str (S "_law_deed") 3054), (.str (S "/claim/cut.py") 3055), (.int 1596 0), (.int 3 0), (.int 0 0), (.int 0 0), (.int 3 0), (.ref 1972), (.bool true), (.int 181 0), (.ref 1973), .none, (.ref 1974), (.ref 1975), (.ref 1976), (.int 3061 0), (.int 1596 0), (.str (S "/claim/cut.py") 3062)]), #[]⟩
def o1978 : Obj := ⟨(.type "function"), none, (fD (top 210) (S "_law_deed") (S "_law_deed") 3 [] .none .none .none (.str (S "law_bindertongue_k11_desks_unbound_and_twins") 2992) none (.ref 1977) .none 0), #[]⟩
def o1979 : Obj := ⟨(.type "tuple"), none, (.seq #[] 0), #[]⟩
def o1980 : Obj := ⟨.none, none, (.fields #[]), #[]⟩
def o1981 : Obj := ⟨(.type "tuple"), none, (.seq #[(.str (S "after") 3067)] 0), #[]⟩
def o1982 : Obj := ⟨(.type "tuple"), none, (.seq #[] 0), #[]⟩
def o1983 : Obj := ⟨.none, none, (fD (top 211) (S "_law_due_of") (S "_law_due_of") 0 [] .none .none .none .none none .none .none 0), #[]⟩
def o1984 : Obj := ⟨(.type "code"), none, (.fields #[(.str (S "_law_due_of") 3064), (.str (S "_law_due_of") 3065), (.str (S "/claim/cut.py") 3066), (.int 1600 0), (.int 1 0), (.int 0 0), (.int 0 0), (.int 3 0), (.ref 1979), (.bool true), (.int 181 0), (.ref 1980), .none, (.ref 1981), (.ref 1982), (.ref 1983), (.int 3068 0), (.int 1600 0), (.str (S "/claim/cut.py") 3069)]), #[]⟩
def o1985 : Obj := ⟨(.type "function"), none, (fD (top 211) (S "_law_due_of") (S "_law_due_of") 3 [] .none .none .none (.str (S "law_bindertongue_k11_desks_unbound_and_twins") 2992) none (.ref 1984) .none 0), #[]⟩
def o1986 : Obj := ⟨(.type "tuple"), none, (.seq #[] 0), #[]⟩
def o1987 : Obj := ⟨.none, none, (.fields #[]), #[]⟩
def o1988 : Obj := ⟨(.type "tuple"), none, (.seq #[(.str (S "court") 3074), (.str (S "judge") 3075), (.str (S "turner") 3076), (.str (S "page") 3077), (.str (S "trees") 3078), (.str (S "lap") 3079), (.str (S "name") 3080)] 0), #[]⟩
def o1989 : Obj := ⟨(.type "tuple"), none, (.seq #[] 0), #[]⟩
def o1990 : Obj := ⟨.none, none, (fD (top 212) (S "_law_small_asks") (S "_law_small_asks") 0 [] .none .none .none .none none .none .none 0), #[]⟩
def o1991 : Obj := ⟨(.type "code"), none, (.fields #[(.str (S "_law_small_asks") 3071), (.str (S "_law_small_asks") 3072), (.str (S "/claim/cut.py") 3073), (.int 1602 0), (.int 1 0), (.int 0 0), (.int 0 0), (.int 3 0), (.ref 1986), (.bool true), (.int 181 0), (.ref 1987), .none, (.ref 1988), (.ref 1989), (.ref 1990), (.int 3081 0), (.int 1602 0), (.str (S "/claim/cut.py") 3082)]), #[]⟩
def o1992 : Obj := ⟨(.type "function"), none, (fD (top 212) (S "_law_small_asks") (S "_law_small_asks") 3 [] .none .none .none (.str (S "law_bindertongue_k11_desks_unbound_and_twins") 2992) none (.ref 1991) .none 0), #[]⟩
def o1993 : Obj := ⟨(.type "tuple"), none, (.seq #[] 0), #[]⟩
def o1994 : Obj := ⟨.none, none, (.fields #[]), #[]⟩
def o1995 : Obj := ⟨.none, none, (fD (top 213) (S "_law_is_one") (S "_law_is_one") 0 [] .none .none .none .none none .none .none 0), #[]⟩
def o1996 : Obj := ⟨(.type "code"), none, (.fields #[(.str (S "_law_is_one") 3084), (.str (S "_law_is_one") 3085), (.str (S "/claim/cut.py") 3086), (.int 1610 0), (.int 1 0), (.int 0 0), (.int 0 0), (.int 3 0), (.ref 1993), (.bool true), (.int 181 0), (.ref 1994), .none, .none, .none, (.ref 1995), (.int 3087 0), (.int 1610 0), (.str (S "/claim/cut.py") 3088)]), #[]⟩
def o1997 : Obj := ⟨(.type "function"), none, (fD (top 213) (S "_law_is_one") (S "_law_is_one") 3 [] .none .none .none (.str (S "law_bindertongue_k11_desks_unbound_and_twins") 2992) none (.ref 1996) .none 0), #[]⟩
def o1998 : Obj := ⟨(.type "tuple"), none, (.seq #[] 0), #[]⟩
def o1999 : Obj := ⟨.none, none, (.fields #[]), #[]⟩
def o2000 : Obj := ⟨.none, none, (fD (top 214) (S "_law_by_hand") (S "_law_by_hand") 0 [] .none .none .none .none none .none .none 0), #[]⟩
def o2001 : Obj := ⟨(.type "code"), none, (.fields #[(.str (S "_law_by_hand") 3090), (.str (S "_law_by_hand") 3091), (.str (S "/claim/cut.py") 3092), (.int 1642 0), (.int 0 0), (.int 0 0), (.int 0 0), (.int 3 0), (.ref 1998), (.bool true), (.int 181 0), (.ref 1999), .none, .none, .none, (.ref 2000), (.int 3093 0), (.int 1642 0), (.str (S "/claim/cut.py") 3094)]), #[]⟩
def o2002 : Obj := ⟨(.type "function"), none, (fD (top 214) (S "_law_by_hand") (S "_law_by_hand") 3 [] .none .none .none (.str (S "law_bindertongue_k11_desks_unbound_and_twins") 2992) none (.ref 2001) .none 0), #[]⟩
def o2003 : Obj := ⟨(.type "tuple"), none, (.seq #[] 0), #[]⟩
def o2004 : Obj := ⟨.none, none, (.fields #[]), #[]⟩
def o2005 : Obj := ⟨(.type "tuple"), none, (.seq #[(.str (S "cells") 3099)] 0), #[]⟩
def o2006 : Obj := ⟨(.type "tuple"), none, (.seq #[] 0), #[]⟩
def o2007 : Obj := ⟨.none, none, (fD (top 215) (S "law") (S "law") 0 [] .none .none .none .none none .none .none 0), #[]⟩
def o2008 : Obj := ⟨(.type "code"), none, (.fields #[(.str (S "law") 3096), (.str (S "law") 3097), (.str (S "/claim/cut.py") 3098), (.int 1657 0), (.int 1 0), (.int 0 0), (.int 0 0), (.int 3 0), (.ref 2003), (.bool true), (.int 181 0), (.ref 2004), .none, (.ref 2005), (.ref 2006), (.ref 2007), (.int 3100 0), (.int 1657 0), (.str (S "/claim/cut.py") 3101)]), #[]⟩
def o2009 : Obj := ⟨(.type "function"), none, (fD (top 215) (S "law") (S "law") 3 [] .none .none .none (.str (S "law_bindertongue_k11_desks_unbound_and_twins") 2992) none (.ref 2008) .none 0), #[]⟩
def T6_0 (p : Params) : PySem.W.BT := N (o3_6 p) (N o7 (N o15 (N o31 (N o63 (N o127 (N o255 (N o511 (N1 o1023) (N1 o1535)) (N o767 (N1 o1279) (N1 o1791))) (N o383 (N o639 (N1 o1151) (N1 o1663)) (N o895 (N1 o1407) (N1 o1919)))) (N o191 (N o319 (N o575 (N1 o1087) (N1 o1599)) (N o831 (N1 o1343) (N1 o1855))) (N o447 (N o703 (N1 o1215) (N1 o1727)) (N o959 (N1 o1471) (N1 o1983))))) (N o95 (N o159 (N o287 (N o543 (N1 o1055) (N1 o1567)) (N o799 (N1 o1311) (N1 o1823))) (N o415 (N o671 (N1 o1183) (N1 o1695)) (N o927 (N1 o1439) (N1 o1951)))) (N o223 (N o351 (N o607 (N1 o1119) (N1 o1631)) (N o863 (N1 o1375) (N1 o1887))) (N o479 (N o735 (N1 o1247) (N1 o1759)) (N o991 (N1 o1503) L))))) (N o47 (N (o79 p) (N o143 (N o271 (N o527 (N1 o1039) (N1 o1551)) (N o783 (N1 o1295) (N1 o1807))) (N o399 (N o655 (N1 o1167) (N1 o1679)) (N o911 (N1 o1423) (N1 o1935)))) (N o207 (N o335 (N o591 (N1 o1103) (N1 o1615)) (N o847 (N1 o1359) (N1 o1871))) (N o463 (N o719 (N1 o1231) (N1 o1743)) (N o975 (N1 o1487) (N1 o1999))))) (N o111 (N o175 (N o303 (N o559 (N1 o1071) (N1 o1583)) (N o815 (N1 o1327) (N1 o1839))) (N o431 (N o687 (N1 o1199) (N1 o1711)) (N o943 (N1 o1455) (N1 o1967)))) (N o239 (N o367 (N o623 (N1 o1135) (N1 o1647)) (N o879 (N1 o1391) (N1 o1903))) (N o495 (N o751 (N1 o1263) (N1 o1775)) (N o1007 (N1 o1519) L)))))) (N o23 (N o39 (N o71 (N o135 (N o263 (N o519 (N1 o1031) (N1 o1543)) (N o775 (N1 o1287) (N1 o1799))) (N o391 (N o647 (N1 o1159) (N1 o1671)) (N o903 (N1 o1415) (N1 o1927)))) (N o199 (N (o327 p) (N o583 (N1 o1095) (N1 o1607)) (N o839 (N1 (o1351 p)) (N1 o1863))) (N o455 (N o711 (N1 o1223) (N1 o1735)) (N o967 (N1 o1479) (N1 o1991))))) (N o103 (N o167 (N o295 (N o551 (N1 o1063) (N1 o1575)) (N o807 (N1 o1319) (N1 o1831))) (N o423 (N o679 (N1 o1191) (N1 o1703)) (N o935 (N1 o1447) (N1 o1959)))) (N o231 (N o359 (N o615 (N1 o1127) (N1 o1639)) (N o871 (N1 o1383) (N1 o1895))) (N o487 (N o743 (N1 o1255) (N1 o1767)) (N o999 (N1 o1511) L))))) (N o55 (N o87 (N o151 (N o279 (N o535 (N1 o1047) (N1 o1559)) (N o791 (N1 o1303) (N1 o1815))) (N o407 (N o663 (N1 o1175) (N1 o1687)) (N o919 (N1 o1431) (N1 o1943)))) (N o215 (N o343 (N o599 (N1 o1111) (N1 o1623)) (N (o855 p) (N1 o1367) (N1 o1879))) (N o471 (N o727 (N1 o1239) (N1 o1751)) (N o983 (N1 o1495) (N1 o2007))))) (N o119 (N o183 (N o311 (N o567 (N1 o1079) (N1 o1591)) (N o823 (N1 o1335) (N1 (o1847 p)))) (N o439 (N o695 (N1 o1207) (N1 o1719)) (N o951 (N1 o1463) (N1 o1975)))) (N o247 (N o375 (N o631 (N1 o1143) (N1 o1655)) (N o887 (N1 o1399) (N1 o1911))) (N o503 (N o759 (N1 o1271) (N1 o1783)) (N o1015 (N1 o1527) L))))))) (N o11 (N o19 (N o35 (N o67 (N o131 (N o259 (N o515 (N1 o1027) (N1 o1539)) (N o771 (N1 o1283) (N1 o1795))) (N o387 (N o643 (N1 o1155) (N1 o1667)) (N (o899 p) (N1 o1411) (N1 o1923)))) (N o195 (N o323 (N o579 (N1 o1091) (N1 o1603)) (N o835 (N1 o1347) (N1 o1859))) (N o451 (N o707 (N1 (o1219 p)) (N1 o1731)) (N (o963 p) (N1 o1475) (N1 o1987))))) (N o99 (N o163 (N o291 (N o547 (N1 o1059) (N1 o1571)) (N o803 (N1 o1315) (N1 o1827))) (N o419 (N o675 (N1 o1187) (N1 o1699)) (N o931 (N1 o1443) (N1 o1955)))) (N o227 (N o355 (N o611 (N1 o1123) (N1 o1635)) (N o867 (N1 o1379) (N1 o1891))) (N o483 (N o739 (N1 o1251) (N1 o1763)) (N o995 (N1 o1507) L))))) (N o51 (N o83 (N o147 (N o275 (N o531 (N1 o1043) (N1 o1555)) (N o787 (N1 o1299) (N1 o1811))) (N o403 (N o659 (N1 o1171) (N1 o1683)) (N o915 (N1 o1427) (N1 o1939)))) (N o211 (N o339 (N o595 (N1 o1107) (N1 o1619)) (N o851 (N1 o1363) (N1 o1875))) (N o467 (N o723 (N1 o1235) (N1 o1747)) (N o979 (N1 o1491) (N1 o2003))))) (N o115 (N o179 (N o307 (N o563 (N1 o1075) (N1 o1587)) (N o819 (N1 o1331) (N1 o1843))) (N o435 (N o691 (N1 o1203) (N1 o1715)) (N o947 (N1 o1459) (N1 o1971)))) (N o243 (N o371 (N o627 (N1 o1139) (N1 o1651)) (N o883 (N1 o1395) (N1 o1907))) (N o499 (N o755 (N1 o1267) (N1 o1779)) (N o1011 (N1 o1523) L)))))) (N o27 (N o43 (N o75 (N o139 (N o267 (N o523 (N1 o1035) (N1 o1547)) (N o779 (N1 o1291) (N1 o1803))) (N o395 (N o651 (N1 o1163) (N1 o1675)) (N (o907 p) (N1 o1419) (N1 o1931)))) (N o203 (N o331 (N o587 (N1 o1099) (N1 o1611)) (N o843 (N1 o1355) (N1 o1867))) (N o459 (N (o715 p) (N1 o1227) (N1 o1739)) (N o971 (N1 o1483) (N1 o1995))))) (N o107 (N o171 (N o299 (N o555 (N1 o1067) (N1 o1579)) (N o811 (N1 o1323) (N1 o1835))) (N o427 (N o683 (N1 o1195) (N1 o1707)) (N o939 (N1 o1451) (N1 o1963)))) (N o235 (N o363 (N o619 (N1 o1131) (N1 o1643)) (N o875 (N1 o1387) (N1 o1899))) (N o491 (N o747 (N1 o1259) (N1 o1771)) (N o1003 (N1 o1515) L))))) (N o59 (N (o91 p) (N o155 (N o283 (N o539 (N1 o1051) (N1 o1563)) (N o795 (N1 o1307) (N1 o1819))) (N o411 (N o667 (N1 o1179) (N1 o1691)) (N o923 (N1 o1435) (N1 o1947)))) (N o219 (N (o347 p) (N o603 (N1 o1115) (N1 o1627)) (N o859 (N1 o1371) (N1 o1883))) (N o475 (N o731 (N1 o1243) (N1 o1755)) (N o987 (N1 o1499) L)))) (N o123 (N o187 (N o315 (N o571 (N1 o1083) (N1 o1595)) (N o827 (N1 o1339) (N1 o1851))) (N o443 (N o699 (N1 (o1211 p)) (N1 o1723)) (N o955 (N1 o1467) (N1 o1979)))) (N o251 (N o379 (N o635 (N1 o1147) (N1 o1659)) (N o891 (N1 o1403) (N1 o1915))) (N o507 (N o763 (N1 o1275) (N1 o1787)) (N o1019 (N1 o1531) L)))))))
def T6_1 (p : Params) : PySem.W.BT := N o5 (N o9 (N o17 (N o33 (N o65 (N o129 (N o257 (N o513 (N1 o1025) (N1 o1537)) (N o769 (N1 o1281) (N1 o1793))) (N o385 (N o641 (N1 o1153) (N1 o1665)) (N o897 (N1 o1409) (N1 (o1921 p))))) (N o193 (N o321 (N o577 (N1 o1089) (N1 o1601)) (N o833 (N1 o1345) (N1 o1857))) (N o449 (N o705 (N1 o1217) (N1 o1729)) (N o961 (N1 o1473) (N1 o1985))))) (N o97 (N o161 (N o289 (N o545 (N1 o1057) (N1 (o1569 p))) (N o801 (N1 o1313) (N1 o1825))) (N o417 (N o673 (N1 o1185) (N1 o1697)) (N o929 (N1 o1441) (N1 o1953)))) (N o225 (N o353 (N o609 (N1 o1121) (N1 o1633)) (N o865 (N1 o1377) (N1 o1889))) (N o481 (N o737 (N1 o1249) (N1 (o1761 p))) (N o993 (N1 o1505) L))))) (N o49 (N o81 (N o145 (N o273 (N o529 (N1 o1041) (N1 o1553)) (N (o785 p) (N1 o1297) (N1 o1809))) (N o401 (N o657 (N1 o1169) (N1 o1681)) (N o913 (N1 o1425) (N1 o1937)))) (N o209 (N o337 (N o593 (N1 o1105) (N1 o1617)) (N o849 (N1 o1361) (N1 o1873))) (N o465 (N o721 (N1 o1233) (N1 o1745)) (N o977 (N1 o1489) (N1 o2001))))) (N o113 (N o177 (N o305 (N o561 (N1 o1073) (N1 o1585)) (N o817 (N1 o1329) (N1 o1841))) (N o433 (N o689 (N1 o1201) (N1 o1713)) (N o945 (N1 o1457) (N1 o1969)))) (N o241 (N o369 (N o625 (N1 o1137) (N1 o1649)) (N o881 (N1 o1393) (N1 o1905))) (N o497 (N o753 (N1 o1265) (N1 o1777)) (N o1009 (N1 o1521) L)))))) (N o25 (N o41 (N (o73 p) (N o137 (N o265 (N o521 (N1 o1033) (N1 o1545)) (N o777 (N1 o1289) (N1 o1801))) (N o393 (N o649 (N1 o1161) (N1 o1673)) (N o905 (N1 o1417) (N1 o1929)))) (N o201 (N o329 (N o585 (N1 o1097) (N1 o1609)) (N o841 (N1 o1353) (N1 o1865))) (N (o457 p) (N o713 (N1 o1225) (N1 o1737)) (N o969 (N1 o1481) (N1 o1993))))) (N o105 (N o169 (N o297 (N o553 (N1 o1065) (N1 o1577)) (N o809 (N1 o1321) (N1 o1833))) (N o425 (N (o681 p) (N1 o1193) (N1 o1705)) (N o937 (N1 o1449) (N1 o1961)))) (N o233 (N o361 (N o617 (N1 o1129) (N1 o1641)) (N o873 (N1 o1385) (N1 o1897))) (N o489 (N o745 (N1 o1257) (N1 o1769)) (N o1001 (N1 o1513) L))))) (N o57 (N o89 (N o153 (N o281 (N o537 (N1 o1049) (N1 o1561)) (N o793 (N1 o1305) (N1 o1817))) (N o409 (N o665 (N1 o1177) (N1 o1689)) (N o921 (N1 o1433) (N1 o1945)))) (N o217 (N o345 (N o601 (N1 o1113) (N1 o1625)) (N o857 (N1 o1369) (N1 o1881))) (N o473 (N o729 (N1 o1241) (N1 (o1753 p))) (N o985 (N1 o1497) (N1 o2009))))) (N o121 (N o185 (N o313 (N o569 (N1 o1081) (N1 o1593)) (N o825 (N1 o1337) (N1 o1849))) (N o441 (N o697 (N1 o1209) (N1 o1721)) (N o953 (N1 o1465) (N1 o1977)))) (N o249 (N o377 (N o633 (N1 o1145) (N1 o1657)) (N o889 (N1 o1401) (N1 o1913))) (N o505 (N o761 (N1 o1273) (N1 o1785)) (N o1017 (N1 o1529) L))))))) (N o13 (N o21 (N (o37 p) (N o69 (N o133 (N o261 (N o517 (N1 o1029) (N1 o1541)) (N o773 (N1 o1285) (N1 o1797))) (N o389 (N o645 (N1 o1157) (N1 o1669)) (N o901 (N1 o1413) (N1 o1925)))) (N o197 (N o325 (N o581 (N1 o1093) (N1 o1605)) (N o837 (N1 o1349) (N1 o1861))) (N o453 (N o709 (N1 o1221) (N1 o1733)) (N o965 (N1 o1477) (N1 o1989))))) (N o101 (N o165 (N o293 (N o549 (N1 o1061) (N1 o1573)) (N (o805 p) (N1 o1317) (N1 o1829))) (N o421 (N o677 (N1 o1189) (N1 o1701)) (N o933 (N1 o1445) (N1 o1957)))) (N o229 (N o357 (N o613 (N1 o1125) (N1 o1637)) (N o869 (N1 o1381) (N1 o1893))) (N (o485 p) (N o741 (N1 o1253) (N1 o1765)) (N o997 (N1 o1509) L))))) (N o53 (N (o85 p) (N o149 (N o277 (N o533 (N1 o1045) (N1 o1557)) (N o789 (N1 o1301) (N1 o1813))) (N o405 (N (o661 p) (N1 o1173) (N1 o1685)) (N o917 (N1 o1429) (N1 o1941)))) (N o213 (N o341 (N o597 (N1 o1109) (N1 o1621)) (N o853 (N1 o1365) (N1 o1877))) (N o469 (N o725 (N1 o1237) (N1 o1749)) (N o981 (N1 o1493) (N1 o2005))))) (N o117 (N o181 (N o309 (N o565 (N1 o1077) (N1 o1589)) (N o821 (N1 o1333) (N1 o1845))) (N o437 (N o693 (N1 o1205) (N1 o1717)) (N o949 (N1 o1461) (N1 o1973)))) (N o245 (N (o373 p) (N o629 (N1 o1141) (N1 o1653)) (N o885 (N1 o1397) (N1 o1909))) (N o501 (N o757 (N1 o1269) (N1 o1781)) (N o1013 (N1 o1525) L)))))) (N o29 (N o45 (N o77 (N o141 (N o269 (N o525 (N1 o1037) (N1 o1549)) (N o781 (N1 o1293) (N1 o1805))) (N o397 (N (o653 p) (N1 o1165) (N1 o1677)) (N o909 (N1 o1421) (N1 o1933)))) (N o205 (N o333 (N o589 (N1 o1101) (N1 o1613)) (N o845 (N1 o1357) (N1 o1869))) (N o461 (N o717 (N1 o1229) (N1 o1741)) (N o973 (N1 o1485) (N1 o1997))))) (N o109 (N o173 (N o301 (N o557 (N1 o1069) (N1 o1581)) (N o813 (N1 o1325) (N1 o1837))) (N o429 (N o685 (N1 o1197) (N1 o1709)) (N o941 (N1 o1453) (N1 o1965)))) (N o237 (N o365 (N o621 (N1 o1133) (N1 o1645)) (N o877 (N1 o1389) (N1 o1901))) (N o493 (N o749 (N1 o1261) (N1 o1773)) (N o1005 (N1 o1517) L))))) (N o61 (N o93 (N o157 (N o285 (N o541 (N1 o1053) (N1 o1565)) (N o797 (N1 o1309) (N1 o1821))) (N o413 (N o669 (N1 o1181) (N1 o1693)) (N o925 (N1 o1437) (N1 o1949)))) (N o221 (N o349 (N o605 (N1 o1117) (N1 o1629)) (N o861 (N1 o1373) (N1 o1885))) (N o477 (N (o733 p) (N1 o1245) (N1 o1757)) (N o989 (N1 o1501) L)))) (N o125 (N o189 (N o317 (N o573 (N1 o1085) (N1 o1597)) (N o829 (N1 o1341) (N1 o1853))) (N o445 (N o701 (N1 o1213) (N1 o1725)) (N o957 (N1 o1469) (N1 o1981)))) (N o253 (N (o381 p) (N o637 (N1 (o1149 p)) (N1 o1661)) (N o893 (N1 o1405) (N1 o1917))) (N o509 (N o765 (N1 o1277) (N1 o1789)) (N o1021 (N1 o1533) L)))))))
def T6_2 (p : Params) : PySem.W.BT := N o4 (N o8 (N o16 (N o32 (N o64 (N o128 (N o256 (N o512 (N1 o1024) (N1 o1536)) (N o768 (N1 o1280) (N1 o1792))) (N o384 (N o640 (N1 o1152) (N1 o1664)) (N o896 (N1 o1408) (N1 o1920)))) (N o192 (N o320 (N o576 (N1 o1088) (N1 o1600)) (N o832 (N1 o1344) (N1 o1856))) (N o448 (N o704 (N1 o1216) (N1 o1728)) (N o960 (N1 o1472) (N1 o1984))))) (N o96 (N o160 (N o288 (N o544 (N1 o1056) (N1 o1568)) (N o800 (N1 o1312) (N1 o1824))) (N o416 (N o672 (N1 (o1184 p)) (N1 o1696)) (N o928 (N1 o1440) (N1 o1952)))) (N o224 (N o352 (N o608 (N1 o1120) (N1 o1632)) (N o864 (N1 o1376) (N1 o1888))) (N o480 (N o736 (N1 o1248) (N1 o1760)) (N o992 (N1 o1504) L))))) (N o48 (N o80 (N o144 (N o272 (N o528 (N1 o1040) (N1 o1552)) (N o784 (N1 o1296) (N1 o1808))) (N o400 (N o656 (N1 o1168) (N1 o1680)) (N o912 (N1 o1424) (N1 o1936)))) (N o208 (N o336 (N o592 (N1 o1104) (N1 o1616)) (N o848 (N1 o1360) (N1 o1872))) (N o464 (N o720 (N1 o1232) (N1 o1744)) (N o976 (N1 o1488) (N1 o2000))))) (N o112 (N o176 (N o304 (N o560 (N1 o1072) (N1 o1584)) (N o816 (N1 o1328) (N1 o1840))) (N o432 (N o688 (N1 o1200) (N1 o1712)) (N o944 (N1 o1456) (N1 o1968)))) (N o240 (N o368 (N o624 (N1 o1136) (N1 o1648)) (N o880 (N1 o1392) (N1 o1904))) (N (o496 p) (N o752 (N1 o1264) (N1 o1776)) (N o1008 (N1 o1520) L)))))) (N (o24 p) (N o40 (N o72 (N o136 (N o264 (N o520 (N1 o1032) (N1 o1544)) (N o776 (N1 o1288) (N1 o1800))) (N o392 (N o648 (N1 o1160) (N1 o1672)) (N o904 (N1 o1416) (N1 o1928)))) (N o200 (N o328 (N o584 (N1 o1096) (N1 o1608)) (N o840 (N1 o1352) (N1 o1864))) (N o456 (N o712 (N1 o1224) (N1 o1736)) (N o968 (N1 o1480) (N1 o1992))))) (N o104 (N o168 (N o296 (N o552 (N1 o1064) (N1 o1576)) (N o808 (N1 o1320) (N1 o1832))) (N o424 (N o680 (N1 o1192) (N1 o1704)) (N o936 (N1 o1448) (N1 o1960)))) (N o232 (N o360 (N o616 (N1 o1128) (N1 o1640)) (N o872 (N1 o1384) (N1 o1896))) (N o488 (N o744 (N1 o1256) (N1 o1768)) (N o1000 (N1 o1512) L))))) (N o56 (N o88 (N o152 (N o280 (N o536 (N1 o1048) (N1 o1560)) (N o792 (N1 o1304) (N1 o1816))) (N o408 (N o664 (N1 (o1176 p)) (N1 o1688)) (N o920 (N1 o1432) (N1 o1944)))) (N o216 (N o344 (N o600 (N1 o1112) (N1 o1624)) (N o856 (N1 o1368) (N1 o1880))) (N o472 (N o728 (N1 o1240) (N1 o1752)) (N o984 (N1 o1496) (N1 o2008))))) (N o120 (N o184 (N o312 (N o568 (N1 o1080) (N1 o1592)) (N o824 (N1 o1336) (N1 o1848))) (N o440 (N o696 (N1 o1208) (N1 o1720)) (N o952 (N1 o1464) (N1 o1976)))) (N o248 (N o376 (N o632 (N1 o1144) (N1 o1656)) (N o888 (N1 o1400) (N1 o1912))) (N (o504 p) (N o760 (N1 o1272) (N1 o1784)) (N o1016 (N1 o1528) L))))))) (N o12_6 (N o20 (N o36 (N o68 (N o132 (N o260 (N o516 (N1 o1028) (N1 o1540)) (N o772 (N1 o1284) (N1 o1796))) (N o388 (N o644 (N1 (o1156 p)) (N1 o1668)) (N o900 (N1 o1412) (N1 o1924)))) (N o196 (N o324 (N o580 (N1 o1092) (N1 o1604)) (N o836 (N1 o1348) (N1 o1860))) (N o452 (N o708 (N1 o1220) (N1 o1732)) (N o964 (N1 o1476) (N1 o1988))))) (N o100 (N o164 (N o292 (N o548 (N1 o1060) (N1 o1572)) (N o804 (N1 o1316) (N1 o1828))) (N o420 (N o676 (N1 o1188) (N1 o1700)) (N o932 (N1 o1444) (N1 o1956)))) (N o228 (N o356 (N o612 (N1 o1124) (N1 o1636)) (N o868 (N1 o1380) (N1 o1892))) (N o484 (N o740 (N1 o1252) (N1 o1764)) (N o996 (N1 o1508) L))))) (N (o52 p) (N o84 (N o148 (N o276 (N o532 (N1 o1044) (N1 o1556)) (N o788 (N1 o1300) (N1 o1812))) (N o404 (N o660 (N1 o1172) (N1 o1684)) (N o916 (N1 o1428) (N1 o1940)))) (N o212 (N o340 (N o596 (N1 o1108) (N1 o1620)) (N o852 (N1 o1364) (N1 o1876))) (N o468 (N o724 (N1 o1236) (N1 o1748)) (N o980 (N1 o1492) (N1 o2004))))) (N o116 (N o180 (N o308 (N o564 (N1 o1076) (N1 o1588)) (N o820 (N1 o1332) (N1 o1844))) (N (o436 p) (N o692 (N1 o1204) (N1 o1716)) (N o948 (N1 o1460) (N1 o1972)))) (N o244 (N o372 (N o628 (N1 o1140) (N1 o1652)) (N o884 (N1 o1396) (N1 o1908))) (N o500 (N o756 (N1 o1268) (N1 o1780)) (N o1012 (N1 o1524) L)))))) (N o28 (N o44 (N o76 (N o140 (N o268 (N o524 (N1 o1036) (N1 o1548)) (N o780 (N1 o1292) (N1 (o1804 p)))) (N o396 (N o652 (N1 o1164) (N1 o1676)) (N o908 (N1 o1420) (N1 o1932)))) (N o204 (N o332 (N o588 (N1 o1100) (N1 o1612)) (N o844 (N1 o1356) (N1 o1868))) (N o460 (N o716 (N1 o1228) (N1 o1740)) (N o972 (N1 o1484) (N1 o1996))))) (N o108 (N o172 (N o300 (N o556 (N1 o1068) (N1 o1580)) (N o812 (N1 o1324) (N1 o1836))) (N o428 (N o684 (N1 o1196) (N1 o1708)) (N o940 (N1 o1452) (N1 o1964)))) (N o236 (N o364 (N o620 (N1 o1132) (N1 o1644)) (N o876 (N1 o1388) (N1 o1900))) (N o492 (N o748 (N1 o1260) (N1 o1772)) (N o1004 (N1 o1516) L))))) (N o60 (N o92 (N (o156 p) (N o284 (N o540 (N1 o1052) (N1 o1564)) (N o796 (N1 o1308) (N1 o1820))) (N o412 (N o668 (N1 o1180) (N1 o1692)) (N o924 (N1 o1436) (N1 o1948)))) (N o220 (N o348 (N o604 (N1 o1116) (N1 o1628)) (N o860 (N1 o1372) (N1 o1884))) (N o476 (N o732 (N1 o1244) (N1 o1756)) (N o988 (N1 o1500) L)))) (N o124 (N o188 (N o316 (N o572 (N1 o1084) (N1 o1596)) (N o828 (N1 o1340) (N1 o1852))) (N o444 (N o700 (N1 o1212) (N1 o1724)) (N o956 (N1 o1468) (N1 o1980)))) (N o252 (N o380 (N o636 (N1 o1148) (N1 (o1660 p))) (N o892 (N1 o1404) (N1 o1916))) (N o508 (N o764 (N1 o1276) (N1 o1788)) (N o1020 (N1 o1532) L)))))))
def T6_3 (p : Params) : PySem.W.BT := N o6 (N o10 (N o18 (N o34 (N o66 (N o130 (N o258 (N o514 (N1 o1026) (N1 o1538)) (N o770 (N1 o1282) (N1 o1794))) (N o386 (N o642 (N1 o1154) (N1 o1666)) (N o898 (N1 o1410) (N1 o1922)))) (N o194 (N o322 (N o578 (N1 o1090) (N1 o1602)) (N o834 (N1 o1346) (N1 o1858))) (N o450 (N o706 (N1 o1218) (N1 o1730)) (N o962 (N1 o1474) (N1 o1986))))) (N o98 (N o162 (N o290 (N o546 (N1 o1058) (N1 o1570)) (N o802 (N1 o1314) (N1 o1826))) (N o418 (N o674 (N1 o1186) (N1 o1698)) (N o930 (N1 o1442) (N1 o1954)))) (N o226 (N o354 (N o610 (N1 o1122) (N1 o1634)) (N o866 (N1 o1378) (N1 o1890))) (N o482 (N o738 (N1 o1250) (N1 o1762)) (N o994 (N1 o1506) L))))) (N o50 (N o82 (N o146 (N o274 (N o530 (N1 o1042) (N1 o1554)) (N o786 (N1 o1298) (N1 o1810))) (N o402 (N o658 (N1 o1170) (N1 o1682)) (N o914 (N1 o1426) (N1 o1938)))) (N o210 (N o338 (N (o594 p) (N1 o1106) (N1 o1618)) (N o850 (N1 o1362) (N1 o1874))) (N o466 (N o722 (N1 o1234) (N1 o1746)) (N o978 (N1 o1490) (N1 o2002))))) (N o114 (N o178 (N o306 (N o562 (N1 o1074) (N1 o1586)) (N o818 (N1 o1330) (N1 o1842))) (N o434 (N o690 (N1 o1202) (N1 o1714)) (N o946 (N1 o1458) (N1 o1970)))) (N o242 (N o370 (N o626 (N1 o1138) (N1 o1650)) (N o882 (N1 o1394) (N1 o1906))) (N o498 (N o754 (N1 o1266) (N1 o1778)) (N o1010 (N1 o1522) L)))))) (N o26 (N o42 (N o74 (N o138 (N o266 (N o522 (N1 o1034) (N1 o1546)) (N o778 (N1 o1290) (N1 o1802))) (N o394 (N o650 (N1 o1162) (N1 o1674)) (N o906 (N1 o1418) (N1 o1930)))) (N o202 (N o330 (N o586 (N1 o1098) (N1 o1610)) (N o842 (N1 o1354) (N1 o1866))) (N o458 (N o714 (N1 o1226) (N1 o1738)) (N o970 (N1 o1482) (N1 o1994))))) (N (o106 p) (N o170 (N o298 (N o554 (N1 o1066) (N1 o1578)) (N o810 (N1 o1322) (N1 o1834))) (N o426 (N o682 (N1 o1194) (N1 o1706)) (N o938 (N1 o1450) (N1 o1962)))) (N o234 (N (o362 p) (N o618 (N1 o1130) (N1 o1642)) (N o874 (N1 o1386) (N1 o1898))) (N o490 (N o746 (N1 o1258) (N1 o1770)) (N o1002 (N1 o1514) L))))) (N (o58 p) (N o90 (N o154 (N o282 (N o538 (N1 o1050) (N1 o1562)) (N o794 (N1 o1306) (N1 o1818))) (N o410 (N o666 (N1 o1178) (N1 (o1690 p))) (N o922 (N1 o1434) (N1 o1946)))) (N o218 (N o346 (N o602 (N1 o1114) (N1 o1626)) (N o858 (N1 o1370) (N1 o1882))) (N o474 (N o730 (N1 o1242) (N1 o1754)) (N o986 (N1 o1498) L)))) (N o122 (N o186 (N o314 (N o570 (N1 o1082) (N1 o1594)) (N o826 (N1 o1338) (N1 o1850))) (N o442 (N o698 (N1 o1210) (N1 o1722)) (N o954 (N1 o1466) (N1 o1978)))) (N o250 (N o378 (N o634 (N1 o1146) (N1 o1658)) (N o890 (N1 o1402) (N1 o1914))) (N o506 (N o762 (N1 o1274) (N1 o1786)) (N o1018 (N1 o1530) L))))))) (N o14 (N o22 (N o38 (N o70 (N o134 (N (o262 p) (N o518 (N1 o1030) (N1 o1542)) (N o774 (N1 o1286) (N1 o1798))) (N o390 (N o646 (N1 o1158) (N1 o1670)) (N o902 (N1 o1414) (N1 o1926)))) (N o198 (N o326 (N o582 (N1 o1094) (N1 o1606)) (N o838 (N1 o1350) (N1 o1862))) (N o454 (N o710 (N1 o1222) (N1 o1734)) (N o966 (N1 o1478) (N1 o1990))))) (N o102 (N o166 (N o294 (N o550 (N1 o1062) (N1 o1574)) (N o806 (N1 o1318) (N1 o1830))) (N o422 (N o678 (N1 o1190) (N1 o1702)) (N o934 (N1 o1446) (N1 o1958)))) (N o230 (N o358 (N (o614 p) (N1 o1126) (N1 o1638)) (N o870 (N1 o1382) (N1 o1894))) (N o486 (N o742 (N1 (o1254 p)) (N1 o1766)) (N o998 (N1 o1510) L))))) (N o54 (N o86 (N o150 (N o278 (N o534 (N1 o1046) (N1 o1558)) (N o790 (N1 o1302) (N1 o1814))) (N o406 (N o662 (N1 o1174) (N1 o1686)) (N o918 (N1 o1430) (N1 o1942)))) (N o214 (N o342 (N o598 (N1 o1110) (N1 o1622)) (N o854 (N1 (o1366 p)) (N1 o1878))) (N (o470 p) (N o726 (N1 o1238) (N1 o1750)) (N o982 (N1 o1494) (N1 o2006))))) (N o118 (N o182 (N o310 (N o566 (N1 o1078) (N1 o1590)) (N o822 (N1 o1334) (N1 o1846))) (N o438 (N o694 (N1 o1206) (N1 o1718)) (N o950 (N1 o1462) (N1 o1974)))) (N o246 (N o374 (N o630 (N1 o1142) (N1 o1654)) (N o886 (N1 o1398) (N1 o1910))) (N o502 (N o758 (N1 o1270) (N1 o1782)) (N o1014 (N1 o1526) L)))))) (N (o30 p) (N o46 (N o78 (N o142 (N o270 (N o526 (N1 o1038) (N1 o1550)) (N o782 (N1 o1294) (N1 o1806))) (N o398 (N o654 (N1 o1166) (N1 o1678)) (N o910 (N1 o1422) (N1 o1934)))) (N o206 (N o334 (N o590 (N1 o1102) (N1 o1614)) (N o846 (N1 o1358) (N1 o1870))) (N o462 (N o718 (N1 o1230) (N1 o1742)) (N o974 (N1 o1486) (N1 o1998))))) (N o110 (N (o174 p) (N o302 (N o558 (N1 o1070) (N1 o1582)) (N o814 (N1 o1326) (N1 o1838))) (N o430 (N o686 (N1 o1198) (N1 o1710)) (N o942 (N1 o1454) (N1 o1966)))) (N o238 (N o366 (N o622 (N1 (o1134 p)) (N1 o1646)) (N o878 (N1 o1390) (N1 o1902))) (N o494 (N o750 (N1 o1262) (N1 (o1774 p))) (N o1006 (N1 o1518) L))))) (N o62 (N o94 (N o158 (N o286 (N o542 (N1 o1054) (N1 o1566)) (N o798 (N1 o1310) (N1 o1822))) (N o414 (N o670 (N1 o1182) (N1 o1694)) (N o926 (N1 o1438) (N1 o1950)))) (N o222 (N o350 (N o606 (N1 o1118) (N1 o1630)) (N o862 (N1 o1374) (N1 o1886))) (N o478 (N o734 (N1 (o1246 p)) (N1 o1758)) (N o990 (N1 o1502) L)))) (N o126 (N (o190 p) (N o318 (N o574 (N1 o1086) (N1 o1598)) (N o830 (N1 o1342) (N1 o1854))) (N o446 (N o702 (N1 o1214) (N1 o1726)) (N o958 (N1 o1470) (N1 o1982)))) (N o254 (N o382 (N o638 (N1 o1150) (N1 o1662)) (N o894 (N1 o1406) (N1 o1918))) (N o510 (N o766 (N1 o1278) (N1 o1790)) (N o1022 (N1 o1534) L)))))))
def T6 (p : Params) : PySem.W.BT := N (o0 p) (N (o1 p) (T6_0 p) (T6_1 p)) (N (o2_4 p) (T6_2 p) (T6_3 p))
def T7_0 (p : Params) : PySem.W.BT := N (o3_6 p) (N o7 (N o15 (N o31 (N o63 (N o127 (N o255 (N o511 (N1 o1023) (N1 o1535)) (N o767 (N1 o1279) (N1 o1791))) (N o383 (N o639 (N1 o1151) (N1 o1663)) (N o895 (N1 o1407) (N1 o1919)))) (N o191 (N o319 (N o575 (N1 o1087) (N1 o1599)) (N o831 (N1 o1343) (N1 o1855))) (N o447 (N o703 (N1 o1215) (N1 o1727)) (N o959 (N1 o1471) (N1 o1983))))) (N o95 (N o159 (N o287 (N o543 (N1 o1055) (N1 o1567)) (N o799 (N1 o1311) (N1 o1823))) (N o415 (N o671 (N1 o1183) (N1 o1695)) (N o927 (N1 o1439) (N1 o1951)))) (N o223 (N o351 (N o607 (N1 o1119) (N1 o1631)) (N o863 (N1 o1375) (N1 o1887))) (N o479 (N o735 (N1 o1247) (N1 o1759)) (N o991 (N1 o1503) L))))) (N o47 (N (o79 p) (N o143 (N o271 (N o527 (N1 o1039) (N1 o1551)) (N o783 (N1 o1295) (N1 o1807))) (N o399 (N o655 (N1 o1167) (N1 o1679)) (N o911 (N1 o1423) (N1 o1935)))) (N o207 (N o335 (N o591 (N1 o1103) (N1 o1615)) (N o847 (N1 o1359) (N1 o1871))) (N o463 (N o719 (N1 o1231) (N1 o1743)) (N o975 (N1 o1487) (N1 o1999))))) (N o111 (N o175 (N o303 (N o559 (N1 o1071) (N1 o1583)) (N o815 (N1 o1327) (N1 o1839))) (N o431 (N o687 (N1 o1199) (N1 o1711)) (N o943 (N1 o1455) (N1 o1967)))) (N o239 (N o367 (N o623 (N1 o1135) (N1 o1647)) (N o879 (N1 o1391) (N1 o1903))) (N o495 (N o751 (N1 o1263) (N1 o1775)) (N o1007 (N1 o1519) L)))))) (N o23 (N o39 (N o71 (N o135 (N o263 (N o519 (N1 o1031) (N1 o1543)) (N o775 (N1 o1287) (N1 o1799))) (N o391 (N o647 (N1 o1159) (N1 o1671)) (N o903 (N1 o1415) (N1 o1927)))) (N o199 (N (o327 p) (N o583 (N1 o1095) (N1 o1607)) (N o839 (N1 (o1351 p)) (N1 o1863))) (N o455 (N o711 (N1 o1223) (N1 o1735)) (N o967 (N1 o1479) (N1 o1991))))) (N o103 (N o167 (N o295 (N o551 (N1 o1063) (N1 o1575)) (N o807 (N1 o1319) (N1 o1831))) (N o423 (N o679 (N1 o1191) (N1 o1703)) (N o935 (N1 o1447) (N1 o1959)))) (N o231 (N o359 (N o615 (N1 o1127) (N1 o1639)) (N o871 (N1 o1383) (N1 o1895))) (N o487 (N o743 (N1 o1255) (N1 o1767)) (N o999 (N1 o1511) L))))) (N o55 (N o87 (N o151 (N o279 (N o535 (N1 o1047) (N1 o1559)) (N o791 (N1 o1303) (N1 o1815))) (N o407 (N o663 (N1 o1175) (N1 o1687)) (N o919 (N1 o1431) (N1 o1943)))) (N o215 (N o343 (N o599 (N1 o1111) (N1 o1623)) (N (o855 p) (N1 o1367) (N1 o1879))) (N o471 (N o727 (N1 o1239) (N1 o1751)) (N o983 (N1 o1495) (N1 o2007))))) (N o119 (N o183 (N o311 (N o567 (N1 o1079) (N1 o1591)) (N o823 (N1 o1335) (N1 (o1847 p)))) (N o439 (N o695 (N1 o1207) (N1 o1719)) (N o951 (N1 o1463) (N1 o1975)))) (N o247 (N o375 (N o631 (N1 o1143) (N1 o1655)) (N o887 (N1 o1399) (N1 o1911))) (N o503 (N o759 (N1 o1271) (N1 o1783)) (N o1015 (N1 o1527) L))))))) (N o11 (N o19 (N o35 (N o67 (N o131 (N o259 (N o515 (N1 o1027) (N1 o1539)) (N o771 (N1 o1283) (N1 o1795))) (N o387 (N o643 (N1 o1155) (N1 o1667)) (N (o899 p) (N1 o1411) (N1 o1923)))) (N o195 (N o323 (N o579 (N1 o1091) (N1 o1603)) (N o835 (N1 o1347) (N1 o1859))) (N o451 (N o707 (N1 (o1219 p)) (N1 o1731)) (N (o963 p) (N1 o1475) (N1 o1987))))) (N o99 (N o163 (N o291 (N o547 (N1 o1059) (N1 o1571)) (N o803 (N1 o1315) (N1 o1827))) (N o419 (N o675 (N1 o1187) (N1 o1699)) (N o931 (N1 o1443) (N1 o1955)))) (N o227 (N o355 (N o611 (N1 o1123) (N1 o1635)) (N o867 (N1 o1379) (N1 o1891))) (N o483 (N o739 (N1 o1251) (N1 o1763)) (N o995 (N1 o1507) L))))) (N o51 (N o83 (N o147 (N o275 (N o531 (N1 o1043) (N1 o1555)) (N o787 (N1 o1299) (N1 o1811))) (N o403 (N o659 (N1 o1171) (N1 o1683)) (N o915 (N1 o1427) (N1 o1939)))) (N o211 (N o339 (N o595 (N1 o1107) (N1 o1619)) (N o851 (N1 o1363) (N1 o1875))) (N o467 (N o723 (N1 o1235) (N1 o1747)) (N o979 (N1 o1491) (N1 o2003))))) (N o115 (N o179 (N o307 (N o563 (N1 o1075) (N1 o1587)) (N o819 (N1 o1331) (N1 o1843))) (N o435 (N o691 (N1 o1203) (N1 o1715)) (N o947 (N1 o1459) (N1 o1971)))) (N o243 (N o371 (N o627 (N1 o1139) (N1 o1651)) (N o883 (N1 o1395) (N1 o1907))) (N o499 (N o755 (N1 o1267) (N1 o1779)) (N o1011 (N1 o1523) L)))))) (N o27 (N o43 (N o75 (N o139 (N o267 (N o523 (N1 o1035) (N1 o1547)) (N o779 (N1 o1291) (N1 o1803))) (N o395 (N o651 (N1 o1163) (N1 o1675)) (N (o907 p) (N1 o1419) (N1 o1931)))) (N o203 (N o331 (N o587 (N1 o1099) (N1 o1611)) (N o843 (N1 o1355) (N1 o1867))) (N o459 (N (o715 p) (N1 o1227) (N1 o1739)) (N o971 (N1 o1483) (N1 o1995))))) (N o107 (N o171 (N o299 (N o555 (N1 o1067) (N1 o1579)) (N o811 (N1 o1323) (N1 o1835))) (N o427 (N o683 (N1 o1195) (N1 o1707)) (N o939 (N1 o1451) (N1 o1963)))) (N o235 (N o363 (N o619 (N1 o1131) (N1 o1643)) (N o875 (N1 o1387) (N1 o1899))) (N o491 (N o747 (N1 o1259) (N1 o1771)) (N o1003 (N1 o1515) L))))) (N o59 (N (o91 p) (N o155 (N o283 (N o539 (N1 o1051) (N1 o1563)) (N o795 (N1 o1307) (N1 o1819))) (N o411 (N o667 (N1 o1179) (N1 o1691)) (N o923 (N1 o1435) (N1 o1947)))) (N o219 (N (o347 p) (N o603 (N1 o1115) (N1 o1627)) (N o859 (N1 o1371) (N1 o1883))) (N o475 (N o731 (N1 o1243) (N1 o1755)) (N o987 (N1 o1499) L)))) (N o123 (N o187 (N o315 (N o571 (N1 o1083) (N1 o1595)) (N o827 (N1 o1339) (N1 o1851))) (N o443 (N o699 (N1 (o1211 p)) (N1 o1723)) (N o955 (N1 o1467) (N1 o1979)))) (N o251 (N o379 (N o635 (N1 o1147) (N1 o1659)) (N o891 (N1 o1403) (N1 o1915))) (N o507 (N o763 (N1 o1275) (N1 o1787)) (N o1019 (N1 o1531) L)))))))
def T7_1 (p : Params) : PySem.W.BT := N o5 (N o9 (N o17 (N o33 (N o65 (N o129 (N o257 (N o513 (N1 o1025) (N1 o1537)) (N o769 (N1 o1281) (N1 o1793))) (N o385 (N o641 (N1 o1153) (N1 o1665)) (N o897 (N1 o1409) (N1 (o1921 p))))) (N o193 (N o321 (N o577 (N1 o1089) (N1 o1601)) (N o833 (N1 o1345) (N1 o1857))) (N o449 (N o705 (N1 o1217) (N1 o1729)) (N o961 (N1 o1473) (N1 o1985))))) (N o97 (N o161 (N o289 (N o545 (N1 o1057) (N1 (o1569 p))) (N o801 (N1 o1313) (N1 o1825))) (N o417 (N o673 (N1 o1185) (N1 o1697)) (N o929 (N1 o1441) (N1 o1953)))) (N o225 (N o353 (N o609 (N1 o1121) (N1 o1633)) (N o865 (N1 o1377) (N1 o1889))) (N o481 (N o737 (N1 o1249) (N1 (o1761 p))) (N o993 (N1 o1505) L))))) (N o49 (N o81 (N o145 (N o273 (N o529 (N1 o1041) (N1 o1553)) (N (o785 p) (N1 o1297) (N1 o1809))) (N o401 (N o657 (N1 o1169) (N1 o1681)) (N o913 (N1 o1425) (N1 o1937)))) (N o209 (N o337 (N o593 (N1 o1105) (N1 o1617)) (N o849 (N1 o1361) (N1 o1873))) (N o465 (N o721 (N1 o1233) (N1 o1745)) (N o977 (N1 o1489) (N1 o2001))))) (N o113 (N o177 (N o305 (N o561 (N1 o1073) (N1 o1585)) (N o817 (N1 o1329) (N1 o1841))) (N o433 (N o689 (N1 o1201) (N1 o1713)) (N o945 (N1 o1457) (N1 o1969)))) (N o241 (N o369 (N o625 (N1 o1137) (N1 o1649)) (N o881 (N1 o1393) (N1 o1905))) (N o497 (N o753 (N1 o1265) (N1 o1777)) (N o1009 (N1 o1521) L)))))) (N o25 (N o41 (N (o73 p) (N o137 (N o265 (N o521 (N1 o1033) (N1 o1545)) (N o777 (N1 o1289) (N1 o1801))) (N o393 (N o649 (N1 o1161) (N1 o1673)) (N o905 (N1 o1417) (N1 o1929)))) (N o201 (N o329 (N o585 (N1 o1097) (N1 o1609)) (N o841 (N1 o1353) (N1 o1865))) (N (o457 p) (N o713 (N1 o1225) (N1 o1737)) (N o969 (N1 o1481) (N1 o1993))))) (N o105 (N o169 (N o297 (N o553 (N1 o1065) (N1 o1577)) (N o809 (N1 o1321) (N1 o1833))) (N o425 (N (o681 p) (N1 o1193) (N1 o1705)) (N o937 (N1 o1449) (N1 o1961)))) (N o233 (N o361 (N o617 (N1 o1129) (N1 o1641)) (N o873 (N1 o1385) (N1 o1897))) (N o489 (N o745 (N1 o1257) (N1 o1769)) (N o1001 (N1 o1513) L))))) (N o57 (N o89 (N o153 (N o281 (N o537 (N1 o1049) (N1 o1561)) (N o793 (N1 o1305) (N1 o1817))) (N o409 (N o665 (N1 o1177) (N1 o1689)) (N o921 (N1 o1433) (N1 o1945)))) (N o217 (N o345 (N o601 (N1 o1113) (N1 o1625)) (N o857 (N1 o1369) (N1 o1881))) (N o473 (N o729 (N1 o1241) (N1 (o1753 p))) (N o985 (N1 o1497) (N1 o2009))))) (N o121 (N o185 (N o313 (N o569 (N1 o1081) (N1 o1593)) (N o825 (N1 o1337) (N1 o1849))) (N o441 (N o697 (N1 o1209) (N1 o1721)) (N o953 (N1 o1465) (N1 o1977)))) (N o249 (N o377 (N o633 (N1 o1145) (N1 o1657)) (N o889 (N1 o1401) (N1 o1913))) (N o505 (N o761 (N1 o1273) (N1 o1785)) (N o1017 (N1 o1529) L))))))) (N o13 (N o21 (N (o37 p) (N o69 (N o133 (N o261 (N o517 (N1 o1029) (N1 o1541)) (N o773 (N1 o1285) (N1 o1797))) (N o389 (N o645 (N1 o1157) (N1 o1669)) (N o901 (N1 o1413) (N1 o1925)))) (N o197 (N o325 (N o581 (N1 o1093) (N1 o1605)) (N o837 (N1 o1349) (N1 o1861))) (N o453 (N o709 (N1 o1221) (N1 o1733)) (N o965 (N1 o1477) (N1 o1989))))) (N o101 (N o165 (N o293 (N o549 (N1 o1061) (N1 o1573)) (N (o805 p) (N1 o1317) (N1 o1829))) (N o421 (N o677 (N1 o1189) (N1 o1701)) (N o933 (N1 o1445) (N1 o1957)))) (N o229 (N o357 (N o613 (N1 o1125) (N1 o1637)) (N o869 (N1 o1381) (N1 o1893))) (N (o485 p) (N o741 (N1 o1253) (N1 o1765)) (N o997 (N1 o1509) L))))) (N o53 (N (o85 p) (N o149 (N o277 (N o533 (N1 o1045) (N1 o1557)) (N o789 (N1 o1301) (N1 o1813))) (N o405 (N (o661 p) (N1 o1173) (N1 o1685)) (N o917 (N1 o1429) (N1 o1941)))) (N o213 (N o341 (N o597 (N1 o1109) (N1 o1621)) (N o853 (N1 o1365) (N1 o1877))) (N o469 (N o725 (N1 o1237) (N1 o1749)) (N o981 (N1 o1493) (N1 o2005))))) (N o117 (N o181 (N o309 (N o565 (N1 o1077) (N1 o1589)) (N o821 (N1 o1333) (N1 o1845))) (N o437 (N o693 (N1 o1205) (N1 o1717)) (N o949 (N1 o1461) (N1 o1973)))) (N o245 (N (o373 p) (N o629 (N1 o1141) (N1 o1653)) (N o885 (N1 o1397) (N1 o1909))) (N o501 (N o757 (N1 o1269) (N1 o1781)) (N o1013 (N1 o1525) L)))))) (N o29 (N o45 (N o77 (N o141 (N o269 (N o525 (N1 o1037) (N1 o1549)) (N o781 (N1 o1293) (N1 o1805))) (N o397 (N (o653 p) (N1 o1165) (N1 o1677)) (N o909 (N1 o1421) (N1 o1933)))) (N o205 (N o333 (N o589 (N1 o1101) (N1 o1613)) (N o845 (N1 o1357) (N1 o1869))) (N o461 (N o717 (N1 o1229) (N1 o1741)) (N o973 (N1 o1485) (N1 o1997))))) (N o109 (N o173 (N o301 (N o557 (N1 o1069) (N1 o1581)) (N o813 (N1 o1325) (N1 o1837))) (N o429 (N o685 (N1 o1197) (N1 o1709)) (N o941 (N1 o1453) (N1 o1965)))) (N o237 (N o365 (N o621 (N1 o1133) (N1 o1645)) (N o877 (N1 o1389) (N1 o1901))) (N o493 (N o749 (N1 o1261) (N1 o1773)) (N o1005 (N1 o1517) L))))) (N o61 (N o93 (N o157 (N o285 (N o541 (N1 o1053) (N1 o1565)) (N o797 (N1 o1309) (N1 o1821))) (N o413 (N o669 (N1 o1181) (N1 o1693)) (N o925 (N1 o1437) (N1 o1949)))) (N o221 (N o349 (N o605 (N1 o1117) (N1 o1629)) (N o861 (N1 o1373) (N1 o1885))) (N o477 (N (o733 p) (N1 o1245) (N1 o1757)) (N o989 (N1 o1501) L)))) (N o125 (N o189 (N o317 (N o573 (N1 o1085) (N1 o1597)) (N o829 (N1 o1341) (N1 o1853))) (N o445 (N o701 (N1 o1213) (N1 o1725)) (N o957 (N1 o1469) (N1 o1981)))) (N o253 (N (o381 p) (N o637 (N1 (o1149 p)) (N1 o1661)) (N o893 (N1 o1405) (N1 o1917))) (N o509 (N o765 (N1 o1277) (N1 o1789)) (N o1021 (N1 o1533) L)))))))
def T7_2 (p : Params) : PySem.W.BT := N o4 (N o8 (N o16 (N o32 (N o64 (N o128 (N o256 (N o512 (N1 o1024) (N1 o1536)) (N o768 (N1 o1280) (N1 o1792))) (N o384 (N o640 (N1 o1152) (N1 o1664)) (N o896 (N1 o1408) (N1 o1920)))) (N o192 (N o320 (N o576 (N1 o1088) (N1 o1600)) (N o832 (N1 o1344) (N1 o1856))) (N o448 (N o704 (N1 o1216) (N1 o1728)) (N o960 (N1 o1472) (N1 o1984))))) (N o96 (N o160 (N o288 (N o544 (N1 o1056) (N1 o1568)) (N o800 (N1 o1312) (N1 o1824))) (N o416 (N o672 (N1 (o1184 p)) (N1 o1696)) (N o928 (N1 o1440) (N1 o1952)))) (N o224 (N o352 (N o608 (N1 o1120) (N1 o1632)) (N o864 (N1 o1376) (N1 o1888))) (N o480 (N o736 (N1 o1248) (N1 o1760)) (N o992 (N1 o1504) L))))) (N o48 (N o80 (N o144 (N o272 (N o528 (N1 o1040) (N1 o1552)) (N o784 (N1 o1296) (N1 o1808))) (N o400 (N o656 (N1 o1168) (N1 o1680)) (N o912 (N1 o1424) (N1 o1936)))) (N o208 (N o336 (N o592 (N1 o1104) (N1 o1616)) (N o848 (N1 o1360) (N1 o1872))) (N o464 (N o720 (N1 o1232) (N1 o1744)) (N o976 (N1 o1488) (N1 o2000))))) (N o112 (N o176 (N o304 (N o560 (N1 o1072) (N1 o1584)) (N o816 (N1 o1328) (N1 o1840))) (N o432 (N o688 (N1 o1200) (N1 o1712)) (N o944 (N1 o1456) (N1 o1968)))) (N o240 (N o368 (N o624 (N1 o1136) (N1 o1648)) (N o880 (N1 o1392) (N1 o1904))) (N (o496 p) (N o752 (N1 o1264) (N1 o1776)) (N o1008 (N1 o1520) L)))))) (N (o24 p) (N o40 (N o72 (N o136 (N o264 (N o520 (N1 o1032) (N1 o1544)) (N o776 (N1 o1288) (N1 o1800))) (N o392 (N o648 (N1 o1160) (N1 o1672)) (N o904 (N1 o1416) (N1 o1928)))) (N o200 (N o328 (N o584 (N1 o1096) (N1 o1608)) (N o840 (N1 o1352) (N1 o1864))) (N o456 (N o712 (N1 o1224) (N1 o1736)) (N o968 (N1 o1480) (N1 o1992))))) (N o104 (N o168 (N o296 (N o552 (N1 o1064) (N1 o1576)) (N o808 (N1 o1320) (N1 o1832))) (N o424 (N o680 (N1 o1192) (N1 o1704)) (N o936 (N1 o1448) (N1 o1960)))) (N o232 (N o360 (N o616 (N1 o1128) (N1 o1640)) (N o872 (N1 o1384) (N1 o1896))) (N o488 (N o744 (N1 o1256) (N1 o1768)) (N o1000 (N1 o1512) L))))) (N o56 (N o88 (N o152 (N o280 (N o536 (N1 o1048) (N1 o1560)) (N o792 (N1 o1304) (N1 o1816))) (N o408 (N o664 (N1 (o1176 p)) (N1 o1688)) (N o920 (N1 o1432) (N1 o1944)))) (N o216 (N o344 (N o600 (N1 o1112) (N1 o1624)) (N o856 (N1 o1368) (N1 o1880))) (N o472 (N o728 (N1 o1240) (N1 o1752)) (N o984 (N1 o1496) (N1 o2008))))) (N o120 (N o184 (N o312 (N o568 (N1 o1080) (N1 o1592)) (N o824 (N1 o1336) (N1 o1848))) (N o440 (N o696 (N1 o1208) (N1 o1720)) (N o952 (N1 o1464) (N1 o1976)))) (N o248 (N o376 (N o632 (N1 o1144) (N1 o1656)) (N o888 (N1 o1400) (N1 o1912))) (N (o504 p) (N o760 (N1 o1272) (N1 o1784)) (N o1016 (N1 o1528) L))))))) (N o12_6 (N o20 (N o36 (N o68 (N o132 (N o260 (N o516 (N1 o1028) (N1 o1540)) (N o772 (N1 o1284) (N1 o1796))) (N o388 (N o644 (N1 (o1156 p)) (N1 o1668)) (N o900 (N1 o1412) (N1 o1924)))) (N o196 (N o324 (N o580 (N1 o1092) (N1 o1604)) (N o836 (N1 o1348) (N1 o1860))) (N o452 (N o708 (N1 o1220) (N1 o1732)) (N o964 (N1 o1476) (N1 o1988))))) (N o100 (N o164 (N o292 (N o548 (N1 o1060) (N1 o1572)) (N o804 (N1 o1316) (N1 o1828))) (N o420 (N o676 (N1 o1188) (N1 o1700)) (N o932 (N1 o1444) (N1 o1956)))) (N o228 (N o356 (N o612 (N1 o1124) (N1 o1636)) (N o868 (N1 o1380) (N1 o1892))) (N o484 (N o740 (N1 o1252) (N1 o1764)) (N o996 (N1 o1508) L))))) (N (o52 p) (N o84 (N o148 (N o276 (N o532 (N1 o1044) (N1 o1556)) (N o788 (N1 o1300) (N1 o1812))) (N o404 (N o660 (N1 o1172) (N1 o1684)) (N o916 (N1 o1428) (N1 o1940)))) (N o212 (N o340 (N o596 (N1 o1108) (N1 o1620)) (N o852 (N1 o1364) (N1 o1876))) (N o468 (N o724 (N1 o1236) (N1 o1748)) (N o980 (N1 o1492) (N1 o2004))))) (N o116 (N o180 (N o308 (N o564 (N1 o1076) (N1 o1588)) (N o820 (N1 o1332) (N1 o1844))) (N (o436 p) (N o692 (N1 o1204) (N1 o1716)) (N o948 (N1 o1460) (N1 o1972)))) (N o244 (N o372 (N o628 (N1 o1140) (N1 o1652)) (N o884 (N1 o1396) (N1 o1908))) (N o500 (N o756 (N1 o1268) (N1 o1780)) (N o1012 (N1 o1524) L)))))) (N o28 (N o44 (N o76 (N o140 (N o268 (N o524 (N1 o1036) (N1 o1548)) (N o780 (N1 o1292) (N1 (o1804 p)))) (N o396 (N o652 (N1 o1164) (N1 o1676)) (N o908 (N1 o1420) (N1 o1932)))) (N o204 (N o332 (N o588 (N1 o1100) (N1 o1612)) (N o844 (N1 o1356) (N1 o1868))) (N o460 (N o716 (N1 o1228) (N1 o1740)) (N o972 (N1 o1484) (N1 o1996))))) (N o108 (N o172 (N o300 (N o556 (N1 o1068) (N1 o1580)) (N o812 (N1 o1324) (N1 o1836))) (N o428 (N o684 (N1 o1196) (N1 o1708)) (N o940 (N1 o1452) (N1 o1964)))) (N o236 (N o364 (N o620 (N1 o1132) (N1 o1644)) (N o876 (N1 o1388) (N1 o1900))) (N o492 (N o748 (N1 o1260) (N1 o1772)) (N o1004 (N1 o1516) L))))) (N o60 (N o92 (N (o156 p) (N o284 (N o540 (N1 o1052) (N1 o1564)) (N o796 (N1 o1308) (N1 o1820))) (N o412 (N o668 (N1 o1180) (N1 o1692)) (N o924 (N1 o1436) (N1 o1948)))) (N o220 (N o348 (N o604 (N1 o1116) (N1 o1628)) (N o860 (N1 o1372) (N1 o1884))) (N o476 (N o732 (N1 o1244) (N1 o1756)) (N o988 (N1 o1500) L)))) (N o124 (N o188 (N o316 (N o572 (N1 o1084) (N1 o1596)) (N o828 (N1 o1340) (N1 o1852))) (N o444 (N o700 (N1 o1212) (N1 o1724)) (N o956 (N1 o1468) (N1 o1980)))) (N o252 (N o380 (N o636 (N1 o1148) (N1 (o1660 p))) (N o892 (N1 o1404) (N1 o1916))) (N o508 (N o764 (N1 o1276) (N1 o1788)) (N o1020 (N1 o1532) L)))))))
def T7_3 (p : Params) : PySem.W.BT := N o6 (N o10 (N o18 (N o34 (N o66 (N o130 (N o258 (N o514 (N1 o1026) (N1 o1538)) (N o770 (N1 o1282) (N1 o1794))) (N o386 (N o642 (N1 o1154) (N1 o1666)) (N o898 (N1 o1410) (N1 o1922)))) (N o194 (N o322 (N o578 (N1 o1090) (N1 o1602)) (N o834 (N1 o1346) (N1 o1858))) (N o450 (N o706 (N1 o1218) (N1 o1730)) (N o962 (N1 o1474) (N1 o1986))))) (N o98 (N o162 (N o290 (N o546 (N1 o1058) (N1 o1570)) (N o802 (N1 o1314) (N1 o1826))) (N o418 (N o674 (N1 o1186) (N1 o1698)) (N o930 (N1 o1442) (N1 o1954)))) (N o226 (N o354 (N o610 (N1 o1122) (N1 o1634)) (N o866 (N1 o1378) (N1 o1890))) (N o482 (N o738 (N1 o1250) (N1 o1762)) (N o994 (N1 o1506) L))))) (N o50 (N o82 (N o146 (N o274 (N o530 (N1 o1042) (N1 o1554)) (N o786 (N1 o1298) (N1 o1810))) (N o402 (N o658 (N1 o1170) (N1 o1682)) (N o914 (N1 o1426) (N1 o1938)))) (N o210 (N o338 (N (o594 p) (N1 o1106) (N1 o1618)) (N o850 (N1 o1362) (N1 o1874))) (N o466 (N o722 (N1 o1234) (N1 o1746)) (N o978 (N1 o1490) (N1 o2002))))) (N o114 (N o178 (N o306 (N o562 (N1 o1074) (N1 o1586)) (N o818 (N1 o1330) (N1 o1842))) (N o434 (N o690 (N1 o1202) (N1 o1714)) (N o946 (N1 o1458) (N1 o1970)))) (N o242 (N o370 (N o626 (N1 o1138) (N1 o1650)) (N o882 (N1 o1394) (N1 o1906))) (N o498 (N o754 (N1 o1266) (N1 o1778)) (N o1010 (N1 o1522) L)))))) (N o26 (N o42 (N o74 (N o138 (N o266 (N o522 (N1 o1034) (N1 o1546)) (N o778 (N1 o1290) (N1 o1802))) (N o394 (N o650 (N1 o1162) (N1 o1674)) (N o906 (N1 o1418) (N1 o1930)))) (N o202 (N o330 (N o586 (N1 o1098) (N1 o1610)) (N o842 (N1 o1354) (N1 o1866))) (N o458 (N o714 (N1 o1226) (N1 o1738)) (N o970 (N1 o1482) (N1 o1994))))) (N (o106 p) (N o170 (N o298 (N o554 (N1 o1066) (N1 o1578)) (N o810 (N1 o1322) (N1 o1834))) (N o426 (N o682 (N1 o1194) (N1 o1706)) (N o938 (N1 o1450) (N1 o1962)))) (N o234 (N (o362 p) (N o618 (N1 o1130) (N1 o1642)) (N o874 (N1 o1386) (N1 o1898))) (N o490 (N o746 (N1 o1258) (N1 o1770)) (N o1002 (N1 o1514) L))))) (N (o58 p) (N o90 (N o154 (N o282 (N o538 (N1 o1050) (N1 o1562)) (N o794 (N1 o1306) (N1 o1818))) (N o410 (N o666 (N1 o1178) (N1 (o1690 p))) (N o922 (N1 o1434) (N1 o1946)))) (N o218 (N o346 (N o602 (N1 o1114) (N1 o1626)) (N o858 (N1 o1370) (N1 o1882))) (N o474 (N o730 (N1 o1242) (N1 o1754)) (N o986 (N1 o1498) L)))) (N o122 (N o186 (N o314 (N o570 (N1 o1082) (N1 o1594)) (N o826 (N1 o1338) (N1 o1850))) (N o442 (N o698 (N1 o1210) (N1 o1722)) (N o954 (N1 o1466) (N1 o1978)))) (N o250 (N o378 (N o634 (N1 o1146) (N1 o1658)) (N o890 (N1 o1402) (N1 o1914))) (N o506 (N o762 (N1 o1274) (N1 o1786)) (N o1018 (N1 o1530) L))))))) (N o14 (N o22 (N o38 (N o70 (N o134 (N (o262 p) (N o518 (N1 o1030) (N1 o1542)) (N o774 (N1 o1286) (N1 o1798))) (N o390 (N o646 (N1 o1158) (N1 o1670)) (N o902 (N1 o1414) (N1 o1926)))) (N o198 (N o326 (N o582 (N1 o1094) (N1 o1606)) (N o838 (N1 o1350) (N1 o1862))) (N o454 (N o710 (N1 o1222) (N1 o1734)) (N o966 (N1 o1478) (N1 o1990))))) (N o102 (N o166 (N o294 (N o550 (N1 o1062) (N1 o1574)) (N o806 (N1 o1318) (N1 o1830))) (N o422 (N o678 (N1 o1190) (N1 o1702)) (N o934 (N1 o1446) (N1 o1958)))) (N o230 (N o358 (N (o614 p) (N1 o1126) (N1 o1638)) (N o870 (N1 o1382) (N1 o1894))) (N o486 (N o742 (N1 (o1254 p)) (N1 o1766)) (N o998 (N1 o1510) L))))) (N o54 (N o86 (N o150 (N o278 (N o534 (N1 o1046) (N1 o1558)) (N o790 (N1 o1302) (N1 o1814))) (N o406 (N o662 (N1 o1174) (N1 o1686)) (N o918 (N1 o1430) (N1 o1942)))) (N o214 (N o342 (N o598 (N1 o1110) (N1 o1622)) (N o854 (N1 (o1366 p)) (N1 o1878))) (N (o470 p) (N o726 (N1 o1238) (N1 o1750)) (N o982 (N1 o1494) (N1 o2006))))) (N o118 (N o182 (N o310 (N o566 (N1 o1078) (N1 o1590)) (N o822 (N1 o1334) (N1 o1846))) (N o438 (N o694 (N1 o1206) (N1 o1718)) (N o950 (N1 o1462) (N1 o1974)))) (N o246 (N o374 (N o630 (N1 o1142) (N1 o1654)) (N o886 (N1 o1398) (N1 o1910))) (N o502 (N o758 (N1 o1270) (N1 o1782)) (N o1014 (N1 o1526) L)))))) (N (o30 p) (N o46 (N o78 (N o142 (N o270 (N o526 (N1 o1038) (N1 o1550)) (N o782 (N1 o1294) (N1 o1806))) (N o398 (N o654 (N1 o1166) (N1 o1678)) (N o910 (N1 o1422) (N1 o1934)))) (N o206 (N o334 (N o590 (N1 o1102) (N1 o1614)) (N o846 (N1 o1358) (N1 o1870))) (N o462 (N o718 (N1 o1230) (N1 o1742)) (N o974 (N1 o1486) (N1 o1998))))) (N o110 (N (o174 p) (N o302 (N o558 (N1 o1070) (N1 o1582)) (N o814 (N1 o1326) (N1 o1838))) (N o430 (N o686 (N1 o1198) (N1 o1710)) (N o942 (N1 o1454) (N1 o1966)))) (N o238 (N o366 (N o622 (N1 (o1134 p)) (N1 o1646)) (N o878 (N1 o1390) (N1 o1902))) (N o494 (N o750 (N1 o1262) (N1 (o1774 p))) (N o1006 (N1 o1518) L))))) (N o62 (N o94 (N o158 (N o286 (N o542 (N1 o1054) (N1 o1566)) (N o798 (N1 o1310) (N1 o1822))) (N o414 (N o670 (N1 o1182) (N1 o1694)) (N o926 (N1 o1438) (N1 o1950)))) (N o222 (N o350 (N o606 (N1 o1118) (N1 o1630)) (N o862 (N1 o1374) (N1 o1886))) (N o478 (N o734 (N1 (o1246 p)) (N1 o1758)) (N o990 (N1 o1502) L)))) (N o126 (N (o190 p) (N o318 (N o574 (N1 o1086) (N1 o1598)) (N o830 (N1 o1342) (N1 o1854))) (N o446 (N o702 (N1 o1214) (N1 o1726)) (N o958 (N1 o1470) (N1 o1982)))) (N o254 (N o382 (N o638 (N1 o1150) (N1 o1662)) (N o894 (N1 o1406) (N1 o1918))) (N o510 (N o766 (N1 o1278) (N1 o1790)) (N o1022 (N1 o1534) L)))))))
def T7 (p : Params) : PySem.W.BT := N (o0 p) (N (o1 p) (T7_0 p) (T7_1 p)) (N (o2_4 p) (T7_2 p) (T7_3 p))

end S11

end
section
namespace S11
open PySem PySem.W PySem.Calls PyProof.Rows HandSHeadRun HdM
section
abbrev env : Env := { scope := prog.main.scope, locals := mainNs, globals := mainNs, cells := [], code := .ref 13, frame := some 14 }
abbrev bd : List Stmt := behindTheImports prog
abbrev cd : Code := .body bd env
abbrev ann : Option Value := some (.ref 6)
abbrev fr0 : Frame := topFrame ⟨0, 0, 0, 0⟩
noncomputable def life (p : Params) : Life := (boot_heap p).life
noncomputable abbrev dr : Drawn := boot_drawn
noncomputable abbrev sh (T : Params → PySem.W.BT) (n k : Nat) (w : World) (os : OsState) : Shared := ⟨absHeap (T w.params) n (life w.params), #[], dr, k, os⟩
theorem run2 (w : World) : segL (denQ tabQ) ⟨prog, w.params⟩ 11 ann 3983 (T0 w.params) 15 187 (wrapB (execsQ ((bd.drop 0).take 54) env)) cd ⟨0, 0, 0, 0⟩ [fr0] = some (T2 w.params, 483, 918, cd, ⟨310, 0, 319, 16⟩) := by
  kernel_rfl
theorem run3 (w : World) : segL (denQ tabQ) ⟨prog, w.params⟩ 11 ann 3929 (T2 w.params) 483 918 (wrapB (execsQ ((bd.drop 54).take 54) env)) cd ⟨310, 0, 319, 16⟩ [fr0] = some (T3 w.params, 1049, 1771, cd, ⟨796, 0, 796, 8⟩) := by
  kernel_rfl
theorem run4 (w : World) : segL (denQ tabQ) ⟨prog, w.params⟩ 11 ann 3969 (T3 w.params) 1049 1771 (wrapB (execsQ ((bd.drop 108).take 63) env)) cd ⟨796, 0, 796, 8⟩ [fr0] = some (T4 w.params, 1660, 2616, cd, ⟨1283, 0, 1283, 10⟩) := by
  kernel_rfl
theorem run5_f (w : World) : segL (denQ tabQ) ⟨prog, (w.withFollow "special-get-raises" false).params⟩ 11 ann 1178 (T4 (w.withFollow "special-get-raises" false).params) 1660 2616 (wrapB (execsQ ((bd.drop 171).take 22) env)) cd ⟨1283, 0, 1283, 10⟩ [fr0] = some (T5 (w.withFollow "special-get-raises" false).params, 1805, 2842, cd, ⟨1436, 0, 1436, 5⟩) := by
  kernel_rfl
theorem run5_t (w : World) : segL (denQ tabQ) ⟨prog, (w.withFollow "special-get-raises" true).params⟩ 11 ann 1178 (T4 (w.withFollow "special-get-raises" true).params) 1660 2616 (wrapB (execsQ ((bd.drop 171).take 22) env)) cd ⟨1283, 0, 1283, 10⟩ [fr0] = some (T5 (w.withFollow "special-get-raises" true).params, 1805, 2842, cd, ⟨1436, 0, 1436, 5⟩) := by
  kernel_rfl
theorem run5 (w : World) : segL (denQ tabQ) ⟨prog, w.params⟩ 11 ann 1178 (T4 w.params) 1660 2616 (wrapB (execsQ ((bd.drop 171).take 22) env)) cd ⟨1283, 0, 1283, 10⟩ [fr0] = some (T5 w.params, 1805, 2842, cd, ⟨1436, 0, 1436, 5⟩) := byRow2 "special-get-raises" (P := fun w => segL (denQ tabQ) ⟨prog, w.params⟩ 11 ann 1178 (T4 w.params) 1660 2616 (wrapB (execsQ ((bd.drop 171).take 22) env)) cd ⟨1283, 0, 1283, 10⟩ [fr0] = some (T5 w.params, 1805, 2842, cd, ⟨1436, 0, 1436, 5⟩)) run5_f run5_t w
theorem run6 (w : World) : segL (denQ tabQ) ⟨prog, w.params⟩ 11 ann 1103 (T5 w.params) 1805 2842 (wrapB (execsQ ((bd.drop 193).take 23) env)) cd ⟨1436, 0, 1436, 5⟩ [fr0] = some (T6 w.params, 2010, 3103, cd, ⟨1657, 0, 1658, 101⟩) := by
  kernel_rfl
theorem pre (w : World) (os : OsState) : topGo treeTable prog w 11 ann 12 ⟨boot_heap w.params, #[], boot_drawn, boot_toks, os⟩ (topStub prog) = some (sh T0 15 187 w os, ⟨denote treeTable cd, cd, ⟨0, 0, 0, 0⟩, [fr0]⟩) := by
  kernel_rfl
theorem blk (w : World) (os : OsState) : segRun treeTable prog w 11 ann 1 1 (sh T0 15 187 w os) (blockOf bd env cd ⟨0, 0, 0, 0⟩ [fr0]) = some (.next, sh T0 15 187 w os, cd, ⟨0, 0, 0, 0⟩) := by
  kernel_rfl
theorem lst (w : World) (os : OsState) : topRun treeTable prog w 11 ann 2 (sh T6 2010 3103 w os) ⟨doneF .next, cd, ⟨1657, 0, 1658, 101⟩, [fr0]⟩ = some (sh T6 2010 3103 w os) := by
  kernel_rfl
theorem pc2 (w : World) (os : OsState) : segRun treeTable prog w 11 ann 1 3983 (sh T0 15 187 w os) (piecesOf ((bd.drop 0).take 54) env cd ⟨0, 0, 0, 0⟩ [fr0]) = some (.next, sh T2 483 918 w os, cd, ⟨310, 0, 319, 16⟩) := by
  refine piece (tb := treeTable) ?_
  rw [denQ_eq, tabQ_eq]
  exact run2 w
theorem pc3 (w : World) (os : OsState) : segRun treeTable prog w 11 ann 1 3929 (sh T2 483 918 w os) (piecesOf ((bd.drop 54).take 54) env cd ⟨310, 0, 319, 16⟩ [fr0]) = some (.next, sh T3 1049 1771 w os, cd, ⟨796, 0, 796, 8⟩) := by
  refine piece (tb := treeTable) ?_
  rw [denQ_eq, tabQ_eq]
  exact run3 w
theorem pc4 (w : World) (os : OsState) : segRun treeTable prog w 11 ann 1 3969 (sh T3 1049 1771 w os) (piecesOf ((bd.drop 108).take 63) env cd ⟨796, 0, 796, 8⟩ [fr0]) = some (.next, sh T4 1660 2616 w os, cd, ⟨1283, 0, 1283, 10⟩) := by
  refine piece (tb := treeTable) ?_
  rw [denQ_eq, tabQ_eq]
  exact run4 w
theorem pc5 (w : World) (os : OsState) : segRun treeTable prog w 11 ann 1 1178 (sh T4 1660 2616 w os) (piecesOf ((bd.drop 171).take 22) env cd ⟨1283, 0, 1283, 10⟩ [fr0]) = some (.next, sh T5 1805 2842 w os, cd, ⟨1436, 0, 1436, 5⟩) := by
  refine piece (tb := treeTable) ?_
  rw [denQ_eq, tabQ_eq]
  exact run5 w
theorem pc6 (w : World) (os : OsState) : segRun treeTable prog w 11 ann 1 1103 (sh T5 1805 2842 w os) (piecesOf ((bd.drop 193).take 23) env cd ⟨1436, 0, 1436, 5⟩ [fr0]) = some (.next, sh T6 2010 3103 w os, cd, ⟨1657, 0, 1658, 101⟩) := by
  refine piece (tb := treeTable) ?_
  rw [denQ_eq, tabQ_eq]
  exact run6 w
theorem dropTake {α : Type} (l : List α) (i n : Nat) : l.drop i = (l.drop i).take n ++ l.drop (i + n) := by rw [← List.drop_drop, List.take_append_drop]
theorem all (w : World) (os : OsState) : topRun treeTable prog w 11 ann 14177 ⟨boot_heap w.params, #[], boot_drawn, boot_toks, os⟩ (topStub prog) = some (sh T6 2010 3103 w os) := by
  have z216 : topRun treeTable prog w 11 ann 2 (sh T6 2010 3103 w os) (restOf (bd.drop 216) env cd ⟨1657, 0, 1658, 101⟩ [fr0]) = some (sh T6 2010 3103 w os) := by
    rw [show bd.drop 216 = [] by kernel_rfl]
    exact piece_nil (lst w os)
  have z193 : topRun treeTable prog w 11 ann (1103 + 2) (sh T5 1805 2842 w os) (restOf (bd.drop 193) env cd ⟨1436, 0, 1436, 5⟩ [fr0]) = some (sh T6 2010 3103 w os) := by
    rw [dropTake bd 193 23]
    exact piece_app (pc6 w os) z216
  have z171 : topRun treeTable prog w 11 ann (1178 + 1105) (sh T4 1660 2616 w os) (restOf (bd.drop 171) env cd ⟨1283, 0, 1283, 10⟩ [fr0]) = some (sh T6 2010 3103 w os) := by
    rw [dropTake bd 171 22]
    exact piece_app (pc5 w os) z193
  have z108 : topRun treeTable prog w 11 ann (3969 + 2283) (sh T3 1049 1771 w os) (restOf (bd.drop 108) env cd ⟨796, 0, 796, 8⟩ [fr0]) = some (sh T6 2010 3103 w os) := by
    rw [dropTake bd 108 63]
    exact piece_app (pc4 w os) z171
  have z54 : topRun treeTable prog w 11 ann (3929 + 6252) (sh T2 483 918 w os) (restOf (bd.drop 54) env cd ⟨310, 0, 319, 16⟩ [fr0]) = some (sh T6 2010 3103 w os) := by
    rw [dropTake bd 54 54]
    exact piece_app (pc3 w os) z108
  have z0 : topRun treeTable prog w 11 ann (3983 + 10181) (sh T0 15 187 w os) (restOf (bd.drop 0) env cd ⟨0, 0, 0, 0⟩ [fr0]) = some (sh T6 2010 3103 w os) := by
    rw [dropTake bd 0 54]
    exact piece_app (pc2 w os) z54
  have z : topRun treeTable prog w 11 ann (1 + 14164) (sh T0 15 187 w os) ⟨denote treeTable (.body bd env), cd, ⟨0, 0, 0, 0⟩, [fr0]⟩ = some (sh T6 2010 3103 w os) := piece_block (blk w os) z0
  exact go_top (n := 12) (N := 1 + 14164) (pre w os) z
end
end S11

namespace S11
open PySem PySem.W PySem.Calls PyProof.Rows HandSHeadRun HdM
abbrev R : OpenRow := OpenLaw.row PySem.Challenge.rw_bindertongue_k11_desks_unbound_and_twins
abbrev qv : Program := view R.prog [215]
def nm0 : List PySem.Str := ["_wall", "BinderError", "Barred", "InvalidDeed", "TooWide", "InvalidText", "is_whole", "is_number", "is_string", "is_tuple_of", "LANGUAGE", "LETTERS", "MOST_LETTERS", "HANDED", "PART_WORDS", "OPENED_WORDS", "NOT_GIVEN", "is_name"]
def nm1 : List PySem.Str := ["word_told", "Words", "ASKS", "FREE", "NAME", "UNDER", "standard_pattern", "Lookup", "ends_in", "MOST_MAKERS", "MOST_DEEP", "maker_of", "parts_asked", "is_tree_by", "branches_of", "own_names", "free_by", "renamed"]
def nm2 : List PySem.Str := ["clear_by", "NEW_judgework", "Spot", "spot_of", "Case", "Answers", "says_by", "NEW_bodywork", "translated", "Node", "root_node", "Scope", "Walk", "token_for", "reference_at", "Road", "NamedRoad", "next_script"]
def nm3 : List PySem.Str := ["MOST_ENDS_behindwork", "is_handed_by", "word_of", "test_of", "Making", "made_case", "made_cases", "MOST_DEMANDS", "is_part_of", "formed", "count_demands", "all_demands", "cuts_of", "lots_of", "MOST_WAYS", "Way", "namings", "names_for"]
def nm4 : List PySem.Str := ["names_by_place", "demanded", "part_target", "parts_of_way", "demands_of", "joined", "Shop", "MOST_TARGETS", "MOST_ROUND", "Round", "telling", "is_ever_by", "given_at", "for_a_name", "demanding", "ever_by", "alike_by", "right_by"]
def nm5 : List PySem.Str := ["keeps_by", "is_never_in", "shop_of", "is_never_by", "YES_askwork", "NO", "WIDE", "told_yes", "is_ever_so", "are_alike_so", "is_right_so", "does_keep_so", "is_so", "answer_by", "answers_by", "least_of", "least_sizes", "BLANK"]
def nm6 : List PySem.Str := ["ALONE", "SIGNS", "FORM", "KIND", "words_in", "row_words", "has_odd_sign", "Wrong", "Known", "Frame", "Sight", "Taking", "MOST_PLACES", "MAKE", "GIVEN", "JUDGE", "TURNER", "CASE"]
def nm7 : List PySem.Str := ["ELSE", "ASK", "ROW_WORDS", "YES_parsing", "TRUTHS", "firsts", "Reading", "tree_words", "pieces_of", "tree_text_by", "arg_text", "is_bound", "expression_text", "test_text", "truth_text", "body_text", "place_text", "pattern_text"]
def nm8 : List PySem.Str := ["declared_text", "row_text", "SIGN", "LATE", "MANY", "EMPTY", "DECLARING", "WITH_CASES", "MOST_OF", "MOST_ASKS", "MOST_ROWS_readwork", "MOST_SIGNS", "MOST_ENDS_readwork", "MOST_MADE", "headed_in", "known_of", "count_made", "expressions_in"]
def nm9 : List PySem.Str := ["is_great_body", "Looking", "ReadBook", "rows_of", "row_read", "wrong_behind", "book_read", "PUT", "ROW", "OUT", "SIZES", "FAULT", "MOST_ROWS_desks", "is_row_text", "rows_in", "is_headed", "check_deed", "barred_by"]
def nm10 : List PySem.Str := ["rows_behind", "Desk", "_law_court", "_law_call", "_law_one_of", "_law_like", "_law_small", "_law_after", "_law_said_of", "_law_deed", "_law_due_of", "_law_small_asks", "_law_is_one", "_law_by_hand"]
def names : List PySem.Str := nm0 ++ nm1 ++ nm2 ++ nm3 ++ nm4 ++ nm5 ++ nm6 ++ nm7 ++ nm8 ++ nm9 ++ nm10

theorem lk1 (w : World) (os : OsState) : looksF prog (boot_heap w.params) (sh T6 2010 3103 w os) = true := by
  kernel_rfl
theorem lk2 (w : World) (os : OsState) : seenQ qv names (importedModules prog.main.body) (fun s => xlAt qv [] s && recOk R.toRowW.records s) (sh T6 2010 3103 w os) = openGood qv names := by
  kernel_rfl
end S11

/-! Errors of a program's own, over Exception, whose __init__ hands its arguments on by super() and keeps them. -/
namespace Xo
open PySem PySem.W PySem.Calls PyProof.Rows
open Builtin Builtin.ObjectAttr

/-- the mro behind the own classes -/
abbrev mroX : List Value := [.type "Exception", .type "BaseException", .type "object"]

/-- `super().__init__(es)` as an expression -/
abbrev supE (p0 p1 p2 p4 : Pos) (es : List PySem.Expr) : PySem.Expr :=
  .Call (.Attribute (.Call (.Name "super" p0) [] [] p1) "__init__" p2) es [] p4
/-- `self.g = g` -/
abbrev keepS (g : Str) (p6 p7 p8 p9 : Pos) : Stmt := .Assign [.Attribute (.Name "self" p6) g p7] (.Name g p8) p9

section
variable {prog : Program} {w : World} {A : Around} {E : Value → Shared → Prop} {h : Heap} {gs : Array GenState} {d : Drawn} {t : Nat} {os : OsState}
variable {K : Frag} {C D fI cc cda x t0 : Addr} {mg mb : Str → Option Value}

/-- what is known of the class and of its __init__ in the written part -/
structure IniOf (prog : Program) (K : Frag) (C fI : Addr) (qual : Str) (params : Arguments) (body : List Stmt) (scope : Scope) : Prop where
  fn : ∃ (oc : Value) (od : Option Addr) (kV doc pm : Value) (an : Option Addr) (cda : Addr) (ct : Value) (cc : Addr) (osl : Array (Option Value)),
    K.lookup fI = some ⟨oc, od, .func (ksFn "__init__" qual params body scope .none kV doc pm an (.ref cda) ct cc), osl⟩ ∧ codeIn K (.ref cda) qual = true ∧
    (∃ cl cld csl, K.lookup cc = some ⟨cl, cld, .cell (some (.ref C)), csl⟩) ∧
    ∃ ccl cdd vs ccs file tf, K.lookup cda = some ⟨ccl, cdd, .fields vs, ccs⟩ ∧ vs[2]? = some (.str file tf) ∧ ((prog.main.file : Str) == file) = true
  isF : isFn K (.ref fI) = true
  find : findIn K (.ref C) "__init__" = some (some (.ref fI))
  ini : excInitIn K C mroX "Exception.__new__" = true
  over : excOver K C mroX = true
  dict : hasDictIn K C = true
  sa : findIn K (.ref C) "__setattr__" = some (some (.builtin "object.__setattr__"))
  sup : ks_superIn K C C "__init__" = some (some (.builtin "Exception.__init__"))
  subE : subIn K (.ref C) (.type "Exception") = some true
  mro : mroIn K C (.ref C) = some true
  opq : nsIn K cStatics "thirdparty.any" = some none
  top : (prog.main.scope.names.lookup ("super" : Str)).isSome = false

/-- the scope of such an __init__ -/
structure ScpOf (scope : Scope) : Prop where
  kind : scope.kind = .function
  cells : ∀ y ∈ scope.names, y.2 ≠ .cell
  self : scope.names.lookup ("self" : Str) = some .local
  sup : scope.names.lookup ("super" : Str) = some .globalImplicit
  cls : scope.names.lookup ("__class__" : Str) = some .free
  co : scope.isCoroutine = false
  gen : scope.isGenerator = false

theorem cls_at {cd : ClassData} (X : K.In h) (hc : clsIn K C = some cd) : ∃ o, h.get? C = some o ∧ o.data = .cls cd := by
  unfold clsIn at hc
  split at hc
  · rename_i c e cd' sl ho
    cases hc
    exact ⟨_, X _ _ ho, rfl⟩
  · cases hc
theorem cls_some (q : excOver K C mroX = true) : ∃ cd, clsIn K C = some cd := by
  obtain ⟨cd, hc, _⟩ := any_some q
  exact ⟨cd, hc⟩

/-- super() itself: the object that stands for it -/
theorem sup_base {body : List Stmt} {q : Str} {scope : Scope} {p0 p1 : Pos} {whole : Sem Value} {fd : FuncData} {ar : Arg} {vs : Array Value} {file : Str} {tf : Tok} {of oc ox : Obj} {m : Str → Option Value} {L : Addr} {Q : Value → Shared → Prop}
    (X : K.In h) (S : ScpOf scope) (hg : h.Ns mainGlobals mg) (hms : mg "super" = none) (hb : h.Ns builtinsNs mb) (hbs : mb "super" = bootBuiltins "super")
    (hf : h.get? fI = some of) (hfd : of.data = .func fd) (hp : (fd.params.posonlyargs ++ fd.params.args).head? = some ar) (har : ar.arg = "self")
    (hcd : h.get? cda = some oc) (hoc : oc.data = .fields vs) (hvs : vs[2]? = some (.str file tf)) (hfile : ((prog.main.file : Str) == file) = true)
    (hcell : h.IsCell cc (some (.ref C))) (hov : excOver K C mroX = true) (hmro : mroIn K C (.ref C) = some true) (htop : (prog.main.scope.names.lookup ("super" : Str)).isSome = false)
    (hn : h.Ns L m) (hm : m "self" = some (.ref x)) (hx : h.get? x = some ox) (hxc : ox.cls = .ref C) (hnc : ∀ c, ox.data ≠ .cls c)
    (hq : ∀ h', (∀ y o, h.get? y = some o → h'.get? y = some o) → h'.get? h.objs.size = some (ks_superObj C x C) → Q (.ref h.objs.size) ⟨h', gs, d, t, os⟩) :
    _root_.PySem.wpAt (model prog w) A (.func body (ksEnv q scope L fI (.ref cda) cc)) (attributeBase (.Call (.Name "super" p0) [] [] p1) "__init__" (ksEnv q scope L fI (.ref cda) cc) whole) Q E ⟨h, gs, d, t, os⟩ := by
  obtain ⟨cd, hc⟩ := cls_some hov
  obtain ⟨oD, hD1, hD2⟩ := cls_at X hc
  refine ks_wpAt_super_base (env := ksEnv q scope L fI (.ref cda) cc) S.sup S.cls (by decide) rfl hf hfd hp rfl hcd hoc hvs hfile htop ?_
  refine ks_loadName_global S.kind S.sup (loadGlobal_builtin (env := ksEnv q scope L fI (.ref cda) cc) hg hms hb (hbs.trans (by decide +kernel : bootBuiltins "super" = some (.type "super"))) ⟨rfl, ?_⟩)
  refine wpAny_loadName_free S.kind S.cls rfl hcell ?_
  rw [har]
  refine wpAny_loadName_local S.kind S.self hn hm ?_
  refine ks_wpAny_isType_cls hD1 hD2 ⟨rfl, ?_⟩
  exact ks_wpAny_call_super hD1 hD2 hx hxc hnc (looks_mroIn X hmro) fun h' e k => hq h' k e

/-- super().__init__ looked up: the built-in one bound to the object -/
theorem sup_meth {so : Addr} {ox : Obj} {pl : Sem Bool} {Q : Value × List Value → Shared → Prop} (X : K.In h) (hs : h.get? so = some (ks_superObj C x C)) (hov : excOver K C mroX = true)
    (hsup : ks_superIn K C C "__init__" = some (some (.builtin "Exception.__init__"))) (hsub : subIn K (.ref C) (.type "Exception") = some true) (hopq : nsIn K cStatics "thirdparty.any" = some none)
    (hx : h.get? x = some ox) (hxc : ox.cls = .ref C) (hnc : notCls ox = true) (hdn : ox.dict = none)
    (hq : Q (.ref h.objs.size, []) ⟨h.push (kxs_mw "Exception.__init__" x), gs, d, t + 1, os⟩) :
    _root_.PySem.wpAny (model prog w) A (getMethod (.ref so) "__init__" pl) Q E ⟨h, gs, d, t, os⟩ := by
  obtain ⟨cd, hc⟩ := cls_some hov
  have I : InstAt h x ox C none := ⟨hx, hxc, hnc, by rw [hdn]; trivial⟩
  have hI : Looks (model prog w) h (isInstance (.ref x) (.type "Exception")) true := I.type.andThen (looks_subIn X hsub)
  unfold ks_superIn at hsup
  rw [hc] at hsup
  refine kxs_getMethod kxs_Exception hs (looks_opaque X hopq) (l₀ := cd.mro) ?_ rfl X hsup hI (ks_ne X I hc) (by decide) hq
  exact fun A Q E s k q => wpAny_bind ((looks_clsIn X hc) A _ E s k (wpAny_pure q))

/-- the bound built-in called: the arguments are laid anew -/
theorem sup_call {u : Addr} {dv : Option Addr} {rest : List Value} {Q : Value → Shared → Prop} (X : K.In h) (hini : excInitIn K C mroX "Exception.__new__" = true)
    (hu : h.get? u = some (kxs_mw "Exception.__init__" x)) (hx : h.get? x = some (excObj C t0 dv .none)) (hz : rest.length ≤ sizeLine)
    (hq : ∀ h' t1, (∀ b o, b ≠ x → h.get? b = some o → h'.get? b = some o) → h'.get? x = some (excObj C t1 dv .none) → Q .none ⟨h', gs, d, t, os⟩) :
    _root_.PySem.wpAny (model prog w) A (call (.ref u) rest) Q E ⟨h, gs, d, t, os⟩ := by
  obtain ⟨nm, N', qn, bs, bm, hdct, sn, sub, ab, col, dd, k0, k1, k2, k3, k5, hC, hT⟩ := excInit_of X hini
  have FB := PySem.F.excBase_Exception
  refine wpAny_call (codeAny_of_tree ?_)
  show _root_.PySem.wpAny _ A.in1 (callAny (.ref u) ⟨rest, []⟩) _ _ _
  simp only [callAny]
  refine wpAny_bind (wpAny_load hu ?_)
  simp only [kxs_mw, show (Value.type "method-wrapper" == Value.type "method" || Value.type "method-wrapper" == Value.type "builtin_function_or_method" || Value.type "method-wrapper" == Value.type "method-wrapper") = true by decide, if_true]
  refine KFB.if_so (by decide) ?_
  refine wpAny_bind (check_bound_init FB.toExcCallFacts hC hx rfl ?_)
  refine wpAny_bind (wpAny_pure (wpAny_pure ?_))
  refine ⟨plainId_quiet FB.init.plain _, codeAny_builtin FB.initEntry ?_⟩
  exact exc_init_tree (cls := .ref C) (t0 := t0) (dv := dv) (c2 := .none) (c3 := .none) (b4 := .bool false) hx hz fun h' k e _ => hq h' _ k e

/-- self.f = v, the first one: the object's own dict is made -/
theorem keep_new {f : Str} {v : Value} {Q : Unit → Shared → Prop} (X : K.In h) (hov : excOver K C mroX = true) (hdi : hasDictIn K C = true) (hsa : findIn K (.ref C) "__setattr__" = some (some (.builtin "object.__setattr__"))) (hf : takerIn K C f = some none)
    (hx : h.get? x = some (excObj C t0 none .none))
    (hq : ∀ h' t' dx, (∀ b o, b ≠ x → h.get? b = some o → h'.get? b = some o) → h.objs.size ≤ dx → dx ≠ x → h'.get? x = some (excObj C t0 (some dx) .none) → h'.Ns1 dx (fun y => if y = f then some v else none) → Q () ⟨h', gs, d, t', os⟩) :
    _root_.PySem.wpAny (model prog w) A (setAttr (.ref x) f v) Q E ⟨h, gs, d, t, os⟩ := by
  have I : InstAt h x (excObj C t0 none .none) C none := ⟨hx, rfl, rfl, trivial⟩
  have hxs : x ≠ h.objs.size := Nat.ne_of_lt (Heap.lt_size hx)
  obtain ⟨cd, hc, hd'⟩ := any_some hdi
  have hcls : Looks (model prog w) h (classData C) cd := looks_clsIn X hc
  refine set_plain X I hsa (osa_openX (od := none) (s := ⟨h, gs, d, t + 1, os⟩) PySem.F.store_Exception X I hov hf fun b => ?_)
  dsimp only
  obtain ⟨nm, bs, mro, ns, qn, hd, sn, sb, ab, col, del⟩ := cd
  dsimp only at hd'
  subst hd'
  unfold storeInOwnDict ownDictForStores
  repeat (first | with_reducible refine HandSPX.store_in_new ?_ ?_ | with_reducible refine wpAny_loadPart_at hx ?_ | with_reducible refine hcls.at ?_ | wp_step)
  · exact ⟨_, #[], _, (Heap.get?_update_ne _ _ _ _ hxs.symm).trans (Heap.get?_push_at rfl rfl), rfl, fun e he => absurd he (by simp), fun _ => rfl⟩
  · intro h' tk' hn' hs
    have hx1 : (h.push { cls := .type "dict", data := .dict #[] }).get? x = some (excObj C t0 none .none) := Heap.get?_push_of_some _ hx
    refine hq h' _ h.objs.size (fun b o hb ho => ?_) (Nat.le_refl _) hxs.symm ?_ hn'
    · exact (hs.2 b (Nat.ne_of_lt (Heap.lt_size ho))).trans ((Heap.get?_update_ne _ _ _ _ hb).trans (Heap.get?_push_of_some _ ho))
    · exact (hs.2 x hxs).trans (Heap.get?_update_self _ hx1 rfl)
/-- self.f = v, a further one -/
theorem keep_old {f : Str} {v : Value} {dx : Addr} {m0 : Str → Option Value} {ns : List Str} {Q : Unit → Shared → Prop} (X : K.In h) (hov : excOver K C mroX = true) (hdi : hasDictIn K C = true) (hsa : findIn K (.ref C) "__setattr__" = some (some (.builtin "object.__setattr__"))) (hf : takerIn K C f = some none)
    (hx : h.get? x = some (excObj C t0 (some dx) .none)) (hns : h.Ns1 dx m0) (hw : Within m0 ns) (hz : ns.length ≤ 1000)
    (hq : ∀ h' t', (∀ b o, b ≠ dx → h.get? b = some o → h'.get? b = some o) → h'.Ns1 dx (fun y => if y = f then some v else m0 y) → Q () ⟨h', gs, d, t', os⟩) :
    _root_.PySem.wpAny (model prog w) A (setAttr (.ref x) f v) Q E ⟨h, gs, d, t, os⟩ := by
  obtain ⟨oD, _, _, hoD, _, _⟩ := hns.count hw
  have I : InstAt h x (excObj C t0 (some dx) .none) C (some oD) := ⟨hx, rfl, rfl, hoD⟩
  obtain ⟨cd, hc, hd'⟩ := any_some hdi
  have hcls : Looks (model prog w) h (classData C) cd := looks_clsIn X hc
  refine set_plain X I hsa (osa_openX (od := some oD) (s := ⟨h, gs, d, t + 1, os⟩) PySem.F.store_Exception X I hov hf fun b => ?_)
  dsimp only
  obtain ⟨nm, bs, mro, ns', qn, hd, sn, sb, ab, col, del⟩ := cd
  dsimp only at hd'
  subst hd'
  unfold storeInOwnDict ownDictForStores
  repeat (first | with_reducible refine ESX.store_in_old hns hw hz ?_ | with_reducible refine wpAny_loadPart_at hx ?_ | with_reducible refine hcls.at ?_ | wp_step)
  intro h' tk' hn' hs
  exact hq h' _ (fun b o hb ho => (hs.2 b hb).trans ho) hn'

/-- what the run of such an __init__ leans on -/
structure RunOf (K : Frag) (mg : Str → Option Value) (A : Around) (h : Heap) : Prop where
  kin : K.In h
  glob : h.Ns mainGlobals mg
  sup : mg "super" = none
  blt : ∃ mb, h.Ns builtinsNs mb ∧ mb "super" = bootBuiltins "super"
  lim : h.NoLimit
  room : A.depth < recursionLimit

theorem kxs_plain {u : Addr} {env : Env} {e : PySem.Expr} {es : List PySem.Expr} {pos : Pos} {s : Shared} {Q : Value → Shared → Prop} (he : starEach (e :: es) env = (false, eval e env) :: starEach es env) (hpl : (backTo pos (starEach es env)).any (·.1) = false)
    (hq : _root_.PySem.wpAny (model prog w) A (spliced (backTo pos (starEach (e :: es) env))) (fun vs s₁ => KxsAt "Exception.__init__" u x s₁.heap ∧ _root_.PySem.wpAny (model prog w) A (call (.ref u) vs) Q E s₁) E s) :
    _root_.PySem.wpAny (model prog w) A (callWith pos (.ref u) [] (backTo pos (starEach (e :: es) env)) []) Q E s := by
  rw [he] at hq ⊢
  refine kxs_callWith (i := "Exception.__init__") (x := x) ?_ (evalArgs_plain hq)
  show (false || (backTo pos (starEach es env)).any (·.1)) = false
  rw [hpl]
  rfl

/-- __init__ entered, its first line run: the frame at L, the object as it was but for the arguments -/
theorem ini_enter {qual : Str} {params : Arguments} {body rest : List Stmt} {scope : Scope} {e : PySem.Expr} {es : List PySem.Expr} {p0 p1 p2 p4 p5 : Pos} {ar : Arg} {args : Args} {vs : List Value} {binds : List (Str × Value)} {R : Result → Shared → Prop}
    (S : ScpOf scope) (F : IniOf prog K C fI qual params body scope) (hbody : body = .Expr (supE p0 p1 p2 p4 (e :: es)) p5 :: rest) (M : RunOf K mg A h)
    (hp : (params.posonlyargs ++ params.args).head? = some ar) (har : ar.arg = "self") (hz : vs.length ≤ sizeLine)
    (hbind : ∀ (kV doc pm : Value) (an : Option Addr) (cdv ct : Value) (cc : Addr), bindArgs (ksFn "__init__" qual params body scope .none kV doc pm an cdv ct cc) args = pure binds)
    (hself : binds.reverse.lookup ("self" : Str) = some (Value.ref x)) (hloc : ∀ y ∈ binds, scope.names.lookup y.1 = some .local)
    (he : ∀ env : Env, starEach (e :: es) env = (false, eval e env) :: starEach es env) (hpl : ∀ env : Env, (backTo p4 (starEach es env)).any (·.1) = false)
    (hcall : ∀ (L : Addr) (cdv : Value) (cc : Addr), ∃ pl : Sem Bool, eval (supE p0 p1 p2 p4 (e :: es)) (ksEnv qual scope L fI cdv cc) = (do
      let ov ← attributeBase (.Call (.Name "super" p0) [] [] p1) "__init__" (ksEnv qual scope L fI cdv cc) (eval (.Call (.Name "super" p0) [] [] p1) (ksEnv qual scope L fI cdv cc))
      standAt p2.atName
      let (f, first) ← holding [ov] (getMethod ov "__init__" pl)
      callWith p4 f first (backTo p4 (starEach (e :: es) (ksEnv qual scope L fI cdv cc))) []))
    (hargs : ∀ (L : Addr) (cdv : Value) (cc : Addr) (h' : Heap) (t' : Nat) (A' : Around) (E' : Value → Shared → Prop) (Q' : List Value → Shared → Prop), h'.Ns L (fun y => binds.reverse.lookup y) → Q' vs ⟨h', gs, d, t', os⟩ →
      _root_.PySem.wpAny (model prog w) A' (spliced (backTo p4 (starEach (e :: es) (ksEnv qual scope L fI cdv cc)))) Q' E' ⟨h', gs, d, t', os⟩)
    (hx : h.get? x = some (excObj C t0 none .none))
    (hrest : ∀ (L : Addr) (cdv : Value) (cc : Addr) (h' : Heap) (t' : Nat) (t1 : Addr) (A' : Around) (E' : Value → Shared → Prop), h'.Ns L (fun y => binds.reverse.lookup y) → (∀ b o, b ≠ x → h.get? b = some o → h'.get? b = some o) → h'.get? x = some (excObj C t1 none .none) →
      _root_.PySem.wpAny (model prog w) A' (execs rest (ksEnv qual scope L fI cdv cc)) (fun f s' => R (.ok (.ret (match f with | .ret v => v | _ => .none))) s') E' ⟨h', gs, d, t', os⟩) :
    codeAny (model prog w) A (.call (.ref fI) args) R ⟨h, gs, d, t, os⟩ := by
  obtain ⟨oc, od, kV, doc, pm, an, cda, ct, cc, osl, lk, hcd, ⟨cl, cld, csl, lcc⟩, ccl, cdd, fs, ccs, file, tf, lcd, hvs, hfile⟩ := F.fn
  obtain ⟨mb, hb, hbs⟩ := M.blt
  have X := M.kin
  refine ks_codeAny_call_defAt (s := ⟨h, gs, d, t, os⟩) (fd := ksFn "__init__" qual params body scope .none kV doc pm an (.ref cda) ct cc) (body := body) (binds := binds) M.room (X _ _ lk) rfl M.lim (codeRec_of X hcd) rfl (.of_eq (hbind _ _ _ _ _ _ _)) S.cells hloc
    (fun h0 hns k0 => ?_) S.co S.gen S.kind
  have X0 := X.keeps k0
  have hx0 := k0 _ _ hx
  subst hbody
  obtain ⟨pl, hcl⟩ := hcall h.objs.size (.ref cda) cc
  refine ks_wpAt_execs_cons (ks_wpAt_Expr_any (ks_wpAt_MethodCall ?_ hcl) ?_ ?_)
  · refine sup_base X0 S (M.glob.keeps k0) M.sup (hb.keeps k0) hbs (k0 _ _ (X _ _ lk)) rfl hp har (k0 _ _ (X _ _ lcd)) rfl hvs hfile ⟨_, k0 _ _ (X _ _ lcc), rfl⟩ F.over F.mro F.top hns hself hx0 rfl (by intro c z; cases z) fun h1 k1 e1 => ?_
    have X1 := X0.keeps k1
    have hx1 := k1 _ _ hx0
    refine sup_meth X1 e1 F.over F.sup F.subE F.opq hx1 rfl rfl rfl ?_
    have k2 : ∀ b o, h1.get? b = some o → (h1.push (kxs_mw "Exception.__init__" x)).get? b = some o := fun b o z => Heap.get?_push_of_some _ z
    refine kxs_plain (he _) (hpl _) (hargs _ _ _ _ _ _ _ _ ((hns.keeps k1).keeps k2) ⟨Heap.get?_push_at rfl rfl, ?_⟩)
    refine sup_call ((X1.keeps k2)) F.ini (Heap.get?_push_at rfl rfl) (k2 _ _ hx1) hz fun h3 t1 k3 e3 => ?_
    refine wpAt_of_wpAny (hrest _ _ _ h3 _ t1 _ _ ?_ (fun b o hb z => k3 b o hb (k2 _ _ (k1 _ _ (k0 _ _ z)))) e3)
    obtain ⟨oL, es', ep', hL, r⟩ := (hns.keeps k1).keeps k2
    refine ⟨oL, es', ep', k3 _ _ (fun z => ?_) hL, r⟩
    exact absurd (Heap.lt_size hx) (by rw [← z]; exact Nat.lt_irrefl _)
  · simp [interactive, callEnv, newEnv, S.kind]
  · rfl

/-- the object behind its making: kept fields at dx, nothing else changed -/
def MadeAt (C x : Addr) (h : Heap) (fs : List (Str × Value)) (h' : Heap) : Prop :=
  ∃ t1 dx, (∀ b o, b ≠ x → h.get? b = some o → h'.get? b = some o) ∧ h'.get? x = some (excObj C t1 (some dx) .none) ∧ h.get? dx = none ∧ dx ≠ x ∧ h'.Ns1 dx (fun y => fs.lookup y)

/-- a local name of the frame -/
theorem ld_local {qual g : Str} {scope : Scope} {L : Addr} {cdv v : Value} {p : Pos} {m : Str → Option Value} {Q : Value → Shared → Prop} (S : ScpOf scope) (hg : scope.names.lookup g = some .local) (hn : h.Ns L m) (hm : m g = some v) (hd : (g == ("__debug__" : Str)) = false) (hq : Q v ⟨h, gs, d, t, os⟩) :
    _root_.PySem.wpAny (model prog w) A (eval (.Name g p) (ksEnv qual scope L fI cdv cc)) Q E ⟨h, gs, d, t, os⟩ := wpAny_Name (wpAny_loadName_local S.kind hg hn hm hq) hd

theorem keepsIn {h' : Heap} (X : K.In h) (hxK : K.lookup x = none) (k : ∀ b o, b ≠ x → h.get? b = some o → h'.get? b = some o) : K.In h' := fun b o hb => k b o (fun z => by
  rw [z] at hb
  have hb' : K.lookup x = some o := hb
  rw [hxK] at hb'
  cases hb') (X b o hb)

theorem supE_eval {p0 p1 p2 p4 : Pos} {es : List PySem.Expr} (env : Env) (hpos : (p2.endLine == p4.line) = true) (hf : methodCallForm es.length (backTo p4 (starEach es env)) (backToKw p4 (keywordEach [] env)) = true) :
    ∃ pl : Sem Bool, eval (supE p0 p1 p2 p4 es) env = (do
      let ov ← attributeBase (.Call (.Name "super" p0) [] [] p1) "__init__" env (eval (.Call (.Name "super" p0) [] [] p1) env)
      standAt p2.atName
      let (f, first) ← holding [ov] (getMethod ov "__init__" pl)
      callWith p4 f first (backTo p4 (starEach es env)) []) := by
  refine ⟨do return (← importBound (.Call (.Name "super" p0) [] [] p1) env).getD true, ?_⟩
  show (do
    let ov ← attributeBase (.Call (.Name "super" p0) [] [] p1) "__init__" env (eval (.Call (.Name "super" p0) [] [] p1) env)
    standAt p2.atName
    methodCall (.Call (.Name "super" p0) [] [] p1) "__init__" p2 p4 env ov (es.length + 0) (backTo p4 (starEach es env)) (backToKw p4 (keywordEach [] env))) = _
  unfold methodCall
  rw [Nat.add_zero, hf]
  unfold methodCallPos calleeOf
  simp only [hpos, Bool.not_true, Bool.false_or, if_true, pure_bind]
  rfl

/-- an __init__ of one argument -/
theorem ini1 {qual g : Str} {params : Arguments} {scope : Scope} {p0 p1 p2 p3 p4 p5 p6 p7 p8 p9 : Pos} {ar : Arg} {args : Args} {v : Value} {R : Result → Shared → Prop}
    (S : ScpOf scope) (F : IniOf prog K C fI qual params [.Expr (supE p0 p1 p2 p4 [.Name g p3]) p5, keepS g p6 p7 p8 p9] scope) (M : RunOf K mg A h)
    (hp : (params.posonlyargs ++ params.args).head? = some ar) (har : ar.arg = "self") (hgl : scope.names.lookup g = some .local) (hgd : (g == ("__debug__" : Str)) = false) (hgs : (g == ("self" : Str)) = false) (hgt : takerIn K C g = some none) (hpos : (p2.endLine == p4.line) = true)
    (hbind : ∀ (kV doc pm : Value) (an : Option Addr) (cdv ct : Value) (cc : Addr), bindArgs (ksFn "__init__" qual params [.Expr (supE p0 p1 p2 p4 [.Name g p3]) p5, keepS g p6 p7 p8 p9] scope .none kV doc pm an cdv ct cc) args = pure [(("self" : Str), .ref x), (g, v)])
    (hx : h.get? x = some (excObj C t0 none .none)) (hxK : K.lookup x = none)
    (hq : ∀ h' t', MadeAt C x h [(g, v)] h' → R (.ok (.ret .none)) ⟨h', gs, d, t', os⟩) :
    codeAny (model prog w) A (.call (.ref fI) args) R ⟨h, gs, d, t, os⟩ := by
  have e1 : ([(("self" : Str), Value.ref x), (g, v)] : List (Str × Value)).reverse.lookup ("self" : Str) = some (Value.ref x) := by
    show ([(g, v), (("self" : Str), Value.ref x)] : List (Str × Value)).lookup ("self" : Str) = _
    have q : (("self" : Str) == g) = false := by
      rw [beq_eq_false_iff_ne] at hgs ⊢
      exact Ne.symm hgs
    simp only [List.lookup, q]
    rfl
  have e2 : ([(("self" : Str), Value.ref x), (g, v)] : List (Str × Value)).reverse.lookup g = some v := by
    show ([(g, v), (("self" : Str), Value.ref x)] : List (Str × Value)).lookup g = _
    simp [List.lookup]
  refine ini_enter (vs := [v]) (binds := [(("self" : Str), Value.ref x), (g, v)]) S F rfl M hp har (by rw [sizeLine_eq]; show 1 ≤ _; omega) (fun kV doc pm an cdv ct cc => hbind _ _ _ _ _ _ _) e1 ?_ (fun _ => rfl) (fun _ => rfl) (fun _ _ _ => supE_eval _ hpos rfl) ?_ hx ?_
  · intro y hy
    rcases List.mem_cons.mp hy with rfl | hy
    · exact S.self
    · rcases List.mem_cons.mp hy with rfl | hy
      · exact hgl
      · cases hy
  · intro L cdv cc h' t' A' E' Q' hn hq'
    exact spliced_cons (ld_local S hgl hn e2 hgd (spliced_nil hq'))
  · intro L cdv cc h1 t' t1 A' E' hn k e
    have X1 : K.In h1 := keepsIn M.kin hxK k
    refine wpAny_execs_cons (plainObj_wpAny_Assign_Attribute (ld_local S hgl hn e2 hgd (ld_local S S.self hn e1 (by decide) ?_)))
    refine keep_new X1 F.over F.dict F.sa hgt e fun h2 t2 dx k2 n1 n2 e3 n3 => wpAny_execs_nil (hq _ _ ⟨t1, dx, fun b o hb z => k2 b o hb (k b o hb z), e3, ?_, n2, ?_⟩)
    · cases z : h.get? dx with
      | none => rfl
      | some o => exact absurd (Heap.lt_size (k dx o n2 z)) (Nat.not_lt.mpr n1)
    · have q : (fun y => ([(g, v)] : List (Str × Value)).lookup y) = fun y => if y = g then some v else none := by
        funext y
        by_cases hy : y = g
        · rw [if_pos hy, hy]; simp [List.lookup]
        · rw [if_neg hy]
          have : (y == g) = false := by simpa using hy
          simp [List.lookup, this]
      rw [q]; exact n3

/-- an __init__ of two arguments -/
theorem ini2 {qual f g : Str} {params : Arguments} {scope : Scope} {p0 p1 p2 p3 q3 p4 p5 p6 p7 p8 p9 q6 q7 q8 q9 : Pos} {ar : Arg} {args : Args} {u v : Value} {R : Result → Shared → Prop}
    (S : ScpOf scope) (F : IniOf prog K C fI qual params [.Expr (supE p0 p1 p2 p4 [.Name f p3, .Name g q3]) p5, keepS f p6 p7 p8 p9, keepS g q6 q7 q8 q9] scope) (M : RunOf K mg A h)
    (hp : (params.posonlyargs ++ params.args).head? = some ar) (har : ar.arg = "self") (hfl : scope.names.lookup f = some .local) (hfd : (f == ("__debug__" : Str)) = false) (hft : takerIn K C f = some none)
    (hgl : scope.names.lookup g = some .local) (hgd : (g == ("__debug__" : Str)) = false) (hgt : takerIn K C g = some none) (hpos : (p2.endLine == p4.line) = true)
    (e1 : ([(("self" : Str), Value.ref x), (f, u), (g, v)] : List (Str × Value)).reverse.lookup ("self" : Str) = some (Value.ref x))
    (e2 : ([(("self" : Str), Value.ref x), (f, u), (g, v)] : List (Str × Value)).reverse.lookup f = some u)
    (hbind : ∀ (kV doc pm : Value) (an : Option Addr) (cdv ct : Value) (cc : Addr), bindArgs (ksFn "__init__" qual params [.Expr (supE p0 p1 p2 p4 [.Name f p3, .Name g q3]) p5, keepS f p6 p7 p8 p9, keepS g q6 q7 q8 q9] scope .none kV doc pm an cdv ct cc) args = pure [(("self" : Str), .ref x), (f, u), (g, v)])
    (hx : h.get? x = some (excObj C t0 none .none)) (hxK : K.lookup x = none)
    (hq : ∀ h' t', MadeAt C x h [(g, v), (f, u)] h' → R (.ok (.ret .none)) ⟨h', gs, d, t', os⟩) :
    codeAny (model prog w) A (.call (.ref fI) args) R ⟨h, gs, d, t, os⟩ := by
  have e3 : ([(("self" : Str), Value.ref x), (f, u), (g, v)] : List (Str × Value)).reverse.lookup g = some v := by
    show ([(g, v), (f, u), (("self" : Str), Value.ref x)] : List (Str × Value)).lookup g = _
    simp [List.lookup]
  refine ini_enter (vs := [u, v]) (binds := [(("self" : Str), Value.ref x), (f, u), (g, v)]) S F rfl M hp har (by rw [sizeLine_eq]; show 2 ≤ _; omega) hbind e1 ?_ (fun _ => rfl) (fun _ => rfl) (fun _ _ _ => supE_eval _ hpos rfl) ?_ hx ?_
  · intro y hy
    rcases List.mem_cons.mp hy with rfl | hy
    · exact S.self
    · rcases List.mem_cons.mp hy with rfl | hy
      · exact hfl
      · rcases List.mem_cons.mp hy with rfl | hy
        · exact hgl
        · cases hy
  · intro L cdv cc h' t' A' E' Q' hn hq'
    exact spliced_cons (ld_local S hfl hn e2 hfd (spliced_cons (ld_local S hgl hn e3 hgd (spliced_nil hq'))))
  · intro L cdv cc h1 t' t1 A' E' hn k e
    have X1 : K.In h1 := keepsIn M.kin hxK k
    refine wpAny_execs_cons (plainObj_wpAny_Assign_Attribute (ld_local S hfl hn e2 hfd (ld_local S S.self hn e1 (by decide) ?_)))
    refine keep_new X1 F.over F.dict F.sa hft e fun h2 t2 dx k2 n1 n2 o2 r2 => ?_
    have X2 : K.In h2 := keepsIn X1 hxK k2
    have hL : ∀ o, h1.get? L = some o → h2.get? L = some o := fun o z => k2 L o (fun q => by
      obtain ⟨oL, _, _, zL, dL, _⟩ := hn
      rw [q, e] at zL
      cases zL
      cases dL) z
    obtain ⟨oL, es', ep', zL, rL⟩ := hn
    have hn2 : h2.Ns L (fun y => ([(("self" : Str), Value.ref x), (f, u), (g, v)] : List (Str × Value)).reverse.lookup y) := ⟨oL, es', ep', hL _ zL, rL⟩
    refine wpAny_execs_cons (plainObj_wpAny_Assign_Attribute (ld_local S hgl hn2 e3 hgd (ld_local S S.self hn2 e1 (by decide) ?_)))
    refine keep_old (ns := [f]) X2 F.over F.dict F.sa hgt o2 r2 (fun y hy => ?_) (by show 1 ≤ 1000; omega) fun h3 t3 k3 r3 => wpAny_execs_nil (hq _ _ ⟨t1, dx, fun b o hb z => ?_, k3 _ _ (Ne.symm n2) o2, ?_, n2, ?_⟩)
    · by_cases z : y = f
      · rw [z]; exact List.mem_singleton.mpr rfl
      · exact absurd (if_neg z) hy
    · refine k3 b o (fun q => ?_) (k2 b o hb (k b o hb z))
      exact absurd (Heap.lt_size (k b o hb z)) (by rw [q]; exact Nat.not_lt.mpr n1)
    · cases z : h.get? dx with
      | none => rfl
      | some o => exact absurd (Heap.lt_size (k dx o n2 z)) (Nat.not_lt.mpr n1)
    · have q : (fun y => ([(g, v), (f, u)] : List (Str × Value)).lookup y) = fun y => if y = g then some v else if y = f then some u else none := by
        funext y
        by_cases hy : y = g
        · rw [if_pos hy, hy]; simp [List.lookup]
        · rw [if_neg hy]
          have : (y == g) = false := by simpa using hy
          by_cases hz : y = f
          · rw [if_pos hz]
            have z2 : (y == f) = true := by simpa using hz
            simp [List.lookup, this, z2]
          · rw [if_neg hz]
            have z2 : (y == f) = false := by simpa using hz
            simp [List.lookup, this, z2]
      rw [q]; exact r3

end
end Xo

namespace Xo
open PySem PySem.W PySem.Calls PySem.HandSPX
section
variable {prog : Program} {w : World} {M : Model} {A : Around} {E : Value → Shared → Prop} {R : Result → Shared → Prop} {h : Heap} {g : Array GenState} {d : Drawn} {t : Nat} {os : OsState}
variable {nm q : Str} {C N : Addr} {bs bm bmB : List Value} {hdct : Bool} {sn : List Str} {sub : List Value} {ab : Bool} {col : Option Bool} {dd : Option Addr} {k0 k1 k2 k3 k5 : Option Value} {B newId initId : String}
theorem kw_checkNew (F : ExcBaseFacts B newId initId bmB) (hT : ∀ X : String, bm.contains (.type X) = bmB.contains (.type X)) {rest : List Value} {kw : List (Str × Value)} {Q : Unit → Shared → Prop}
    (hC : h.get? C = some (excClassObj nm q C N bs bm hdct sn sub ab col dd k0 k1 k2 k3 k5 newId)) (hq : Q () ⟨h, g, d, t, os⟩) : _root_.PySem.wpAny M A (checkBuiltinCall newId ⟨.ref C :: rest, kw⟩) Q E ⟨h, g, d, t, os⟩ := by
  have hcont : (Value.ref C :: bm).contains (.type B) = true := by
    rw [List.contains_cons, hT, F.hasB, Bool.or_true]
  have hstar := F.noStar
  simp only [checkBuiltinCall, F.newKind, F.newSplit, F.newRow]
  repeat (first
    | refine wpAny_loadPart_at hC ?_
    | (refine wpAny_isSubtype_exc hC ?_; rw [hcont])
    | refine wpAny_staticBase_exc hC ?_
    | refine wpAny_madeBy_exc hC ?_
    | simp only [bne_self_eq_false, Bool.false_eq_true, if_false]
    | wp_step)
  exact hq
theorem kw_new (F : ExcBaseFacts B newId initId bmB) (hT : ∀ X : String, bm.contains (.type X) = bmB.contains (.type X)) {rest : List Value} {kw : List (Str × Value)}
    (hC : h.get? C = some (excClassObj nm q C N bs bm hdct sn sub ab col dd k0 k1 k2 k3 k5 newId))
    (hq : R (.ok (.ret (.ref (h.objs.size + 1)))) ⟨(h.push (excTup rest)).push (excO C h.objs.size), g, d, t, os⟩) (hrest : rest.length ≤ sizeLine) :
    codeAny (model prog w) A (.builtin newId ⟨.ref C :: rest, kw⟩) R ⟨h, g, d, t, os⟩ := by
  have hends := F.ends
  have hcB : (Value.ref C :: bm).contains (.type B) = true := by rw [List.contains_cons, hT, F.hasB, Bool.or_true]
  have hcA : (Value.ref C :: bm).contains (.type "AttributeError") = false := by rw [List.contains_cons, hT, F.noAttr]; rfl
  have hcN : (Value.ref C :: bm).contains (.type "NameError") = false := by rw [List.contains_cons, hT, F.noName]; rfl
  refine codeAny_builtinAt F.entry ?_
  unfold Builtin.«BaseException.__new__»
  refine wpAt_bind ?_
  show _root_.PySem.wpAt _ _ _ (stack >>= _) _ _ _
  refine wpAt_bind (wpAt_stack fun p below => wpAt_of_wpAny ?_)
  wp_walk
  refine wpAt_of_wpAny ?_
  rw [F.owner]
  repeat (first
    | with_reducible refine wpAny_madeHere_exc F.canon hC ?_
    | with_reducible refine wpAny_loadPart_at hC ?_
    | (with_reducible refine wpAny_isSubtype_exc hC ?_; first | rw [hcB] | rw [hcA] | rw [hcN])
    | wp_step)
  show R _ _
  rw [Heap.size_push]
  exact hq
theorem kw_typeCall (F : ExcBaseFacts B newId initId bmB) (hT : ∀ X : String, bm.contains (.type X) = bmB.contains (.type X)) {rest : List Value} {kw : List (Str × Value)} {fI : Addr} {Q : Fin → Shared → Prop}
    (hC : h.get? C = some (excClassObj nm q C N bs bm hdct sn sub ab col dd k0 k1 k2 k3 k5 newId))
    (hi : Looks (model prog w) h (typeLookup (.ref C) "__init__") (some (.ref fI))) (hb : ∀ self, Looks (model prog w) h (bindSpecial (.ref fI) self) (.ref fI, [self])) (hrest : rest.length ≤ sizeLine)
    (hq : codeAny (model prog w) A (.call (.ref fI) ⟨.ref (h.objs.size + 1) :: rest, kw⟩)
      (fun r s' => match r with | .ok (.ret v) => v = .none ∧ Q (.done (.ret (.ref (h.objs.size + 1)))) s' | .ok _ => False | .error e => E e s')
      ⟨(h.push (excTup rest)).push (excO C h.objs.size), g, d, t, os⟩) :
    _root_.PySem.wpAny (model prog w) A (Builtin.«type.__call__» ⟨.ref C :: rest, kw⟩) Q E ⟨h, g, d, t, os⟩ := by
  repeat (first | with_reducible refine wpAny_loadPart_at hC ?_ | with_reducible refine wpAny_madeBy_exc hC ?_ | wp_step)
  refine codeAny_call_builtin_code (Code.quiet_builtin _ F.quiet) (kw_checkNew F hT hC ?_)
  refine kw_new F hT hC ?_ hrest
  show _root_.PySem.wpAny _ _ _ _ _ _
  have k : ∀ b o, h.get? b = some o → ((h.push (excTup rest)).push (excO C h.objs.size)).get? b = some o := fun b o e => Heap.get?_push_of_some _ (Heap.get?_push_of_some _ e)
  have hC1 := k _ _ hC
  have hget : ((h.push (excTup rest)).push (excO C h.objs.size)).get? (h.objs.size + 1) = some (excO C h.objs.size) := by heap_get
  have hcC : (Value.ref C :: bm).contains (.ref C) = true := by simp
  have i1 := hi.keeps k
  have b1 := (hb (.ref (h.objs.size + 1))).keeps k
  unfold isInstance
  repeat (first | with_reducible refine wpAny_loadPart_at hget ?_ | (with_reducible refine wpAny_isSubtype_exc hC1 ?_; rw [hcC]) | wp_step)
  show _root_.PySem.wpAny _ _ (typeLookup (.ref C) _) _ _ _
  refine i1.at ?_
  refine wpAny_holding (wpAny_bind (b1.at ?_))
  refine wpAny_bind (wpAny_call (codeAny_mono hq fun r s' z => ?_))
  rcases r with e | (v | _ | _ | _) <;> first | exact z | exact z.elim | skip
  obtain ⟨rfl, z⟩ := z
  first
    | exact wpAny_pure (wpAny_pure z)
    | (wp_walk; exact z)
theorem kw_call (F : ExcBaseFacts B newId initId bmB) (hT : ∀ X : String, bm.contains (.type X) = bmB.contains (.type X)) {rest : List Value} {kw : List (Str × Value)} {fI : Addr}
    (hC : h.get? C = some (excClassObj nm q C N bs bm hdct sn sub ab col dd k0 k1 k2 k3 k5 newId))
    (hi : Looks (model prog w) h (typeLookup (.ref C) "__init__") (some (.ref fI))) (hb : ∀ self, Looks (model prog w) h (bindSpecial (.ref fI) self) (.ref fI, [self])) (hrest : rest.length ≤ sizeLine)
    (hq : codeAny (model prog w) (A.under (.builtin "type.__call__" ⟨.ref C :: rest, kw⟩)) (.call (.ref fI) ⟨.ref (h.objs.size + 1) :: rest, kw⟩) (InitBack (h.objs.size + 1) R)
      ⟨(h.push (excTup rest)).push (excO C h.objs.size), g, d, t, os⟩) :
    codeAny (model prog w) A (.call (.ref C) ⟨rest, kw⟩) R ⟨h, g, d, t, os⟩ := by
  have f1 := tc_lookup
  have f2 := tc_bind (.ref C)
  have hTy : (⟨h, g, d, t, os⟩ : Shared).TypeIs (.ref C) "type" := ⟨_, hC, rfl⟩
  refine codeAny_of_tree ?_
  show _root_.PySem.wpAny _ _ (callAny (.ref C) _) _ _ _
  repeat (any_goals (first | assumption | with_reducible refine wpAny_loadPart_at hC ?_ | wp_step))
  refine ⟨rfl, ?_⟩
  refine codeAny_call_builtin_at (Code.quiet_builtin _ (by decide +kernel)) entry_typeCall (wpAny_check_type_call_sub hC (kw_typeCall F hT hC hi hb hrest ?_))
  refine codeAny_mono hq fun r s' z => ?_
  rcases r with e | (v | _ | _ | _) <;> exact z

end
end Xo

namespace Xo
open PySem PySem.Spec L2
open PySem.W (excObj excTup excInitIn findIn isFn looks_findIn exc_bind excInit_of)
section
variable {fs ex : List Addr} {H : Hp} {h h' : Heap} {a b : Addr} {o u : HO}
theorem un_two (k : ∀ c v, h.get? c = some v → h'.get? c = some v) (ha : h.get? a = none) (hb : h.get? b = none) (na : H a = none) (nb : H b = none) : Un fs ex H (upd (upd H b u) a o) h h' := by
  have ne : ∀ {c : Addr} {v : Obj}, h.get? c = some v → c ≠ a ∧ c ≠ b := fun {c v} q => ⟨fun z => (by rw [z, ha] at q; cases q), fun z => (by rw [z, hb] at q; cases q)⟩
  have nh : ∀ {c : Addr} {v : HO}, H c = some v → c ≠ a ∧ c ≠ b := fun {c v} q => ⟨ne_of_none q na, ne_of_none q nb⟩
  refine ⟨fun c v q _ _ _ => k c v q, fun c v q _ _ _ => ⟨v.slots, k c v q⟩, fun c v q n _ => ?_, fun c v q _ => ⟨v, k c v q⟩, fun c xs q => ?_, fun c v xs q => ?_, fun c ps q => ⟨#[], ?_⟩⟩
  · rw [upd_ne (ne q).1, upd_ne (ne q).2]; exact n
  · rw [upd_ne (nh q).1, upd_ne (nh q).2]; exact q
  · rw [upd_ne (nh q).1, upd_ne (nh q).2]; exact q
  · rw [upd_ne (nh q).1, upd_ne (nh q).2, q]; simp
end
section
variable {X : Cx} {pins : List (Addr × Obj)} {σ : St} {H : Hp} {s : Shared} {Q : VK} {C fI : Addr}
/-- two new objects, tracked -/
theorem inv_two {h' : Heap} {a b : Addr} {o u : HO} {t' : Nat} (I : Inv X pins σ H s) (k : ∀ c v, s.heap.get? c = some v → h'.get? c = some v) (ha : s.heap.get? a = none) (hb : s.heap.get? b = none) (ne : b ≠ a)
    (nu : ObjOk X.prog X.w (upd H b u) h' b u) (no : ObjOk X.prog X.w (upd (upd H b u) a o) h' a o) : Inv X pins σ (upd (upd H b u) a o) { s with heap := h', toks := t' } := by
  have na := I.hok.gone ha
  have nb := I.hok.gone hb
  refine I.un (un_two k ha hb na nb) ?_
  exact (I.hok.laidN k nb nu).laidN (fun _ _ e => e) (by rw [upd_ne (Ne.symm ne)]; exact na) no

/-- what the __init__ of such a class does with these arguments -/
def IniRuns (P : Program) (w : World) (K : PySem.W.Frag) (mg : Str → Option Value) (C fI : Addr) (us : List Value) (kw : List (Str × Value)) (fs : List (Str × Value)) : Prop :=
  ∀ (A : Around) (h : Heap) (gs : Array GenState) (d : Drawn) (t : Nat) (os : OsState) (t0 x : Addr) (R : Result → Shared → Prop), RunOf K mg A h → K.lookup x = none → h.get? x = some (excObj C t0 none .none) →
    (∀ h' t', MadeAt C x h fs h' → R (.ok (.ret .none)) ⟨h', gs, d, t', os⟩) → codeAny (model P w) A (.call (.ref fI) ⟨.ref x :: us, kw⟩) R ⟨h, gs, d, t, os⟩

/-- such a class called: a new error with its fields -/
theorem run_mkx {us : List Value} {kw : List (Str × Value)} {fs : List (Str × Value)} {fv : List (Str × V)} (hC : excInitIn X.K C mroX "Exception.__new__" = true) (hf : findIn X.K (.ref C) "__init__" = some (some (.ref fI))) (hF : isFn X.K (.ref fI) = true)
    (ini : IniRuns X.prog X.w X.K X.mg C fI us kw fs) (hr : Room 2 X.A) (hs : X.mg "super" = none) (I : Inv X pins σ H s) (rel : ∀ f, RelO (fv.lookup f) (fs.lookup f)) (hz : us.length ≤ sizeLine)
    (hq : ∀ a d, H a = none → H d = none → d ≠ a → Q (.ref a) (upd (upd H d (exd d fv)) a (exo a C (some d)))) :
    wpAny (model X.prog X.w) X.A (call (.ref C) us kw) (EP X pins σ Q) X.xe s := by
  obtain ⟨nm, N', qn, bs, bm, hdct, sn, sub, ab, col, dd, k0, k1, k2, k3, k5, hCo, hT⟩ := excInit_of I.kIn hC
  obtain ⟨oI, hoI, hcI⟩ : ∃ oI, s.heap.get? fI = some oI ∧ oI.cls = .type "function" := by
    obtain ⟨o, ho, hc⟩ := Option.map_eq_some_iff.mp (show (X.K.lookup fI).map (·.cls) = some (.type "function") from beq_iff_eq.mp hF)
    exact ⟨o, I.kIn _ _ ho, hc⟩
  obtain ⟨mb, hb, hbx⟩ := I.mod.blt
  have gl := I.mod.glob.keeps I.bk
  have bl := hb.keeps I.bk
  have lim := I.nolimit
  have kin := I.kIn
  have e1 : s.heap.get? (s.heap.objs.size + 1) = none := Heap.get?_none_of_le (Nat.le_succ _)
  have hxK : X.K.lookup (s.heap.objs.size + 1) = none := by
    cases z : X.K.lookup (s.heap.objs.size + 1) with
    | none => rfl
    | some o => rw [kin _ _ z] at e1; cases e1
  have I' := I
  obtain ⟨h, g, d, t, os⟩ := s
  have k : ∀ b o, h.get? b = some o → ((h.push (excTup us)).push (HandSPX.excO C h.objs.size)).get? b = some o := fun b o e => Heap.get?_push_of_some _ (Heap.get?_push_of_some _ e)
  have hget : ((h.push (excTup us)).push (HandSPX.excO C h.objs.size)).get? (h.objs.size + 1) = some (excObj C h.objs.size none .none) := by heap_get
  refine wpAny_call (kw_call F.excBase_Exception hT hCo (looks_findIn kin hf) (fun self => exc_bind hoI hcI self) hz ?_)
  refine ini _ _ g d t os h.objs.size _ _ ⟨kin.keeps k, gl.keeps k, hs, ⟨mb, bl.keeps k, hbx _ (by decide)⟩, lim.keeps k, (hr.make C us kw).depth⟩ hxK hget fun h' t' ⟨t1, dx, k', ex, nd, ne, ns⟩ => ⟨rfl, ?_⟩
  have ks : ∀ b o, h.get? b = some o → h'.get? b = some o := fun b o e => k' b o (fun z => by rw [z] at e; rw [show h.get? (h.objs.size + 1) = none from e1] at e; cases e) (k b o e)
  have dn : h.get? dx = none := by
    cases z : h.get? dx with
    | none => rfl
    | some o => rw [k _ _ z] at nd; cases nd
  have na := I'.hok.gone e1
  have nb := I'.hok.gone dn
  exact ⟨.ref (h.objs.size + 1), _, inv_two I' ks e1 dn ne (exd_ok ns rel) (exo_ok ex), rfl, hq _ _ na nb ne⟩
end
/-- an error class called by place -/
def tMkP (C : Addr) (n : Nat) (fV : List V → List (Str × V)) (ta : TA) : TE := fun σ H Q => ta σ H fun vs H1 => vs.length = n ∧ ∀ a d, H1 a = none → H1 d = none → d ≠ a → Q (.ref a) (upd (upd H1 d (exd d (fV vs))) a (exo a C (some d)))
section
variable {X : Cx} {C fI : Addr} {x : Str} {e : PySem.Expr} {es : List PySem.Expr} {kws : List Keyword} {ta : TA} {p pos : Pos} {n : Nat} {ff : List Value → List (Str × Value)} {fV : List V → List (Str × V)} {ks : List Str}
theorem pe_mkP (hC : excInitIn X.K C mroX "Exception.__new__" = true) (hf : findIn X.K (.ref C) "__init__" = some (some (.ref fI))) (hF : isFn X.K (.ref fI) = true) (kC : PySem.W.keepIn X.K (.ref C) = true) (hg : Gl X x) (gC : X.mg x = some (.ref C))
    (ini : ∀ us : List Value, us.length = n → IniRuns X.prog X.w X.K X.mg C fI us [] (ff us)) (rel : ∀ vs us, Vals vs us → vs.length = n → ∀ f, RelO ((fV vs).lookup f) ((ff us).lookup f)) (hn : n ≤ 1000) (hr : Room 2 X.A) (hs : X.mg "super" = none)
    (ha : PA X (e :: es) ta) (hdb : (x == ("__debug__" : Str)) = false := by decide) (he : starEach (e :: es) X.env = (false, eval e X.env) :: starEach es X.env := by rfl) (hpl : (backTo pos (starEach es X.env)).any (·.1) = false := by rfl) :
    PE X (.Call (.Name x p) (e :: es) [] pos) (tMkP C n fV ta) := by
  refine ⟨fun pins s σ H Q I h => ?_⟩
  refine wpAny_Call_Name_kw (ld_glob I hg gC ?_ hdb)
  refine PySem.W.callWith_K (h₀ := X.base) I.ok.mod.kin kC (thn (ha.run pos pins s σ H _ I h) fun us s1 ⟨vs, H1, I1, r1, hz, q1⟩ => ⟨I1.kIn, ?_⟩) he hpl
  have hl : us.length = n := by rw [← r1.length]; exact hz
  exact run_mkx hC hf hF (ini us hl) hr hs I1 (rel vs us r1 hz) (by show us.length ≤ _; rw [hl, sizeLine_eq]; omega) q1
/-- an error class called by names -/
theorem pe_mkK (hC : excInitIn X.K C mroX "Exception.__new__" = true) (hf : findIn X.K (.ref C) "__init__" = some (some (.ref fI))) (hF : isFn X.K (.ref fI) = true) (kC : PySem.W.keepIn X.K (.ref C) = true) (hg : Gl X x) (gC : X.mg x = some (.ref C))
    (ini : ∀ us : List Value, us.length = n → IniRuns X.prog X.w X.K X.mg C fI [] (ks.zip us) (ff us)) (rel : ∀ vs us, Vals vs us → vs.length = n → ∀ f, RelO ((fV vs).lookup f) ((ff us).lookup f)) (hr : Room 2 X.A) (hs : X.mg "super" = none)
    (hk : PK X kws ta) (hall : (backToKw pos (keywordEach kws X.env)).all (·.1.isSome) = true := by rfl) (hks : (backToKw pos (keywordEach kws X.env)).filterMap (·.1) = ks := by rfl) (hdb : (x == ("__debug__" : Str)) = false := by decide)
    (hpl : ((backTo pos (starEach [] X.env)).any (·.1) || (backToKw pos (keywordEach kws X.env)).any (·.1.isNone)) = false := by rfl) :
    PE X (.Call (.Name x p) [] kws pos) (tMkP C n fV ta) := by
  refine ⟨fun pins s σ H Q I h => ?_⟩
  refine wpAny_Call_Name_kw (ld_glob I hg gC ?_ hdb)
  refine PySem.W.callWith_KW0 (h₀ := X.base) I.ok.mod.kin kC hall ?_ hpl
  refine thn (hk.run pos pins s σ H _ I h) fun us s1 ⟨vs, H1, I1, r1, hz, q1⟩ => ⟨I1.kIn, ?_⟩
  rw [hks]
  have hl : us.length = n := by rw [← r1.length]; exact hz
  exact run_mkx (us := []) hC hf hF (ini us hl) hr hs I1 (rel vs us r1 hz) (by rw [sizeLine_eq]; show 0 ≤ _; omega) q1

/-- an error class without an __init__ of its own, called with nothing -/
theorem pe_mkB (hC : excInitIn X.K C mroX "Exception.__new__" = true) (hf : findIn X.K (.ref C) "__init__" = some (some (.builtin "Exception.__init__"))) (kC : PySem.W.keepIn X.K (.ref C) = true) (hg : Gl X x) (gC : X.mg x = some (.ref C)) (hdb : (x == ("__debug__" : Str)) = false := by decide) :
    PE X (.Call (.Name x p) [] [] pos) (fun σ H Q => ∀ a, H a = none → Q (.ref a) (upd H a (exo a C none))) := by
  refine ⟨fun pins s σ H Q I h => ?_⟩
  refine wpAny_Call_Name_kw (ld_glob I hg gC ?_ hdb)
  refine PySem.W.callWith_K0 I.kIn kC ?_
  show wpAny _ _ (call (.ref C) []) _ _ _
  obtain ⟨nm, N', qn, bs, bm, hdct, sn, sub, ab, col, dd, k0, k1, k2, k3, k5, hCo, hT⟩ := excInit_of I.kIn hC
  have e1 : s.heap.get? (s.heap.objs.size + 1) = none := Heap.get?_none_of_le (Nat.le_succ _)
  have na := I.hok.gone e1
  have I' := I
  have kin := I.kIn
  obtain ⟨hh, g, d, t, os⟩ := s
  refine PySem.W.call_B F.excBase_Exception hT hCo (looks_findIn kin hf) (by rw [sizeLine_eq]; show 0 ≤ _; omega) fun h' k he ht => ?_
  exact ⟨.ref (hh.objs.size + 1), _, I'.laidN (t' := t) k e1 na (exo_ok he), rfl, h _ na⟩

/-- a field of such an error -/
def tFldX (K : PySem.W.Frag) (f : Str) (to : TE) : TE := fun σ H Q => to σ H fun x H1 => ∃ a C d fs v, x = .ref a ∧ XfC K C ∧ findIn K (.ref C) f = some none ∧ H1 a = some (exo a C (some d)) ∧ H1 d = some (exd d fs) ∧ fs.lookup f = some v ∧ Q v H1
theorem pe_fldX {f : Str} {to : TE} (ho : PE X e to) (hb : attributeBase e f X.env (eval e X.env) = eval e X.env := by rfl) : PE X (.Attribute e f pos) (tFldX X.K f to) := by
  refine ⟨fun pins s σ H Q I h => ?_⟩
  refine attr_of hb (thn (ho.run pins s σ H _ I h) fun u s1 hh => ?_)
  obtain ⟨x, H1, I1, rx, a, C, d, fs, v, ex, T, hno, ea, ed, l, q⟩ := hh
  subst ex
  obtain rfl : u = Value.ref a := rx
  obtain ⟨t1, hx⟩ := exo_at I1.hok ea
  obtain ⟨mA, hns, hrel⟩ := exd_at I1.hok ed
  obtain ⟨od, hod, hlk⟩ := lookIn_ns hns
  obtain ⟨u, hu, ru⟩ := RelO.some_of (v := v) (o := mA f) (by rw [← l]; exact hrel f)
  have J : PySem.W.InstAt s1.heap a (excObj C t1 (some d) .none) C (some od) := ⟨hx, rfl, rfl, hod⟩
  exact HandSPX.exc_get I1.kIn J T.ga T.gg T.exC (PySem.W.findObj_own T.hdC hno rfl (by rw [hlk, hu])) (handed_of ru) ⟨v, H1, I1.tok _, ru, q⟩

/-- an error of the class C stands at a -/
def ErrAt (H : Hp) (a C : Addr) : Prop := ∃ d, H a = some (exo a C d)
/-- isinstance of such an error, where it is so: of a class of the program, of a built-in one -/
def rIsX (K : PySem.W.Frag) : List V → Hp → VK → Prop := fun xs H Q => ∃ a C c cv, xs = [.ref a, c] ∧ ErrAt H a C ∧ (∀ u, RelV c u → u = cv) ∧ PySem.W.subIn K (.ref C) cv = some true ∧
  ((∃ D, cv = .ref D ∧ PySem.W.isClsIn K D = true ∧ PySem.W.typeIn K (.ref D) = some (.type "type")) ∨ cv = .type "Exception") ∧ Q (.bl true) H
theorem typ_Exc : typeOf (.type "Exception") = pure (.type "type") := by kernel_rfl
theorem call_isX : CallR X (.builtin "isinstance") (rIsX X.K) := by
  intro pins s σ H xs us Q I r h
  obtain ⟨a, C, c, cv, rfl, ⟨d, ea⟩, hcv, hsub, hcase, q⟩ := h
  cases r with
  | cons rx rr =>
    cases rr with
    | cons rt rr =>
      cases rr
      cases rx
      have ecv := hcv _ rt
      rw [ecv]
      obtain ⟨t1, hx⟩ := exo_at I.hok ea
      have kin := I.kIn
      have ty : PySem.W.Looks (model X.prog X.w) s.heap (typeOf (.ref a)) (.ref C) := (PySem.W.Looks.ld hx).andThen .now
      have hin : PySem.W.Looks (model X.prog X.w) s.heap (isInstance (.ref a) cv) true := ty.andThen (PySem.W.looks_subIn kin hsub)
      refine PyProof.Rows.call_isinstance_of ?_ (fun z => nomatch z)
      unfold Builtin.«isinstance.nested»
      refine wpAny_bind (m := typeOf (.ref a)) (ty.here ?_)
      show wpAny _ _ (if (Value.ref C == cv) = true then _ else _) _ _ s
      by_cases he : (Value.ref C == cv) = true
      · rw [if_pos he]
        repeat (first | refine wpAny_pure ?_ | refine wpAny_rule ?_ | refine wpAny_bind ?_)
        exact ⟨.bl true, H, I, rfl, q⟩
      · rw [if_neg he]
        rcases hcase with ⟨D, rfl, hD, hT⟩ | rfl
        · obtain ⟨cd, hcd⟩ := Option.isSome_iff_exists.mp hD
          obtain ⟨oD, hoD, hdD⟩ := cls_at kin hcd
          refine wpAny_bind (m := typeOf (.ref D)) ((PySem.W.looks_typeIn kin hT).here ?_)
          show wpAny _ _ (if (Value.type "type" == Value.type "type") = true then _ else _) _ _ s
          rw [if_pos (by decide)]
          obtain ⟨hh, g, dr, tk, os⟩ := s
          refine wpAny_bind (wpAny_bind (m := isType (.ref D)) (ks_wpAny_isType_cls hoD hdD ?_))
          refine wpAny_bind (m := isInstance (.ref a) (.ref D)) (hin.here ?_)
          exact wpAny_pure (a := true) (wpAny_pure ⟨.bl true, H, I, rfl, q⟩)
        · refine wpAny_bind (m := typeOf (.type "Exception")) (wpAny_of_eq typ_Exc ?_)
          show wpAny _ _ (if (Value.type "type" == Value.type "type") = true then _ else _) _ _ s
          rw [if_pos (by decide)]
          refine wpAny_bind (wpAny_bind (m := isType (.type "Exception")) (wpAny_pure (a := true) ?_))
          refine wpAny_bind (m := isInstance (.ref a) (.type "Exception")) (hin.here ?_)
          exact wpAny_pure (a := true) (wpAny_pure ⟨.bl true, H, I, rfl, q⟩)

end

end Xo

/-! repr of tracked data (one-entry dicts among them); defs that are promised where nothing else is being shown. -/
namespace Xo
open PySem PySem.Spec L2
open PyProof.Rows (envOfC)
mutual
/-- tracked data as a reading -/
inductive Dq (H : Hp) : V → PyData → Prop
  | non : Dq H .non .none
  | bl (b : Bool) : Dq H (.bl b) (.bool b)
  | int (i : Int) : Dq H (.int i) (.int i)
  | str (x : Str) : Dq H (.str x) (.str x)
  | lst {a : Addr} {xs : List V} {ds : List PyData} : H a = some (.lst xs) → DqAll H xs ds → Dq H (.ref a) (.list ds)
  | tup {a : Addr} {xs : List V} {ds : List PyData} : H a = some (.tup xs) → DqAll H xs ds → Dq H (.ref a) (.tuple ds)
  | dic {a : Addr} {x : Str} {i : Int} : H a = some (.dK [(.inr x, .int i)]) → Dq H (.ref a) (.dict [(.str x, .int i)])
inductive DqAll (H : Hp) : List V → List PyData → Prop
  | nil : DqAll H [] []
  | cons {v : V} {vs : List V} {d : PyData} {ds : List PyData} : Dq H v d → DqAll H vs ds → DqAll H (v :: vs) (d :: ds)
end
theorem DqAll.rep {H : Hp} {v : V} {d : PyData} (h : Dq H v d) : ∀ n : Nat, DqAll H (List.replicate n v) (List.replicate n d)
  | 0 => .nil
  | n + 1 => .cons h (DqAll.rep h n)

section
variable {X : Cx} {pins : List (Addr × Obj)} {σ : St} {H : Hp} {s : Shared}
theorem read_dic {a : Addr} {x : Str} {i : Int} (I : Inv X pins σ H s) (hs : H a = some (.dK [(.inr x, .int i)])) : Reads s.heap (.ref a) (.dict [(.str x, .int i)]) (a :: [] ++ []) := by
  obtain ⟨_, _, vs, kv, o, es, ep, ho, hx, hd, hks, hp, _⟩ := I.hok _ _ hs
  cases kv with
  | cons h1 h2 =>
    cases h2
    rename_i q qs
    obtain ⟨qk, qv⟩ := q
    obtain ⟨e1, tv, e2⟩ := h1
    have e1' : (Sum.inr x : Key) = qk := e1
    have e2' : qv = Value.int i tv := e2
    subst e1'
    subst e2'
    obtain ⟨el⟩ := es
    cases hp with
    | cons hk hv ht =>
      rename_i e0 es0
      cases ht
      obtain ⟨tk, ek⟩ : ∃ t, e0.key = .str x t := by
        rcases keyIs_shape (k := (Sum.inr x : Key)) (v := e0.key) hk with ⟨_, _, z, _⟩ | ⟨y, t, z2, z1⟩
        · cases z
        · cases z2
          exact ⟨t, z1⟩
      refine Reads.dict ho hx.1 hd (as := []) (bs := []) ?_ ?_
      · show ReadsAll s.heap [e0.key] [PyData.str x] []
        rw [ek]
        exact ReadsAll.cons (as := []) (Reads.str x tk) ReadsAll.nil
      · show ReadsAll s.heap [e0.val] [PyData.int i] []
        rw [hv]
        exact ReadsAll.cons (as := []) (Reads.int i tv) ReadsAll.nil

mutual
theorem Dq.reads (I : Inv X pins σ H s) : ∀ (d : PyData) (v : V) (u : Value), Dq H v d → RelV v u → ∃ as, Reads s.heap u d as ∧ ∀ x ∈ as, H x ≠ none
  | .none, _, _, h, r => by
    cases h
    cases r
    exact ⟨_, Reads.none, fun x hx => absurd hx (List.not_mem_nil)⟩
  | .bool b, _, _, h, r => by
    cases h
    cases r
    exact ⟨_, Reads.bool b, fun x hx => absurd hx (List.not_mem_nil)⟩
  | .int i, _, _, h, r => by
    cases h
    obtain ⟨t, rfl⟩ := r
    exact ⟨_, Reads.int i t, fun x hx => absurd hx (List.not_mem_nil)⟩
  | .str x, _, _, h, r => by
    cases h
    obtain ⟨t, rfl⟩ := r
    exact ⟨_, Reads.str x t, fun x hx => absurd hx (List.not_mem_nil)⟩
  | .list ds, _, _, h, r => by
    cases h with
    | lst hs ha =>
      cases r
      obtain ⟨_, its, n, rv, ho⟩ := I.hok _ _ hs
      obtain ⟨as, hr, hn⟩ := Dq.readsAll I ds _ its ha rv
      exact ⟨_, Reads.list ho rfl rfl hr, fun x hx => (List.mem_cons.mp hx).elim (fun e => by rw [e, hs]; exact Option.some_ne_none _) (hn x)⟩
  | .tuple ds, _, _, h, r => by
    cases h with
    | tup hs ha =>
      cases r
      obtain ⟨_, its, rv, o, ho, hc, n, hd⟩ := I.hok _ _ hs
      obtain ⟨as, hr, hn⟩ := Dq.readsAll I ds _ its ha rv
      exact ⟨_, Reads.tuple ho hc hd hr, hn⟩
  | .dict kvs, _, _, h, r => by
    cases h with
    | @dic a x i hs =>
      cases r
      exact ⟨_, read_dic I hs, fun y hy => by
        have hy' : y = a := by simpa using hy
        rw [hy', hs]
        exact Option.some_ne_none _⟩
theorem Dq.readsAll (I : Inv X pins σ H s) : ∀ (ds : List PyData) (vs : List V) (us : List Value), DqAll H vs ds → Vals vs us → ∃ as, ReadsAll s.heap us ds as ∧ ∀ x ∈ as, H x ≠ none
  | [], _, _, h, r => by
    cases h
    cases r
    exact ⟨_, ReadsAll.nil, fun x hx => absurd hx (List.not_mem_nil)⟩
  | d :: ds, _, _, h, r => by
    cases h with
    | cons h1 h2 =>
      cases r with
      | cons r1 r2 =>
        obtain ⟨as, q1, n1⟩ := Dq.reads I d _ _ h1 r1
        obtain ⟨bs, q2, n2⟩ := Dq.readsAll I ds _ _ h2 r2
        exact ⟨_, ReadsAll.cons q1 q2, fun x hx => (List.mem_append.mp hx).elim (n1 x) (n2 x)⟩
end
end
section
variable {X : Cx}
/-- dicts of one entry, as items -/
theorem reads_dicts {pins : List (Addr × Obj)} {σ : L2.St} {H : Hp} {s : Shared} {b : Addr} {x : Str} {i : Int} (I : Inv X pins σ H s) (hb : H b = some (.dK [(.inr x, .int i)])) : ∀ (n : Nat) (us : List Value), Vals (List.replicate n (V.ref b)) us →
    ∃ as, ReadsAll s.heap us (List.replicate n (PyData.dict [(.str x, .int i)])) as ∧ sysModules ∉ as
  | 0, _, r => by
    cases r
    exact ⟨[], ReadsAll.nil, List.not_mem_nil⟩
  | n + 1, _, r => by
    cases r with
    | cons r1 r2 =>
      obtain ⟨bs, q2, n2⟩ := reads_dicts I hb n _ r2
      cases r1
      refine ⟨_, ReadsAll.cons (read_dic I hb) q2, fun hm => (List.mem_append.mp hm).elim (fun h => ?_) n2⟩
      have hs := (I.hok _ _ hb).2.1
      have z : sysModules = b := by simpa using h
      rw [← z] at hs
      simp at hs
/-- what repr may be asked of -/
def Sh (H : Hp) (a : Addr) (d : PyData) : Prop := (Dq H (.ref a) d ∧ d.hasDict = false) ∨
  ∃ (n : Nat) (b : Addr) (x : Str) (i : Int), H a = some (.lst (List.replicate (n + 1) (.ref b))) ∧ H b = some (.dK [(.inr x, .int i)]) ∧ d = .list (List.replicate (n + 1) (.dict [(.str x, .int i)]))
/-- repr of tracked data, nothing else being shown -/
def rRep : List V → Hp → VK → Prop := fun xs H Q => ∃ a d, xs = [.ref a] ∧ Sh H a d ∧ d.showable = true ∧ d.depth ≤ 60 ∧ d.shown.length ≤ sizeLine ∧ Q (.str d.shown) H
theorem call_rep (hg : X.A.guards = some []) (hu : X.A.units + 64 < cLine) : CallR X (.builtin "repr") rRep := by
  intro pins s σ H xs us Q I r h
  obtain ⟨a, d, rfl, hd, hsh, hdp, hz, q⟩ := h
  cases r with
  | cons r1 r2 =>
    cases r2
    cases r1
    have fin : ∀ h' u tk, (∀ b o, s.heap.get? b = some o → h'.get? b = some o) → EP X pins σ Q (.str d.shown u) { s with heap := h', toks := tk } := fun h' u tk hk => ⟨.str d.shown, H, I.kept hk, ⟨u, rfl⟩, q⟩
    rcases hd with ⟨hd, nd⟩ | ⟨n, b, x, i, ha, hb, rfl⟩
    · obtain ⟨as, hr, hn⟩ := Dq.reads I d _ _ hd rfl
      exact repr_of_reads' (h₀ := s.heap) hr hsh (fun z => by rw [nd] at z; cases z) hg (by omega) (fun _ _ e => e) fin hz
    · obtain ⟨_, its, k, rv, ho⟩ := I.hok _ _ ha
      obtain ⟨as, h4, hsm⟩ := reads_dicts I hb (n + 1) its rv
      have hz' : (listText (PyData.shownAll (List.replicate (n + 1) (PyData.dict [(.str x, .int i)])))).length ≤ sizeLine := by simpa only [PyData.shown] using hz
      obtain ⟨bs, hbs, hk⟩ := ReprAllK.of_readsAll (prog := X.prog) (w := X.w) h4 (by simpa [PyData.showable] using hsh) (fun _ => hsm) (fun t ht => Nat.le_trans (listText_mem_le ht) hz')
      have hna : a ∉ bs := not_mem_of_deeper (.list ho rfl rfl h4) (by simp only [PyData.depth]; omega) hbs
      refine call_repr_slot (by omega) (⟨_, ho, rfl⟩ : s.TypeIs (.ref a) "list") F.slot_list_repr.toG ?_
      simp only [PyData.depth] at hdp
      simp only [PyData.shown] at fin
      have hl := hk.length_eq
      cases its with
      | nil => cases rv
      | cons u0 its =>
        exact call_list_reprK ho rfl rfl hna hl (fun j y e => hk.item j y (by simpa using e)) hg (fun b _ => Clear.nil b) (by show X.A.units + 1 + _ < _; omega) (fun _ _ e => e) (fun h' u tk hk => ⟨_, _, rfl, fin h' u tk hk⟩) hz'
end

/-! ### defs promised where nothing is being shown -/
/-- .. as FnOk, with this one fact more -/
structure FnG (P : Program) (w : World) (K : PySem.W.Frag) (mg : Str → Option Value) (base : Heap) (k : Nat) (f : Addr) (fd : FuncData) (ps : List Str) (sp : Sp) : Prop where
  len : ∀ vs H Q E, sp vs H Q E → vs.length = ps.length
  run : ∀ (A : Around) (outer : List Env) (s : Shared) (H : Hp) (args : Args) (us : List Value) (vs : List V) (Q : VK) (E : XK), A.guards = some [] → Room k A → Env0 P w K mg base A outer s H → BindsTo s fd args (ps.zip us) → Vals vs us → sp vs H Q E →
    codeAny (model P w) A (.call (.ref f) args) (CR C8.CX0 outer P w H s Q E) s

/-- a def by its body: where nothing is being shown at the call, nothing is in the body -/
theorem fnG {P : Program} {w : World} {K : PySem.W.Frag} {mg : Str → Option Value} {base : Heap} {k : Nat} {x qual : Str} {st : Stmt} {f : Addr} {fd : FuncData} {N ps : List Str} {sp : Sp} (F : C8.Fun K x qual st f fd) (S : FnScope N ps (C8.fnScope st)) (len : ∀ vs H Q E, sp vs H Q E → vs.length = ps.length)
    (hbody : ∀ (cdv : Value) (A : Around) (outer : List Env) (s : Shared) (H : Hp) (vs : List V) (Q : VK) (E : XK), A.guards = some [] → Room k (A.deeper (envOfC qual (C8.fnScope st) s.heap.objs.size f cdv)) → sp vs H Q E →
      ∃ t, PSs (cxOf C8.CX0 P w K mg base N qual (C8.fnScope st) f cdv A outer s H E).nox (C8.fnBody st) t ∧ t { nx := fun _ H' => Q .non H', rt := Q } (start N vs) H) : FnG P w K mg base (k + 1) f fd ps sp := by
  refine ⟨len, fun A outer s H args us vs Q E hG hr e0 hb r hsp => ?_⟩
  obtain ⟨oc, od, dV, kV, doc, pm, an, cdv, ct, osl, rfl, lk, hcd⟩ := F.ex
  have hl := len _ _ _ _ hsp
  have up : ∀ b o, base.get? b = some o → s.heap.get? b = some o := fun b o e => (e0.bs b o e).1
  have KX : K.In s.heap := e0.mod.kin.keeps up
  have hkind : ∀ y ∈ ps.zip us, (C8.fnScope st).names.lookup y.1 = some .local ∨ ((C8.fnScope st).names.lookup y.1 = some .cell ∧ ((cellsFrom (s.heap.objs.size + 1) (C8.fnScope st).names []).lookup y.1).isSome = true) := fun ⟨n, v⟩ hy => by
    rcases S.par n (List.of_mem_zip hy).1 with q | q
    · exact .inl q
    · exact .inr ⟨q, PySem.W.cellsFrom_some _ _ _ (.inl q)⟩
  refine codeAny_call_function hr.depth (KX _ _ lk) rfl S.co S.gen rfl (PySem.W.codeRec_of KX hcd) (hb _ _ _ _ ?_)
  refine wpAny_newFunctionEnv_cells S.kind hkind fun env he s1 x => ?_
  subst he
  refine ⟨(e0.mod.nolimit.keeps up).keeps x.toInCall.keep, codeAny_func ?_⟩
  obtain ⟨t, ht, hq⟩ := hbody cdv A outer s H vs Q E hG (hr.deeper _) hsp
  have I := inv_start (CX := C8.CX0) (E := E) S hr.hd e0 hl r x
  refine wpAny_mono (ht.nox.run [] s1 (start N vs) H _ I hq) (fun fl s' hs => ?_) fun e s' hs => hs
  cases fl with
  | ret u =>
    obtain ⟨v, σ', H', J, rv, q⟩ := hs
    exact ⟨v, H', J.os, J.bare, J.base, J.hok, rv, q⟩
  | next =>
    obtain ⟨σ', H', J, q⟩ := hs
    exact ⟨V.non, H', J.os, J.bare, J.base, J.hok, rfl, q⟩
  | brk =>
    obtain ⟨_, _, _, q⟩ := hs
    exact False.elim q
  | cont =>
    obtain ⟨_, _, _, q⟩ := hs
    exact False.elim q
section
variable {X : Cx} {k : Nat} {f : Addr} {fd : FuncData} {ps : List Str} {sp : Sp} {dvs : List V} {ds : List Value} {E : XK} {x : Str} {p pos : Pos} {e : PySem.Expr} {es : List PySem.Expr} {t : TA}
/-- f(..), such a def -/
theorem pe_callG (F : FnG X.prog X.w X.K X.mg X.base k f fd ps sp) (hG : X.A.guards = some []) (hr : Room k X.A) (hg : Gl X x) (hm : X.mg x = some (.ref f)) (hk : PySem.W.keepIn X.K (.ref f) = true) (hb : Binds X.K fd ps [])
    (ha : PA X (e :: es) t) (hdb : (x == ("__debug__" : Str)) = false := by decide) (he : starEach (e :: es) X.env = (false, eval e X.env) :: starEach es X.env := by rfl) (hpl : (backTo pos (starEach es X.env)).any (·.1) = false := by rfl) :
    PE X (.Call (.Name x p) (e :: es) [] pos) (tCall sp [] C8.E0 t) := by
  refine ⟨fun pins s σ H Q I h => ?_⟩
  refine wpAny_Call_Name_kw (ld_glob I hg hm ?_ hdb)
  refine PySem.W.callWith_K (h₀ := X.base) I.ok.mod.kin hk (thn (ha.run pos pins s σ H _ I h) fun us s1 ⟨vs, H1, I1, r, q'⟩ => ⟨I1.kIn, ?_⟩) he hpl
  have q : sp vs H1 Q C8.E0 := by
    have z : sp (vs ++ []) H1 Q C8.E0 := q'
    rw [List.append_nil] at z
    exact z
  show wpAny _ _ (call (.ref f) us) _ _ s1
  have hl : (us ++ ([] : List Value)).length = ps.length := by rw [List.append_nil, ← r.length]; exact F.len _ _ _ _ q
  have hb' := hb s1 us I1.kIn hl
  rw [List.append_nil] at hb'
  refine wpAny_call (codeAny_mono (F.run X.A X.stack s1 H1 ⟨us, []⟩ us vs Q _ hG hr I1.env0 hb' r q) fun r s' hq => ?_)
  cases r with
  | error e => exact hq.elim
  | ok fl =>
    cases fl with
    | ret u => exact I1.after hq
    | next => exact False.elim hq
    | brk => exact False.elim hq
    | cont => exact False.elim hq
end
end Xo

/-! The end of a law row whose law is promised where nothing is being shown. -/
namespace Xo
open PySem PySem.Spec L2 PyProof.Rows
section
variable {P : Program} {w : World} {K : PySem.W.Frag} {mg mb : Str → Option Value} {k : Nat} {fa a : Addr} {fd : FuncData} {x : Str} {sp : Sp} {s₁ : Shared} {vs : List Value} {ns : List Int}
/-- the script as an object -/
abbrev scrO (vs : List Value) : Obj := { cls := .type "list", data := .seq vs.toArray }
/-- the abstract heap at the law's call: the script, where it is none of the written part's objects -/
def scrH (K : PySem.W.Frag) (a : Addr) (vs : List Value) (ns : List Int) : Hp := fun b => if b = a ∧ K.lookup a = none then some (.frz (scrO vs) (.lst (ns.map V.int))) else none
theorem scrH_some {b : Addr} {u : HO} (h : scrH K a vs ns b = some u) : b = a ∧ K.lookup a = none ∧ u = .frz (scrO vs) (.lst (ns.map V.int)) := by
  unfold scrH at h
  split at h
  · rename_i q
    exact ⟨q.1, q.2, (Option.some.inj h).symm⟩
  · cases h
theorem scrH_none {b : Addr} (h : b ≠ a ∨ K.lookup a ≠ none) : scrH K a vs ns b = none := by
  cases e : scrH K a vs ns b with
  | none => rfl
  | some u =>
    obtain ⟨e1, e2, _⟩ := scrH_some e
    rcases h with h | h
    · exact absurd e1 h
    · exact absurd e2 h
theorem lawG (KX : K.In s₁.heap) (hns : s₁.heap.Ns mainGlobals mg) (hb : s₁.heap.Ns builtinsNs mb) (hbb : ∀ x : Str, x ≠ "__name__" → mb x = bootBuiltins x) (hlim : s₁.heap.NoLimit) (hg : s₁.gens = #[])
    (ha : s₁.heap.get? a = some (scrO vs)) (hi : IntsAre vs ns) (hl : ns.length ≤ sizeLine) (hr : Room k callerA)
    (F : ∀ base : Heap, K.In base → base.Ns mainGlobals mg → FnG P w K mg base k fa fd [x] sp) (hbind : ∀ (s : Shared) (u : Value), BindsTo s fd ⟨[u], []⟩ [(x, u)])
    (hsp : ∀ H : Hp, Only H → SqL K H a (ns.map V.int) → sp [.ref a] H (fun v _ => v = .bl true) fun _ _ _ => False) :
    codeAny (model P w) callerA (.call (.ref fa) ⟨[.ref a], []⟩) (fun r s' => r = .ok (.ret (.bool true)) ∧ OldK s₁.heap s'.heap ∧ s'.os = s₁.os ∧ AllBare s'.gens) s₁ := by
  have rv := vals_ints hi
  generalize hH : scrH K a vs ns = H
  have hO : Only H := fun b => by
    cases e : H b with
    | none => exact .inl rfl
    | some u =>
      rw [← hH] at e
      obtain ⟨_, _, rfl⟩ := scrH_some e
      exact .inr ⟨_, _, rfl⟩
  have hok : HOk P w H s₁.heap := fun b u e => by
    rw [← hH] at e
    obtain ⟨rfl, _, rfl⟩ := scrH_some e
    exact ⟨ha, by rw [List.length_map]; exact hl, vs, _, rv, ha⟩
  have hS : SqL K H a (ns.map V.int) := by
    cases hk : K.lookup a with
    | some o =>
      have e := KX a o hk
      rw [ha] at e
      cases e
      exact .inr ⟨_, vs.toArray, _, hk, rfl, rfl, rfl, by rw [List.size_toArray, hi.length]; exact hl, by simpa using rv⟩
    | none => exact .inl (.inr ⟨scrO vs, by rw [← hH]; exact if_pos ⟨rfl, hk⟩⟩)
  have ofData : ∀ {b : Addr} {o : Obj} {es : Array DictEntry} {ep : Nat}, s₁.heap.get? b = some o → o.data = .dict es ep → H b = none := fun {b o es ep} e d => by
    rw [← hH]
    refine scrH_none (.inl fun q => ?_)
    rw [q, ha] at e
    cases e
    have d' : Data.seq vs.toArray _ = Data.dict es ep := d
    cases d'
  have nsK : ∀ {b : Addr} {m : Str → Option Value}, s₁.heap.Ns b m → (hidT s₁.heap H).Ns b m := fun {b m} ⟨o, es, ep, e, d, r⟩ => ⟨o, es, ep, hidT_get e (ofData e d), d, r⟩
  have hKb : K.In (hidT s₁.heap H) := fun b o e => hidT_get (KX b o e) (by
    rw [← hH]
    by_cases q : b = a
    · refine scrH_none (.inr fun z => ?_)
      have e' : K.lookup b = some o := e
      rw [q, z] at e'
      cases e'
    · exact scrH_none (.inl q))
  have hM : Mod K mg (hidT s₁.heap H) := ⟨hKb, nsK hns, ⟨mb, nsK hb, hbb⟩, let ⟨mc, h1, h2⟩ := hlim; ⟨mc, nsK h1, h2⟩⟩
  have e0 : Env0 P w K mg (hidT s₁.heap H) callerA [] s₁ H := ⟨rfl, hM, fun b o e => of_hidT e, Nat.le_of_eq (hidT_size _ _), trivial, fun b hb => absurd hb List.not_mem_nil, hok, .of_eq hg⟩
  refine codeAny_mono ((F _ hKb (nsK hns)).run callerA [] s₁ H ⟨[.ref a], []⟩ [.ref a] [.ref a] _ _ rfl hr e0 (hbind s₁ (.ref a)) (.cons rfl .nil) (hsp H hO hS)) fun r s' h => ?_
  cases r with
  | error e => exact h.elim
  | ok fl =>
    cases fl with
    | next => exact False.elim h
    | brk => exact False.elim h
    | cont => exact False.elim h
    | ret u =>
      obtain ⟨v, H', os, bare, un, hok', r', q⟩ := h
      have q' : v = .bl true := q
      subst q'
      obtain rfl : u = Value.bool true := r'
      refine ⟨rfl, OldK.of_keep fun b o e => ?_, os, bare⟩
      cases q : H b with
      | none => exact un.keep b o e q List.not_mem_nil List.not_mem_nil
      | some u =>
        rcases hO b with z | ⟨ob, xs, z⟩
        · rw [q] at z; cases z
        · obtain ⟨e1, _⟩ := hok b _ z
          obtain ⟨e2, _⟩ := hok' b _ (un.frzs b ob _ z)
          rw [e] at e1; cases e1
          exact e2
end
/-- the goal that k_head leaves (case hc) -/
theorem walkG {l : PySem.W.OpenLaw} {n k : Nat} {q : Program} {loose : List Str} {XP : (Str → Option Value) → Heap → Prop} {YP : World → Heap → Prop} {d : DefRec} {K : Params → PySem.W.Frag} {sp : PySem.W.Frag → Sp} {x : Str}
    (hn : l.most = some n) (hn2 : n ≤ sizeLine) (hdf : d.params.defaults = []) (hr : Room k callerA)
    (hY : ∀ (w : World) (h : Heap), YP w h → (K w.params).In h)
    (F : ∀ (w : World) (mg : Str → Option Value) (fa : Addr) (h : Heap), (K w.params).In h → h.Ns mainGlobals mg → mg d.name = some (.ref fa) →
      ∃ fd : FuncData, (∀ (s : Shared) (u : Value), BindsTo s fd ⟨[u], []⟩ [(x, u)]) ∧
        ∀ base : Heap, (K w.params).In base → base.Ns mainGlobals mg → FnG l.prog w (K w.params) mg base k fa fd [x] (sp (K w.params)))
    (hsp : ∀ (w : World) (H : Hp) (a : Addr) (ns : List Int), ns.length ≤ n → Only H → SqL (K w.params) H a (ns.map V.int) → sp (K w.params) [.ref a] H (fun v _ => v = .bl true) fun _ _ _ => False) :
    PySem.W.WalkO q loose XP YP l.row.toRowW d [] (fun f vs => PySem.call f vs) := by
  refine Att.attach_call hn hdf fun w s₀ s₁ mg mb fa o pm cd doc a vs ns G Y ho hd hcd hmg hobj hints hlen hg => ?_
  have KX := hY w _ Y
  obtain ⟨fd, hb, hF⟩ := F w mg fa _ KX G.T.g hmg
  exact lawG KX G.T.g G.T.b G.T.builtins G.T.nolimit hg hobj hints (Nat.le_trans hlen hn2) hr hF hb fun H hO hS => hsp w H a ns hlen hO hS
end Xo

/-! Raising an own error whose __init__ calls super().__init__; several except clauses with names. -/
namespace Yo
open PySem PySem.Spec L2 Xo
open PyProof.Rows (envOfC)
open PySem.W (excObj excTup excInitIn findIn isFn looks_findIn exc_bind excInit_of)

/-! ### except X as n: .. except Y as m: .. -/
def wManyAs (K : PySem.W.Frag) (Wout : WX) (D : Ends) : List (Value × Nat × (Addr → Value → Option Addr → TS)) → WX
  | [] => Wout
  | (c, i, ts) :: r => fun cls d σ H => ∃ b, PySem.W.exmOne K cls c = some b ∧
      (b = true → ∀ a, H a = none → ts a cls d { nx := fun σ' H' => D.nx (σ'.set i none) H', rt := D.rt, bk := fun σ' H' => D.bk (σ'.set i none) H', ct := fun σ' H' => D.ct (σ'.set i none) H' } (σ.set i (some (.ref a))) H) ∧
      (b = false → wManyAs K Wout D r cls d σ H)
inductive HdsAs (X : Cx) : List ExceptHandler → List (Value × Nat × (Addr → Value → Option Addr → TS)) → Prop
  | nil : HdsAs X [] []
  | cons {x n : Str} {c : Value} {i : Nat} {ts : Addr → Value → Option Addr → TS} {b₀ : Stmt} {suite : List Stmt} {np pos' : Pos} {hds : List ExceptHandler} {l : List (Value × Nat × (Addr → Value → Option Addr → TS))}
      (hi : X.N[i]? = some n) (hln : X.env.kindOf n = some .local) (hc : Names X x c)
      (hsu : ∀ (a : Addr) (oe : Obj) (cls : Value) (d : Option Addr) (pn : List (Addr × Obj)), Zc cls d oe → (∃ vs, oe.data = .fields vs) → PSs (X.suite a ((a, oe) :: pn)) (b₀ :: suite) (ts a cls d)) (r : HdsAs X hds l) :
      HdsAs X (.ExceptHandler (some (.Name x np)) (some n) (b₀ :: suite) pos' :: hds) ((c, i, ts) :: l)
section
variable {X : Cx} {body : List Stmt} {h₀ : ExceptHandler} {hds : List ExceptHandler} {l : List (Value × Nat × (Addr → Value → Option Addr → TS))} {pos : Pos} {tb : WX → TS} {Wout : WX}
theorem ps_try_manyAs (hs : X.stack = X.env :: X.outer) (hf : X.env.frame = some X.env.locals) (hN : X.N.Nodup) (tk : Takes X Wout)
    (hb : ∀ (W : WX) (pn : List (Addr × Obj)) (xe : Value → Shared → Prop), Takes (X.tr pn xe) W → PassesOwn (model X.prog X.w) X.A X.env xe → PSs (X.tr pn xe) body (tb W))
    (hh : HdsAs X (h₀ :: hds) l) : PS X (.Try body (h₀ :: hds) [] [] pos) (fun D σ H => tb (wManyAs X.K Wout D l) D σ H) := by
  refine ⟨fun pins s σ H D I h => ?_⟩
  have ok := I.ok
  have hfr : X.A.frames = some (X.env :: X.outer) := by rw [ok.frames, hs]
  refine wpAny_Try_except ?_
  refine wpAny_mono ((hb (wManyAs X.K Wout D l) (X.pn ++ pins) (fun e s₁ => wpAny (model X.prog X.w) X.A (noteFrame e X.env) (fun _ s₂ => wpAny (model X.prog X.w) X.A (setFlight e none) (fun _ s₃ =>
    wpAny (model X.prog X.w) X.A (handleBy e X.env (h₀ :: hds)) (SP X pins D) X.xe s₃) X.xe s₂) X.xe s₁) (fun u s' xx => ?_) PassesOwn.looking).run [] s σ H D (I.toTry _) h) (fun f s1 hsp => ?_) (fun e s1 he => he)
  · obtain ⟨a, B, sI, pins', σ', H', cls, d, rfl, J', nb, up, sky, na, os, ag, w⟩ := xx
    have J : Inv X pins σ' H' sI := J'.ofTry ok
    have sky' : Sky B (X.env :: X.outer) a (Zc cls d) X.env.locals s'.heap := by rw [← hs]; exact sky
    show wpAny (model X.prog X.w) X.A (noteFrame (.ref a) X.env) _ _ _
    refine Sky.land Zc.steady hfr hf sky' fun h3 fl3 up3 => ?_
    have J3 : Inv X pins σ' H' { s' with heap := h3 } := J.landed nb fl3.1 (up.trans up3) os ag
    obtain ⟨oe3, vs3, he3, hz3, hd3⟩ := fl3.there
    have notFr : ∀ {h : Heap} {o : Obj} {vs : Array Value}, h.FunFrames B (X.env :: X.outer) → h.get? a = some o → o.data = .fields vs → a ∉ frs (X.env :: X.outer) := fun {h o vs} ff e dd hm => by
      obtain ⟨_, o', e', hnf⟩ := ff.mem hm
      rw [e] at e'; cases e'
      exact hnf _ dd
    have nfr := notFr fl3.2.2.1 he3 hd3
    have nL : a ≠ X.env.locals := fun z => nfr (List.mem_filterMap.mpr ⟨X.env, List.mem_cons_self, by rw [hf, z]⟩)
    have nF : a ∉ X.fs := fun hm => by
      obtain ⟨e, he, q⟩ := List.mem_filterMap.mp hm
      exact nfr (List.mem_filterMap.mpr ⟨e, List.mem_cons_of_mem _ he, q⟩)
    have S3 := J3.suite he3 hd3 na nL nF
    have go : ∀ {hds' : List ExceptHandler} {l' : List (Value × Nat × (Addr → Value → Option Addr → TS))}, HdsAs X hds' l' → wManyAs X.K Wout D l' cls d σ' H' →
        wpAny (model X.prog X.w) X.A (handleBy (.ref a) X.env hds') (SP X pins D) X.xe { s' with heap := h3 } := by
      intro hds' l' hk
      induction hk with
      | nil =>
        intro w
        refine wpAny_handleBy_nil ?_
        obtain ⟨k1, k2, k3, oe, vs, T, oT, ts', he, hz, hd, h1, hr⟩ := id fl3
        unfold PySem.passOn
        refine wpAny_bind (wpAny_field he hd h1 ?_)
        rw [if_neg (show ¬ ((Value.ref T == Value.none) = true) from by simp)]
        have fin : wpAny (model X.prog X.w) X.A (setFlight (.ref a) X.env.frame) (fun _ s4 => wpAny (model X.prog X.w) X.A (throw (.ref a) : Sem Flow) (SP X pins D) X.xe s4) X.xe { s' with heap := h3 } := by
          rw [hf]
          refine HandSPX.setFlight_upZ fl3 fun h4 hh4 up4 => wpAny_throw (tk _ _ ?_)
          exact ⟨a, B, sI, pins, σ', H', cls, d, rfl, J, nb, (up.trans up3).trans up4, .inr (.inr (by rw [hs]; exact hh4)), na, os, ag, w⟩
        first
          | exact wpAny_bind (wpAny_pure (wpAny_bind fin))
          | exact wpAny_bind fin
      | @cons x n c i ts b₀ suite np pos' hds2 l2 hi hln hc hsu r ih =>
        intro w
        have hloc : Loc X.env.scope n := .inl hln
        obtain ⟨b, hb1, hyes, hno⟩ := w
        refine wpAny_handleBy_cons (codeAny_handlers_test ?_) (by intro q; cases q)
        have LT : PySem.W.Looks (model X.prog X.w) h3 (typeOf (.ref a)) cls := fun A Q E s k q => wpAny_typeOf_ref (k _ _ he3) (by rw [hz3.1]; exact q)
        have LM := PySem.W.exm_one (M := model X.prog X.w) (J3.kIn) LT hb1
        have test : ∀ {Q : Value → Shared → Prop} {E : Value → Shared → Prop}, Q c { s' with heap := h3 } → wpAny (model X.prog X.w) (X.A.mark (some (.ref a))) (eval (.Name x np) X.env) Q E { s' with heap := h3 } := fun {Q E} q => by
          obtain ⟨hg, hdbg, hm | ⟨hm, hv, hnn⟩⟩ := hc
          · exact ld_glob (X := X.suite a ((a, oe3) :: (X.pn ++ pins))) S3 hg hm q hdbg
          · exact ld_blt (X := X.suite a ((a, oe3) :: (X.pn ++ pins))) S3 hg hm hv q hnn hdbg
        refine test (LM.here ?_)
        cases b with
        | true =>
          refine codeAny_handlers_suite_as ?_
          refine HandSPX.lands_againZ fl3 fun h4 fl4 up4 => ?_
          have J4 : Inv X pins σ' H' { s' with heap := h4 } := J.landed nb fl4.1 ((up.trans up3).trans up4) os ag
          obtain ⟨oe4, vs4, he4, hz4, hd4⟩ := fl4.there
          have S4 := J4.suite he4 hd4 na nL nF
          refine store_ok (X := X.suite a ((a, oe4) :: (X.pn ++ pins))) (v := .ref a) S4 hN hi hloc rfl (fun s5 S5 => ?_) (.inr hln)
          refine wpAny_mono ((hsu a oe4 cls d (X.pn ++ pins) hz4 ⟨_, hd4⟩).run [] s5 _ H' _ S5 (hyes rfl a na)) (fun f s6 hsp => ?_) (fun _ _ z => False.elim z)
          have end_ : ∀ {σ6 : L2.St} {H6 : Hp} {Q : Shared → Prop}, Inv (X.suite a ((a, oe4) :: (X.pn ++ pins))) [] σ6 H6 s6 → (∀ s7, Inv X pins (σ6.set i none) H6 s7 → Q s7) →
              wpAny (model X.prog X.w) X.A (do bindName X.env n .none; unbindBehindTheSuite X.env n pos') (fun _ s7 => Q s7) X.xe s6 := fun {σ6 H6 Q} S6 hq => gone_ok (S6.unsuite ok) hN hi hln hq
          cases f with
          | next =>
            obtain ⟨σ6, H6, S6, q6⟩ := hsp
            exact end_ S6 fun s7 J7 => ⟨_, _, J7, q6⟩
          | brk =>
            obtain ⟨σ6, H6, S6, q6⟩ := hsp
            exact end_ S6 fun s7 J7 => ⟨_, _, J7, q6⟩
          | cont =>
            obtain ⟨σ6, H6, S6, q6⟩ := hsp
            exact end_ S6 fun s7 J7 => ⟨_, _, J7, q6⟩
          | ret u =>
            obtain ⟨v6, σ6, H6, S6, r6, q6⟩ := hsp
            exact end_ S6 fun s7 J7 => ⟨_, _, _, J7, r6, q6⟩
        | false =>
          show wpAny _ X.A (handleBy (.ref a) X.env hds2) _ _ _
          exact ih (hno rfl)
    exact go hh w
  · cases f with
    | next =>
      obtain ⟨σ', H', J', q⟩ := hsp
      exact wpAny_execs_nil ⟨σ', H', J'.ofTry ok, q⟩
    | brk =>
      obtain ⟨σ', H', J', q⟩ := hsp
      exact ⟨σ', H', J'.ofTry ok, q⟩
    | cont =>
      obtain ⟨σ', H', J', q⟩ := hsp
      exact ⟨σ', H', J'.ofTry ok, q⟩
    | ret u =>
      obtain ⟨v, σ', H', J', r, q⟩ := hsp
      exact ⟨v, σ', H', J'.ofTry ok, r, q⟩
end

/-! ### raise X(e) -/
section
variable {fs ex : List Addr} {H : Hp} {h h' : Heap} {a b C : Addr} {u : HO}
theorem un_mk (k : ∀ c v, h.get? c = some v → h'.get? c = some v) (ha : h.get? a = none) (hb : h.get? b = none) (na : H a = none) (nb : H b = none) (ne : b ≠ a) : Un fs ex (upd H a (exo a C none)) (upd (upd H b u) a (exo a C (some b))) h h' := by
  have nq : ∀ {c : Addr} {v : Obj}, h.get? c = some v → c ≠ a ∧ c ≠ b := fun {c v} q => ⟨fun z => (by rw [z, ha] at q; cases q), fun z => (by rw [z, hb] at q; cases q)⟩
  have nh : ∀ {c : Addr} {v : HO}, upd H a (exo a C none) c = some v → v ≠ exo a C none → c ≠ a ∧ c ≠ b := fun {c v} q nv => by
    have ca : c ≠ a := fun z => by
      rw [z, upd_same] at q
      exact nv (Option.some.inj q).symm
    rw [upd_ne ca] at q
    exact ⟨ca, ne_of_none q nb⟩
  refine ⟨fun c v q _ _ _ => k c v q, fun c v q _ _ _ => ⟨v.slots, k c v q⟩, fun c v q n _ => ?_, fun c v q _ => ⟨v, k c v q⟩, fun c xs q => ?_, fun c v xs q => ?_, fun c ps q => ⟨#[], ?_⟩⟩
  · rw [upd_ne (nq q).1] at n
    rw [upd_ne (nq q).1, upd_ne (nq q).2]; exact n
  · have z := nh q (Ne.symm exo_tup)
    rw [upd_ne z.1] at q
    rw [upd_ne z.1, upd_ne z.2]; exact q
  · have z := nh q (Ne.symm exo_frz)
    rw [upd_ne z.1] at q
    rw [upd_ne z.1, upd_ne z.2]; exact q
  · have z := nh q (Ne.symm exo_tbl)
    rw [upd_ne z.1] at q
    rw [upd_ne z.1, upd_ne z.2, q]; simp
end
section
variable {X : Cx} {pins : List (Addr × Obj)} {σ : L2.St} {H : Hp} {s : Shared} {C fI : Addr}
/-- such a class called, to be raised -/
theorem mk_sup {us : List Value} {kw : List (Str × Value)} {fs : List (Str × Value)} {fv : List (Str × V)} {Q : XK} (T : Raises X (.ref C)) (hC : excInitIn X.K C mroX "Exception.__new__" = true) (hf : findIn X.K (.ref C) "__init__" = some (some (.ref fI))) (hF : isFn X.K (.ref fI) = true)
    (ini : IniRuns X.prog X.w X.K X.mg C fI us kw fs) (hr : Room 2 X.A) (hs : X.mg "super" = none) (I : Inv X pins σ H s) (rel : ∀ f, RelO (fv.lookup f) (fs.lookup f)) (hz : us.length ≤ sizeLine)
    (hq : ∀ d, H d = none → Q (.ref C) (some d) (upd H d (.xd fv))) :
    wpAny (model X.prog X.w) X.A (call (.ref C) us kw) (MkP X pins σ Q) X.xe s := by
  obtain ⟨nm, N', qn, bs, bm, hdct, sn, sub, ab, col, dd, k0, k1, k2, k3, k5, hCo, hT⟩ := excInit_of I.kIn hC
  obtain ⟨oI, hoI, hcI⟩ : ∃ oI, s.heap.get? fI = some oI ∧ oI.cls = .type "function" := by
    obtain ⟨o, ho, hc⟩ := Option.map_eq_some_iff.mp (show (X.K.lookup fI).map (·.cls) = some (.type "function") from beq_iff_eq.mp hF)
    exact ⟨o, I.kIn _ _ ho, hc⟩
  obtain ⟨mb, hb, hbx⟩ := I.mod.blt
  have gl := I.mod.glob.keeps I.bk
  have bl := hb.keeps I.bk
  have lim := I.nolimit
  have kin := I.kIn
  have e1 : s.heap.get? (s.heap.objs.size + 1) = none := Heap.get?_none_of_le (Nat.le_succ _)
  have hxK : X.K.lookup (s.heap.objs.size + 1) = none := by
    cases z : X.K.lookup (s.heap.objs.size + 1) with
    | none => rfl
    | some o => rw [kin _ _ z] at e1; cases e1
  have I' := I
  obtain ⟨h, g, d, t, os⟩ := s
  have k : ∀ b o, h.get? b = some o → ((h.push (excTup us)).push (HandSPX.excO C h.objs.size)).get? b = some o := fun b o e => Heap.get?_push_of_some _ (Heap.get?_push_of_some _ e)
  have hget : ((h.push (excTup us)).push (HandSPX.excO C h.objs.size)).get? (h.objs.size + 1) = some (excObj C h.objs.size none .none) := by heap_get
  refine wpAny_call (kw_call F.excBase_Exception hT hCo (looks_findIn kin hf) (fun self => exc_bind hoI hcI self) hz ?_)
  refine ini _ _ g d t os h.objs.size _ _ ⟨kin.keeps k, gl.keeps k, hs, ⟨mb, bl.keeps k, hbx _ (by decide)⟩, lim.keeps k, (hr.make C us kw).depth⟩ hxK hget fun h' t' ⟨t1, dx, k', ex, nd, ne, ns⟩ => ⟨rfl, ?_⟩
  have ks : ∀ b o, h.get? b = some o → h'.get? b = some o := fun b o e => k' b o (fun z => by rw [z] at e; rw [show h.get? (h.objs.size + 1) = none from e1] at e; cases e) (k b o e)
  have dn : h.get? dx = none := by
    cases z : h.get? dx with
    | none => rfl
    | some o => rw [k _ _ z] at nd; cases nd
  have na := I'.hok.gone e1
  have nb := I'.hok.gone dn
  have J := inv_two (t' := t') I' ks e1 dn ne (exd_ok ns rel) (exo_ok ex)
  have e2 : upd (del (upd (upd H dx (exd dx fv)) (h.objs.size + 1) (exo (h.objs.size + 1) C (some dx))) (h.objs.size + 1)) dx (.xd fv) = upd H dx (.xd fv) := by
    funext b
    by_cases hbd : b = dx
    · rw [hbd, upd_same, upd_same]
    · rw [upd_ne hbd, upd_ne hbd]
      by_cases hba : b = h.objs.size + 1
      · rw [hba, del_same, na]
      · rw [del_ne hba, upd_ne hba, upd_ne hbd]
  refine mk_end (H2 := upd (upd H dx (exd dx fv)) (h.objs.size + 1) (exo (h.objs.size + 1) C (some dx))) (hp2 := h) (fs := fv) T I' (Nat.le_succ _) (fun _ _ z => z) (un_mk ks e1 dn na nb ne) J.hok rfl I'.bare upd_same (by rw [upd_ne ne]; exact upd_same) nb ?_
  rw [e2]
  exact hq _ nb
end
/-- the reading: one argument, kept under its name -/
def tMkS (C : Addr) (f : Str) (ta : TA) : L2.St → Hp → XK → Prop := fun σ H Q => ta σ H fun vs H1 => ∃ v, vs = [v] ∧ ∀ d, H1 d = none → Q (.ref C) (some d) (upd H1 d (.xd [(f, v)]))
section
variable {X : Cx} {C fI : Addr} {x : Str} {e : PySem.Expr} {ta : TA} {p pos : Pos} {f : Str}
theorem pmk_sup (T : Raises X (.ref C)) (hC : excInitIn X.K C mroX "Exception.__new__" = true) (hf : findIn X.K (.ref C) "__init__" = some (some (.ref fI))) (hF : isFn X.K (.ref fI) = true) (kC : PySem.W.keepIn X.K (.ref C) = true) (hg : Gl X x) (gC : X.mg x = some (.ref C))
    (ini : ∀ u : Value, IniRuns X.prog X.w X.K X.mg C fI [u] [] [(f, u)]) (hr : Room 2 X.A) (hs : X.mg "super" = none)
    (ha : PA X [e] ta) (hdb : (x == ("__debug__" : Str)) = false := by decide) (he : starEach [e] X.env = (false, eval e X.env) :: starEach [] X.env := by rfl) (hpl : (backTo pos (starEach [] X.env)).any (·.1) = false := by rfl) :
    PMk X (.Call (.Name x p) [e] [] pos) (tMkS C f ta) := by
  intro pins s σ H Q I h
  refine wpAny_Call_Name_kw (ld_glob I hg gC ?_ hdb)
  refine PySem.W.callWith_K (h₀ := X.base) I.ok.mod.kin kC (thn (ha.run pos pins s σ H _ I h) fun us s1 ⟨vs, H1, I1, r1, v, ev, q⟩ => ⟨I1.kIn, ?_⟩) he hpl
  subst ev
  cases r1 with
  | cons rv rr =>
    cases rr
    refine mk_sup T hC hf hF (ini _) hr hs I1 (fun g => ?_) (by rw [sizeLine_eq]; show 1 ≤ _; omega) q
    by_cases hg : g = f
    · rw [hg]
      simp only [List.lookup, beq_self_eq_true]
      exact rv
    · have z : (g == f) = false := by simpa using hg
      simp only [List.lookup, z]
      exact True.intro
end
end Yo

/-! Operators: a text times a number, == and != by an own __eq__, repr of any tracked data. -/
namespace Yo
open PySem PySem.Spec L2 Xo

/-! ### a text times a number -/
def rMulS : R2 := fun x y H Q => ∃ (z : Str) (k : Int), x = .str z ∧ y = .int k ∧ 1 ≤ k ∧ k ≤ 10000 ∧ z.length ≤ 1000 ∧ Q (.str (Txt.mul z k)) H
theorem op_mulS {X : Cx} : OpR X (binaryOp .Mult) rMulS := by
  intro pins s σ H x y v u Q I rx ry h
  obtain ⟨z, k, rfl, rfl, k1, k2, hz, q⟩ := h
  obtain ⟨t1, rfl⟩ := rx
  obtain ⟨t2, rfl⟩ := ry
  have hm : z.length * k.toNat ≤ 1000 * 10000 := Nat.mul_le_mul hz (by omega)
  refine PySem.SB.mul ⟨?_, fun _ _ => ?_, fun _ _ => ?_⟩ fun t' tk => ⟨.str (Txt.mul z k), H, I.tok tk, ⟨t', rfl⟩, q⟩
  · rw [decide_eq_false (show ¬ k < -(2 ^ 63 : Int) by omega), decide_eq_false (show ¬ k ≥ (2 ^ 63 : Int) by omega)]
    rfl
  · intro hgt
    have h3 : ((2 : Int) ^ 63 - 1) / k ≥ 1000 := by
      refine (Int.le_ediv_iff_mul_le (by omega)).mpr ?_
      omega
    have h4 : ((z.length : Nat) : Int) ≤ 1000 := by exact_mod_cast hz
    omega
  · show decide (_ > sizeLine) = false
    refine decide_eq_false ?_
    rw [sizeLine_eq]
    omega

/-! ### repr of any tracked data, nothing else being shown -/
def rRepV : List V → Hp → VK → Prop := fun xs H Q => ∃ v d, xs = [v] ∧ Dq H v d ∧ d.hasDict = false ∧ d.showable = true ∧ d.depth ≤ 60 ∧ d.shown.length ≤ sizeLine ∧ (∀ i : Int, v = .int i → i.natAbs.log2 < 1920) ∧ Q (.str d.shown) H
theorem call_repV {X : Cx} (hg : X.A.guards = some []) (hu : X.A.units + 64 < cLine) : CallR X (.builtin "repr") rRepV := by
  intro pins s σ H xs us Q I r h
  obtain ⟨v, d, rfl, hd, nd, hsh, hdp, hz, hi, q⟩ := h
  cases v with
  | ref a => exact call_rep hg hu pins s σ H [.ref a] us Q I r ⟨a, d, rfl, .inl ⟨hd, nd⟩, hsh, hdp, hz, q⟩
  | non =>
    cases hd
    obtain ⟨u, rfl, r1⟩ := vals1 r
    cases (show u = Value.none from r1)
    exact P.repr_of_none ⟨.str PyData.none.shown, H, I.tok _, ⟨_, rfl⟩, q⟩
  | bl b =>
    cases hd
    obtain ⟨u, rfl, r1⟩ := vals1 r
    cases (show u = Value.bool b from r1)
    refine P.repr_of_bool ⟨.str (PyData.bool b).shown, H, I.tok _, ⟨s.toks, ?_⟩, q⟩
    cases b <;> rfl
  | int i =>
    cases hd
    obtain ⟨u, rfl, r1⟩ := vals1 r
    obtain ⟨t, rfl⟩ := r1
    exact P.repr_of_int (hi i rfl) ⟨.str (PyData.int i).shown, H, I.tok _, ⟨_, rfl⟩, q⟩
  | str z =>
    cases hd
    obtain ⟨u, rfl, r1⟩ := vals1 r
    obtain ⟨t, rfl⟩ := r1
    exact P.repr_of_str ⟨.str (PyData.str z).shown, H, I.tok _, ⟨_, rfl⟩, q⟩ hz
  | byt b => cases hd
  | flt b => cases hd
  | ty n => cases hd

/-! ### == and != by an own __eq__ -/
theorem ns_of {K : PySem.W.Frag} {h : Heap} {N : Addr} {mg : Str → Option Value} {n : Str} {v : Value} (X : K.In h) (G : h.Ns N mg) (e : PySem.W.nsIn K N n = some (some v)) : mg n = some v := by
  obtain ⟨o, es, ep, ho, hd, _, hf⟩ := G
  unfold PySem.W.nsIn at e
  split at e
  · rename_i c d es' n' sl q
    have := X _ _ q
    rw [ho] at this
    cases this
    cases hd
    split at e
    · rename_i en he
      cases e
      rw [← hf]
      unfold nsFind findBy
      rw [← Array.find?_toList, he]
      rfl
    · split at e <;> cases e
  · cases e
/-- what the class's own == is -/
structure OwnEq (K : PySem.W.Frag) (C f : Addr) : Prop where
  find : PySem.W.findIn K (.ref C) "__eq__" = some (some (.ref f))
  fn : PySem.W.isFn K (.ref f) = true
  obj : ∃ (nm q : Str) (N : Addr) (bs : List Value) (hdct : Bool) (sn : List Str) (sub : List Value) (ab : Bool) (col : Option Bool) (dd : Option Addr) (k0 k1 k2 k3 k5 : Option Value) (newId : String),
    K.lookup C = some (excClassObj nm q C N bs [.type "object"] hdct sn sub ab col dd k0 k1 k2 k3 k5 newId) ∧ PySem.W.nsOkIn K N = true ∧ PySem.W.nsIn K N "__eq__" = some (some (.ref f)) ∧ PySem.W.nsIn K N "__ne__" = some none
section
variable {X : Cx} {CX : CXT} {k : Nat} {C f : Addr} {fd : FuncData} {ps : List Str} {sp : Sp}
/-- what is asked: the left one an instance of the class, the other one of a known type, the promise -/
def rEqO (K : PySem.W.Frag) (C : Addr) (sp : Sp) : R2 := fun x y H Q => ∃ (a dx : Addr) (fs : List (Str × V)) (t : Value), x = .ref a ∧ H a = some (.ins C dx fs) ∧ TyX K H y t ∧ PySem.W.notFirst K C t = true ∧
  sp [x, y] H (fun v H' => ∃ b, v = .bl b ∧ Q (.bl b) H') C8.E0
theorem op_eqO (T : OwnEq X.K C f) (F : FnOk X.prog X.w X.K X.mg X.base C8.CX0 k f fd ps sp) (hr : Room k X.A) (hb : Binds X.K fd ps []) : OpR X (compareOp .Eq) (rEqO X.K C sp) := by
  intro pins s σ H x y v u Q I rx ry h
  obtain ⟨a, dx, fs, t, rfl, ha, ty, nf, hsp⟩ := h
  cases rx
  obtain ⟨mA, J, _⟩ := ins_get I.hok ha
  obtain ⟨od, J, _⟩ := J.look
  obtain ⟨P, Z, p, _⟩ := kit_of I ry ty
  obtain ⟨m, hF⟩ := I.fr
  show wpAny (model X.prog X.w) X.A (richCompare .Eq (.ref a) u) (EP X pins σ Q) X.xe s
  refine PySem.W.cmp_K (op := .Eq) (tb := t) hr.units0 hF I.ok.mod.kin J (Z.ty _ _ I.kIn p) nf T.find T.fn ?_
  have hl := F.len _ _ _ _ hsp
  have r2 : Vals [V.ref a, y] [Value.ref a, u] := .cons rfl (.cons ry .nil)
  refine wpAny_call (codeAny_mono (F.run X.A X.stack s H ⟨[.ref a, u], []⟩ [.ref a, u] [.ref a, y] _ C8.E0 hr I.env0 (by
    have := hb s [.ref a, u] I.kIn (by rw [List.append_nil, ← r2.length]; exact hl)
    rw [List.append_nil] at this
    exact this) r2 hsp) fun r s' hq => ?_)
  cases r with
  | error e => exact hq.elim
  | ok fl =>
    cases fl with
    | ret w =>
      obtain ⟨z, H', I', rz, b, ez, q⟩ := I.after hq
      subst ez
      cases rz
      exact ⟨.bl b, H', I', rfl, q⟩
    | next => exact False.elim hq
    | brk => exact False.elim hq
    | cont => exact False.elim hq
/-- != of two instances -/
def rNeO (C : Addr) (sp : Sp) : R2 := fun x y H Q => ∃ (a b dx dy : Addr) (fs gs : List (Str × V)), x = .ref a ∧ y = .ref b ∧ H a = some (.ins C dx fs) ∧ H b = some (.ins C dy gs) ∧
  sp [x, y] H (fun v H' => ∃ c, v = .bl c ∧ Q (.bl (!c)) H') C8.E0
theorem op_neO (T : OwnEq X.K C f) (F : FnOk X.prog X.w X.K X.mg X.base C8.CX0 k f fd ps sp) (hr : Room (k + 1) X.A) (hb : Binds X.K fd ps []) : OpR X (compareOp .NotEq) (rNeO C sp) := by
  intro pins s σ H x y v u Q I rx ry h
  obtain ⟨a, b, dx, dy, fs, gs, rfl, rfl, ha, hb', hsp⟩ := h
  cases rx
  cases ry
  obtain ⟨mA, J, _⟩ := ins_get I.hok ha
  obtain ⟨mB, J', _⟩ := ins_get I.hok hb'
  obtain ⟨od, J, _⟩ := J.look
  obtain ⟨od', J', _⟩ := J'.look
  obtain ⟨nm, q, N, bs, hdct, sn, sub, ab, col, dd, k0, k1, k2, k3, k5, newId, lk, nsok, n1, n2⟩ := T.obj
  have kin := I.kIn
  have hns := Heap.Ns.of_isNs (PySem.W.isNs_of_in kin nsok)
  obtain ⟨oI, hoI, hcI⟩ : ∃ oI, s.heap.get? f = some oI ∧ oI.cls = .type "function" := by
    obtain ⟨o, ho, hc⟩ := Option.map_eq_some_iff.mp (show (X.K.lookup f).map (·.cls) = some (.type "function") from beq_iff_eq.mp T.fn)
    exact ⟨o, kin _ _ ho, hc⟩
  have OE : s.heap.OwnEqNoNe a C f "object" [.type "object"] := ⟨_, oI, nm, q, N, bs, hdct, sn, sub, ab, col, dd, k0, k1, k2, k3, k5, newId, _, _, J.at_, J.cls, kin _ _ lk, hns, ns_of kin hns n1, hoI, hcI, PySem.F.cmp_object.mro, PySem.F.cmp_object.eq.lookup, PySem.W.ns_none_of kin hns n2⟩
  have r2 : Vals [V.ref a, V.ref b] [Value.ref a, Value.ref b] := .cons rfl (.cons rfl .nil)
  have hl := F.len _ _ _ _ hsp
  have I0 := I
  obtain ⟨h, g, d, tk, os⟩ := s
  show wpAny (model X.prog X.w) X.A (compareOp .NotEq (.ref a) (.ref b)) (EP X pins σ Q) X.xe _
  have e0 : Env0 X.prog X.w X.K X.mg X.base X.A.in1 X.stack ⟨h, g, d, tk, os⟩ H := by
    have e := I0.env0
    exact ⟨e.frames, e.mod, e.bs, e.bsz, e.funs, e.frf, e.hok, e.bare⟩
  refine compareOp_ne_ownEq PySem.F.cmp_object OE J'.at_ J'.cls (hu_of hr) ?_
  refine wpAny_call (codeAny_mono (F.run X.A.in1 X.stack _ H ⟨[.ref a, .ref b], []⟩ [.ref a, .ref b] [.ref a, .ref b] _ C8.E0 (hr.in1) e0 (by
    have := hb ⟨h, g, d, tk, os⟩ [.ref a, .ref b] I0.kIn (by rw [List.append_nil, ← r2.length]; exact hl)
    rw [List.append_nil] at this
    exact this) r2 hsp) fun r s' hq => ?_)
  cases r with
  | error e => exact hq.elim
  | ok fl =>
    cases fl with
    | ret w =>
      obtain ⟨z, H', I', rz, c, ez, q⟩ := I0.after hq
      subst ez
      cases rz
      exact ⟨c, rfl, .bl (!c), H', I', rfl, q⟩
    | next => exact False.elim hq
    | brk => exact False.elim hq
    | cont => exact False.elim hq
end
end Yo

/-! The program's defs that a desk reaches: looks at values, rows of a text. -/
namespace K11
open PySem PySem.Spec C8 Xo Yo
open L2 hiding Fun CX0 pass0 E0
def top (i : Nat) : Stmt := PySem.Challenge.pw_bindertongue_k11_desks_unbound_and_twins.main.body.getD i (.Pass ⟨0, 0, 0, 0⟩)
theorem u1 {k : Nat} {A : Around} (r : Room k A) : A.units + 1 < cLine := by have := r.un; omega
theorem same_upd {H : Hp} {p : Addr} {o : HO} (h : H p = none) : Same H (upd H p o) := fun b u e => by
  rw [upd_ne (ne_of_none e h)]
  exact e

/-- what the module's names are -/
structure G (mg : Str → Option Value) : Prop where
  len : mg "len" = none
  isi : mg "isinstance" = none
  str : mg "str" = none
  tuple : mg "tuple" = none
  list : mg "list" = none
  int : mg "int" = none
  bool : mg "bool" = none
  range : mg "range" = none
  enum : mg "enumerate" = none
  divmod : mg "divmod" = none
  abs : mg "abs" = none
  repr : mg "repr" = none
  all : mg "all" = none
  super : mg "super" = none
  mS : ∃ t, mg "MOST_SIGNS" = some (.int 2000 t)
  mR : ∃ t, mg "MOST_ROWS_desks" = some (.int 60 t)
  put : ∃ t, mg "PUT" = some (.str "put" t)
  row : ∃ t, mg "ROW" = some (.str "row" t)
  out : ∃ t, mg "OUT" = some (.str "out" t)
section
variable {P : Program} {w : World} {K : PySem.W.Frag} {mg : Str → Option Value} {base : Heap} {f f1 f2 : Addr} {fd fd1 fd2 : FuncData}
/-- a def at its name -/
structure At (K : PySem.W.Frag) (mg : Str → Option Value) (x : Str) (f : Addr) : Prop where
  m : mg x = some (.ref f)
  k : PySem.W.keepIn K (.ref f) = true

/-! ### looks at values -/
abbrev sIsStr : Stmt := top 10
/-- a value that is a text, or none -/
inductive StrOr (K : PySem.W.Frag) (H : Hp) : V → Bool → Prop
  | yes (z : Str) : StrOr K H (.str z) true
  | no {v : V} {t : Value} (ty : TyX K H v t) (e : PySem.W.kitOne K t (.type "str") = some false) : StrOr K H v false
theorem StrOr.isi {K : PySem.W.Frag} {H : Hp} {v : V} {b : Bool} (h : StrOr K H v b) : ∃ t, TyX K H v t ∧ PySem.W.kitOne K t (.type "str") = some b := by
  cases h with
  | yes z => exact ⟨_, .base (.str z), kit_ty (by decide +kernel)⟩
  | no ty e => exact ⟨_, ty, e⟩
def spIsStr (K : PySem.W.Frag) : Sp := fun vs H Q _ => ∃ v b, vs = [v] ∧ StrOr K H v b ∧ Q (.bl b) H
theorem scIsStr : FnScope ["value"] ["value"] (fnScope sIsStr) := fnScope_by (by decide +kernel)
theorem ok_isStr (g : G mg) (F : Fun K "is_string" "is_string" sIsStr f fd) : FnOk P w K mg base CX0 1 f fd ["value"] (spIsStr K) := by
  refine fn0 F scIsStr (fun vs H Q E h => ?_) (fun cdv A outer s H vs Q E hr h => ?_)
  · obtain ⟨v, b, rfl, _⟩ := h
    rfl
  · obtain ⟨v, b, rfl, hs, k⟩ := h
    obtain ⟨t, ty, e⟩ := hs.isi
    refine ⟨_, pss_one (ps_ret (pe_callB call_isi (by rfl) g.isi PyProof.Rows.boot_isinstance (pa_cons (pv 0) (pa_cons (pe_bltn (v := .ty "str") (by rfl) g.str PyProof.Rows.boot_str rfl) pa_nil)))), ?_⟩
    exact ⟨v, rfl, v, .ty "str", t, .type "str", b, rfl, .ty "str", ty, e, k⟩

abbrev sIsWhole : Stmt := top 8
def spIsWhole : Sp := fun vs H Q _ => ∃ i : Int, vs = [.int i] ∧ Q (.bl true) H
theorem scIsWhole : FnScope ["value"] ["value"] (fnScope sIsWhole) := fnScope_by (by decide +kernel)
theorem ok_isWhole (g : G mg) (F : Fun K "is_whole" "is_whole" sIsWhole f fd) : FnOk P w K mg base CX0 1 f fd ["value"] spIsWhole := by
  refine fn0 F scIsWhole (fun vs H Q E h => ?_) (fun cdv A outer s H vs Q E hr h => ?_)
  · obtain ⟨i, rfl, _⟩ := h
    rfl
  · obtain ⟨i, rfl, k⟩ := h
    refine ⟨_, pss_one (ps_ret (pe_and (pe_callB call_isi (by rfl) g.isi PyProof.Rows.boot_isinstance (pa_cons (pv 0) (pa_cons (pe_bltn (v := .ty "int") (by rfl) g.int PyProof.Rows.boot_int rfl) pa_nil)))
      (pe_one (pe_not (pe_callB call_isi (by rfl) g.isi PyProof.Rows.boot_isinstance (pa_cons (pv 0) (pa_cons (pe_bltn (v := .ty "bool") (by rfl) g.bool (by decide +kernel) rfl) pa_nil))))))), ?_⟩
    refine ⟨_, rfl, _, .ty "int", .type "int", .type "int", true, rfl, .ty "int", .base (.int i), kit_ty (by decide +kernel), true, rfl, ?_⟩
    refine ite2 (fun _ => ?_) (fun z => absurd rfl z)
    exact ⟨_, rfl, _, .ty "bool", .type "int", .type "bool", false, rfl, .ty "bool", .base (.int i), kit_ty (by decide +kernel), false, rfl, k⟩

abbrev sIsNum : Stmt := top 9
def spIsNum : Sp := fun vs H Q _ => ∃ i : Int, vs = [.int i] ∧ Q (.bl (decide (i ≥ 0))) H
theorem scIsNum : FnScope ["value"] ["value"] (fnScope sIsNum) := fnScope_by (by decide +kernel)
theorem ok_isNum (g : G mg) (F : Fun K "is_number" "is_number" sIsNum f fd) (F1 : FnOk P w K mg base CX0 1 f1 fd1 ["value"] spIsWhole) (a1 : At K mg "is_whole" f1) (b1 : Binds K fd1 ["value"] []) : FnOk P w K mg base CX0 2 f fd ["value"] spIsNum := by
  refine fn0 F scIsNum (fun vs H Q E h => ?_) (fun cdv A outer s H vs Q E hr h => ?_)
  · obtain ⟨i, rfl, _⟩ := h
    rfl
  · obtain ⟨i, rfl, k⟩ := h
    refine ⟨_, pss_one (ps_ret (pe_and (pe_call F1 hr rfl a1.m a1.k b1 .nil (pass0 (E := C8.E0)) (pa_cons (pv 0) pa_nil)) (pe_one (pe_cmp (pc_ge (pv 0) pe_int) rfl)))), ?_⟩
    refine ⟨_, rfl, i, rfl, true, rfl, ?_⟩
    refine ite2 (fun _ => ?_) (fun z => absurd rfl z)
    exact ⟨_, rfl, i, 0, rfl, rfl, k⟩
end
end K11

/-! The rows of a text. -/
namespace K11
open PySem PySem.Spec C8 Xo Yo
open L2 hiding Fun CX0 pass0 E0
open TL (tl)
/-! ### objects by their addresses -/
/-- at as stand the objects f x, one by one -/
def AllAt {α : Type} (f : α → HO) (H : Hp) (as : List Addr) (xs : List α) : Prop := as.length = xs.length ∧ ∀ (i : Nat) a x, as[i]? = some a → xs[i]? = some x → H a = some (f x)
section
variable {α : Type} {f : α → HO} {H H' : Hp} {as bs : List Addr} {xs ys : List α} {a : Addr} {x : α}
theorem AllAt.nil : AllAt f H [] [] := ⟨rfl, fun i a x h => by simp at h⟩
theorem AllAt.same (h : AllAt f H as xs) (S : Same H H') : AllAt f H' as xs := ⟨h.1, fun i a x h1 h2 => S _ _ (h.2 i a x h1 h2)⟩
theorem AllAt.app (h : AllAt f H as xs) (k : AllAt f H bs ys) : AllAt f H (as ++ bs) (xs ++ ys) := by
  refine ⟨by rw [List.length_append, List.length_append, h.1, k.1], fun i a x h1 h2 => ?_⟩
  by_cases hi : i < as.length
  · rw [List.getElem?_append_left hi] at h1
    rw [List.getElem?_append_left (by rw [← h.1]; exact hi)] at h2
    exact h.2 i a x h1 h2
  · rw [List.getElem?_append_right (by omega)] at h1
    rw [List.getElem?_append_right (by rw [← h.1]; omega), ← h.1] at h2
    exact k.2 _ a x h1 h2
theorem AllAt.one (h : H a = some (f x)) : AllAt f H [a] [x] := ⟨rfl, fun i b y h1 h2 => by
  cases i with
  | zero =>
    simp at h1 h2
    rw [← h1, ← h2]
    exact h
  | succ i => simp at h1⟩
theorem AllAt.at_ (h : AllAt f H as xs) {i : Nat} {x : α} (hx : xs[i]? = some x) : ∃ a, as[i]? = some a ∧ H a = some (f x) := by
  have hi : i < as.length := by
    rw [h.1]
    exact (List.getElem?_eq_some_iff.mp hx).1
  exact ⟨as[i], List.getElem?_eq_getElem hi, h.2 i _ x (List.getElem?_eq_getElem hi) hx⟩
end
theorem cut_all {α : Type} (xs : List α) (k : Nat) (hk : k ≤ xs.length) : (xs.drop 0).take k = xs.take k := by simp

/-! ### texts of parts -/
abbrev nl : Str := "\n"
/-- z is the parts with line ends between -/
def Parts (z : Str) (ps : List Str) : Prop := ps ≠ [] ∧ z = Txt.join nl ps ∧ ∀ p ∈ ps, 10 ∉ tl p
theorem tl_nl : tl nl = [10] := by decide +kernel
theorem Parts.split {z : Str} {ps : List Str} (h : Parts z ps) : Txt.split z nl = ps := by
  obtain ⟨h1, rfl, h3⟩ := h
  exact TL.split_join (s := 10) (S := []) tl_nl (by decide +kernel) h1 h3
/-- the rows, with whether they are ended -/
def rowsE (ps : List Str) (h : ps ≠ []) : List (Str × Bool) := ps.dropLast.map (·, true) ++ (if ps.getLast h = Str.empty then [] else [(ps.getLast h, false)])
def rowsP (ps : List Str) : List Str := if h : ps ≠ [] then (rowsE ps h).map (·.1) else []
theorem rowsP_mem {ps : List Str} {r : Str} (h : r ∈ rowsP ps) : r ∈ ps := by
  unfold rowsP at h
  split at h
  · rename_i hne
    unfold rowsE at h
    rw [List.map_append, List.map_map] at h
    rcases List.mem_append.mp h with h | h
    · obtain ⟨x, hx, rfl⟩ := List.mem_map.mp h
      exact (List.dropLast_sublist _).subset hx
    · split at h
      · cases h
      · simp at h
        rw [h]
        exact List.getLast_mem hne
  · cases h
theorem rowsP_len (ps : List Str) : (rowsP ps).length ≤ ps.length := by
  unfold rowsP
  split
  · rename_i h
    unfold rowsE
    have : 1 ≤ ps.length := Nat.one_le_iff_ne_zero.mpr fun z => h (List.length_eq_zero_iff.mp z)
    rw [List.map_append, List.length_append, List.length_map, List.length_map, List.length_dropLast]
    split
    · simp
    · simp
      omega
  · simp
def Good (ps : List Str) : Prop := (rowsP ps).length ≤ 60 ∧ ∀ r ∈ rowsP ps, r.length ≤ 2000
def pairO (p : Str × Bool) : HO := .tup [.str p.1, .bl p.2]
section
variable {P : Program} {w : World} {K : PySem.W.Frag} {mg : Str → Option Value} {base : Heap} {f f1 f2 f3 : Addr} {fd fd1 fd2 fd3 : FuncData}
abbrev sRowsOf : Stmt := top 184
def spRowsOf : Sp := fun vs H Q _ => ∃ (z : Str) (ps : List Str) (h : ps ≠ []), vs = [.str z] ∧ Parts z ps ∧ z.length + 2 ≤ sizeLine ∧ ps.length + 1 ≤ sizeLine ∧
  ∀ H' l as, Same H H' → H' l = some (.lst (as.map V.ref)) → AllAt pairO H' as (rowsE ps h) → Q (.ref l) H'
theorem scRowsOf : FnScope ["text", "pieces", "found", "piece"] ["text"] (fnScope sRowsOf) := fnScope_by (by decide +kernel)
theorem cut_last {α : Type} (xs : List α) (hk : xs ≠ []) : (xs.drop (HT.sIx xs.length 0 none)).take (HT.sIx xs.length xs.length (some (-1)) - HT.sIx xs.length 0 none) = xs.dropLast := by
  have hl : 1 ≤ xs.length := Nat.one_le_iff_ne_zero.mpr fun z => hk (List.length_eq_zero_iff.mp z)
  have e : HT.sIx xs.length xs.length (some (-1)) = xs.length - 1 := by
    have q : HT.sIx xs.length xs.length (some (-1)) = ((-1 : Int) + (xs.length : Int)).toNat := by
      unfold HT.sIx
      exact if_pos (by decide)
    rw [q]
    omega
  rw [e]
  show (xs.drop 0).take (xs.length - 1 - 0) = _
  rw [List.drop_zero, Nat.sub_zero, List.dropLast_eq_take]
theorem at_last {α : Type} (xs : List α) (hk : xs ≠ []) : atI xs (-1) = some (xs.getLast hk) := by
  have e := List.dropLast_concat_getLast hk
  have q := atI_last xs.dropLast (xs.getLast hk)
  rw [e] at q
  exact q
theorem ok_rowsOf (g : G mg) (F : Fun K "rows_of" "rows_of" sRowsOf f fd) : FnOk P w K mg base CX0 1 f fd ["text"] spRowsOf := by
  refine fn0 F scRowsOf (fun vs H Q E h => ?_) (fun cdv A outer s H vs Q E hr h => ?_)
  · obtain ⟨z, ps, hp, rfl, _⟩ := h
    rfl
  · obtain ⟨z, ps, hne, rfl, hp, hz, hps, k⟩ := h
    refine ⟨_, pss_cons (ps_set (i := 1) scRowsOf.nd rfl (Or.inl rfl) (pe_split (pv 0) pe_str))
      (pss_cons (ps_setLc (i := 2) (own := [("piece", 3)]) (g := gName 3) rfl scRowsOf.nd rfl rfl (sw_true rfl rfl rfl (by decide +kernel)) (pi_list (pe_slice sl_list (pv 1) po_none (po_some (pe_un un_neg pe_int))))
          (blkOk_by (own := [("piece", 3)]) (N := ["text", "pieces", "found", "piece"]) (sc := fnScope sRowsOf) (by decide +kernel)) (fun _ _ _ _ _ => pg_name (i := 3) scRowsOf.nd rfl (Or.inl rfl))
          (fun _ _ _ _ _ => pts_nil) (fun _ _ _ _ _ => pe_tup (pa_cons (pv 3) (pa_cons pe_bl pa_nil))))
        (pss_one (ps_ret (pe_op op_cat (pv 2) (pe_ifExp (pt_cmpR op_ne (pe_ix ix_list (pv 1) (pe_un un_neg pe_int) (fun _ _ => rfl)) pe_str (nomark _))
          (pe_lst (pa_cons (pe_tup (pa_cons (pe_ix ix_list (pv 1) (pe_un un_neg pe_int) (fun _ _ => rfl)) (pa_cons pe_bl pa_nil))) pa_nil)) (pe_lst pa_nil)))))), ?_⟩
    refine ⟨.str z, rfl, ⟨z, rfl⟩, z, nl, rfl, rfl, by decide, hz, fun p hp0 => ?_⟩
    rw [hp.split]
    have hp1 : upd H p (.lst (ps.map V.str)) p = some (.lst (ps.map V.str)) := upd_same
    have S1 : Same H (upd H p (.lst (ps.map V.str))) := same_upd hp0
    generalize upd H p (.lst (ps.map V.str)) = H1 at hp1 S1 ⊢
    have hm : ps.map V.str ≠ [] := fun z => hne (List.map_eq_nil_iff.mp z)
    refine ⟨.ref p, rfl, 1, rfl, -1, rfl, p, _, rfl, SqL.of hp1, fun q hq0 => ?_⟩
    rw [show cutV (ps.map V.str) none (some (-1)) = ps.dropLast.map V.str from (cut_last _ hm).trans (by rw [List.map_dropLast])]
    have hq1 : upd H1 q (.lst (ps.dropLast.map V.str)) q = some (.lst (ps.dropLast.map V.str)) := upd_same
    have S2 : Same H1 (upd H1 q (.lst (ps.dropLast.map V.str))) := same_upd hq0
    generalize upd H1 q (.lst (ps.dropLast.map V.str)) = H2 at hq1 S2 ⊢
    refine ⟨q, rfl, ⟨_, SqL.of hq1⟩, fun D hD => ?_⟩
    refine lc_it walk_list (fun i H' => ∃ as : List Addr, H' D = some (.lst (as.map V.ref)) ∧ AllAt pairO H' as ((ps.dropLast.take i).map (·, true)) ∧ Same H2 H')
      ⟨[], upd_same, AllAt.nil, same_upd hD⟩ (fun i H' _ ⟨_, _, _, S⟩ => SqL.of (S _ _ hq1)) ?_ ?_
    · rintro i v H3 H4 hi ⟨as, hacc, hall, S⟩ ⟨rfl, ev⟩
      rw [List.length_map] at hi
      rw [List.getElem?_map, List.getElem?_eq_getElem hi] at ev
      cases ev
      refine ⟨rfl, _, rfl, (by show 2 ≤ sizeLine; rw [sizeLine_eq]; omega), fun t ht => ?_⟩
      have hl : as.length = i := by
        rw [hall.1, List.length_map, List.length_take]
        omega
      have nDt : D ≠ t := ne_of_none hacc ht
      refine ⟨as.map V.ref, by rw [upd_ne nDt]; exact hacc, by rw [List.length_map, hl]; have := List.length_dropLast (xs := ps); omega, as ++ [t], ?_, ?_, ?_⟩
      · rw [upd_same, List.map_append]
        rfl
      · have S5 : Same H4 (upd H4 t (.tup [.str ps.dropLast[i], .bl true])) := same_upd ht
        have a1 := (hall.same S5).app (AllAt.one (f := pairO) (x := (ps.dropLast[i], true)) (a := t) (H := upd H4 t (.tup [.str ps.dropLast[i], .bl true])) upd_same)
        have e1 : (ps.dropLast.take i).map (·, true) ++ [(ps.dropLast[i], true)] = (ps.dropLast.take (i + 1)).map (fun x : Str => (x, true)) := by
          rw [List.take_add_one, List.getElem?_eq_getElem hi, List.map_append]
          rfl
        rw [← e1]
        refine ⟨a1.1, fun j a x h1 h2 => ?_⟩
        have z := a1.2 j a x h1 h2
        rw [upd_ne (fun e => ?_)]
        · exact z
        · rw [e, upd_ne nDt, hacc] at z
          cases z
      · intro b o e
        rw [upd_ne (ne_of_none e hD), upd_ne (ne_of_none (S _ _ e) ht)]
        exact S _ _ e
    · rintro H5 ⟨as, hacc, hall, S⟩
      rw [List.length_map, List.take_length] at hall
      have hp5 : H5 p = some (.lst (ps.map V.str)) := S _ _ (S2 _ _ hp1)
      have S5 : Same H H5 := fun b o e => S _ _ (S2 _ _ (S1 _ _ e))
      have hlast : atI (ps.map V.str) (-1) = some (.str (ps.getLast hne)) := by
        rw [at_last _ hm, List.getLast_map]
      have lenA : as.length = ps.length - 1 := by
        rw [hall.1, List.length_map, List.length_dropLast]
      refine ⟨.ref D, rfl, .ref p, rfl, 1, rfl, p, _, _, _, rfl, rfl, SqL.of hp5, hlast, rfl, ?_⟩
      have fin : ∀ (H6 : Hp) (l2 : Addr) (bs : List Addr) (ys : List (Str × Bool)), Same H5 H6 → H6 l2 = some (.lst (bs.map V.ref)) → AllAt pairO H6 bs ys → bs.length ≤ 1 → rowsE ps hne = ps.dropLast.map (·, true) ++ ys →
          rCat (.ref D) (.ref l2) H6 Q := fun H6 l2 bs ys S6 h2 hb hbl er => by
        refine ⟨D, l2, _, _, rfl, rfl, S6 _ _ hacc, h2, by rw [List.length_map, List.length_map, lenA]; omega, fun r hr0 => ?_⟩
        refine k _ r (as ++ bs) (fun b o e => ?_) ?_ ?_
        · rw [upd_ne (ne_of_none (S6 _ _ (S5 _ _ e)) hr0)]
          exact S6 _ _ (S5 _ _ e)
        · rw [upd_same, List.map_append]
        · rw [er]
          exact ((hall.same S6).app hb).same (same_upd hr0)
      refine ⟨_, rfl, ?_⟩
      by_cases he : ps.getLast hne = Str.empty
      · rw [decide_eq_true (show V.str (ps.getLast hne) = V.str "" by rw [he]; rfl)]
        refine iteF ?_
        refine ⟨by rw [sizeLine_eq]; exact Nat.zero_le _, fun l2 hl2 => ?_⟩
        refine fin _ l2 [] [] (same_upd hl2) upd_same AllAt.nil (by simp) ?_
        unfold rowsE
        rw [if_pos he]
      · rw [decide_eq_false (show ¬ V.str (ps.getLast hne) = V.str "" from fun z => he (V.str.inj z))]
        refine iteT ?_
        refine ⟨.ref p, rfl, 1, rfl, p, _, _, _, rfl, rfl, SqL.of hp5, hlast, (by show 2 ≤ sizeLine; rw [sizeLine_eq]; omega), fun t ht => ⟨by show 1 ≤ sizeLine; rw [sizeLine_eq]; omega, fun l2 hl2 => ?_⟩⟩
        refine fin _ l2 [t] [(ps.getLast hne, false)] (fun b o e => ?_) upd_same (AllAt.one ?_) (by simp) ?_
        · exact ((same_upd ht).trans (same_upd hl2)) b o e
        · exact same_upd hl2 t _ upd_same
        · unfold rowsE
          rw [if_neg he]
end
end K11

/-! is_row_text, rows_in. -/
namespace K11
open PySem PySem.Spec C8 Xo Yo
open L2 hiding Fun CX0 pass0 E0
open TL (tl)
open PyProof.Rows (envOfC)
/-- an own error with one field -/
structure ErC (P : Program) (w : World) (K : PySem.W.Frag) (mg : Str → Option Value) (x f : Str) (C : Addr) : Prop where
  hC : PySem.W.excInitIn K C mroX "Exception.__new__" = true
  ini : ∃ fI, PySem.W.findIn K (.ref C) "__init__" = some (some (.ref fI)) ∧ PySem.W.isFn K (.ref fI) = true ∧ ∀ u : Value, IniRuns P w K mg C fI [u] [] [(f, u)]
  kC : PySem.W.keepIn K (.ref C) = true
  gC : mg x = some (.ref C)
  rb : PySem.W.subIn K (.ref C) (.type "BaseException") = some true
  rt : PySem.W.typeIn K (.ref C) = some (.type "type")
  xf : XfC K C
  no : PySem.W.findIn K (.ref C) f = some none
theorem ErC.pmk {X : Cx} {x f : Str} {C : Addr} {e : PySem.Expr} {ta : TA} {p pos : Pos} (T : ErC X.prog X.w X.K X.mg x f C) (hs : X.mg "super" = none) (hr : Room 2 X.A) (hg : Gl X x) (ha : PA X [e] ta) (hdb : (x == ("__debug__" : Str)) = false := by decide)
    (he : starEach [e] X.env = (false, eval e X.env) :: starEach [] X.env := by rfl) (hpl : (backTo pos (starEach [] X.env)).any (·.1) = false := by rfl) : PMk X (.Call (.Name x p) [e] [] pos) (tMkS C f ta) := by
  obtain ⟨fI, h1, h2, h3⟩ := T.ini
  exact pmk_sup (raises_own T.rb T.rt) T.hC h1 h2 T.kC hg T.gC h3 hr hs ha hdb he hpl

section
variable {P : Program} {w : World} {K : PySem.W.Frag} {mg : Str → Option Value} {base : Heap} {f f1 f2 f3 : Addr} {fd fd1 fd2 fd3 : FuncData}
/-- a def that may raise, by its body -/
theorem fnX {x qual : Str} {st : Stmt} {f : Addr} {fd : FuncData} {N ps : List Str} {k : Nat} {sp : Sp} (F : Fun K x qual st f fd) (S : FnScope N ps (fnScope st)) (len : ∀ vs H Q E, sp vs H Q E → vs.length = ps.length)
    (hbody : ∀ (cdv : Value) (A : Around) (outer : List Env) (s : Shared) (H : Hp) (vs : List V) (Q : VK) (E : XK), Room k (A.deeper (envOfC qual (fnScope st) s.heap.objs.size f cdv)) → sp vs H Q E →
      ∃ t, PSs (cxOf (L2.CX P w) P w K mg base N qual (fnScope st) f cdv A outer s H E) (fnBody st) t ∧ t { nx := fun _ H' => Q .non H', rt := Q } (start N vs) H) : FnOk P w K mg base (L2.CX P w) (k + 1) f fd ps sp := by
  obtain ⟨oc, od, dV, kV, doc, pm, an, cdv, ct, osl, rfl, lk, hcd⟩ := F.ex
  refine fn_of lk hcd S len fun A outer s H vs Q E hr hsp => ?_
  exact hbody cdv A outer s H vs Q E hr hsp

abbrev sRowText : Stmt := top 195
def isRow (z : Str) : Bool := decide (z.length ≤ 2000) && !decide (10 ∈ tl z)
def spRowText : Sp := fun vs H Q _ => ∃ z : Str, vs = [.str z] ∧ z.length ≤ sizeLine ∧ Q (.bl (isRow z)) H
theorem scRowText : FnScope ["value"] ["value"] (fnScope sRowText) := fnScope_by (by decide +kernel)
theorem ok_rowText (g : G mg) (F : Fun K "is_row_text" "is_row_text" sRowText f fd) (F1 : FnOk P w K mg base CX0 1 f1 fd1 ["value"] (spIsStr K)) (a1 : At K mg "is_string" f1) (b1 : Binds K fd1 ["value"] []) :
    FnOk P w K mg base CX0 2 f fd ["value"] spRowText := by
  obtain ⟨tS, mS⟩ := g.mS
  refine fn0 F scRowText (fun vs H Q E h => ?_) (fun cdv A outer s H vs Q E hr h => ?_)
  · obtain ⟨z, rfl, _⟩ := h
    rfl
  · obtain ⟨z, rfl, hz, k⟩ := h
    refine ⟨_, pss_one (ps_ret (pe_and (pe_call F1 hr rfl a1.m a1.k b1 .nil (pass0 (E := C8.E0)) (pa_cons (pv 0) pa_nil))
      (pe_and (pe_cmp (pc_le (pe_callB call_len_str rfl g.len PySem.boot_len (pa_cons (pv 0) pa_nil)) (pe_glob (v := .int 2000) rfl mS ⟨_, rfl⟩)) rfl) (pe_one (pe_cmpR op_notIn_sign pe_str (pv 0) rfl))))), ?_⟩
    refine ⟨_, rfl, .str z, true, rfl, .yes z, true, rfl, ?_⟩
    refine ite2 (fun _ => ?_) (fun z => absurd rfl z)
    refine ⟨_, rfl, z, rfl, hz, _, _, rfl, rfl, decide (((z.length : Nat) : Int) ≤ 2000), rfl, ?_⟩
    unfold isRow at k
    by_cases h1 : z.length ≤ 2000
    · rw [decide_eq_true (show ((z.length : Nat) : Int) ≤ 2000 by omega)]
      rw [decide_eq_true h1] at k
      refine iteT ?_
      exact ⟨_, rfl, 10, z, rfl, rfl, k⟩
    · rw [decide_eq_false (show ¬ ((z.length : Nat) : Int) ≤ 2000 by omega)]
      rw [decide_eq_false h1] at k
      exact iteF k

/-! ### the rows of a text that a desk may begin with -/
abbrev sRowsIn : Stmt := top 196
def spRowsIn (K : PySem.W.Frag) (CT : Addr) : Sp := fun vs H Q E => (∃ (z : Str) (ps : List Str), vs = [.str z] ∧ Parts z ps ∧ z.length + 2 ≤ sizeLine ∧ ps.length + 1 ≤ sizeLine ∧
    (Good ps → ∀ H' a, Same H H' → H' a = some (.tup ((rowsP ps).map V.str)) → Q (.ref a) H') ∧
    (¬ Good ps → ∀ H' d, Same H H' → H' d = some (.xd [("given", .str z)]) → E (.ref CT) (some d) H')) ∨
  (∃ v, vs = [v] ∧ StrOr K H v false ∧ ∀ H' d, Same H H' → H' d = some (.xd [("given", v)]) → E (.ref CT) (some d) H')
theorem scRowsIn : FnScope ["text", "rows", "row", "is_ended"] ["text"] (fnScope sRowsIn) := fnScope_by (by decide +kernel)
theorem Parts.len {z : Str} {ps : List Str} (h : Parts z ps) : ∀ p ∈ ps, p.length ≤ z.length := by
  intro p hp
  have e := h.split
  exact PyProof.Rows.part_short (x := z) (y := nl) (by rw [e]; exact hp)
theorem ok_rowsIn {CT : Addr} (g : G mg) (T : ErC P w K mg "InvalidText" "given" CT) (F : Fun K "rows_in" "rows_in" sRowsIn f fd) (F1 : FnOk P w K mg base CX0 1 f1 fd1 ["value"] (spIsStr K)) (a1 : At K mg "is_string" f1) (b1 : Binds K fd1 ["value"] [])
    (F2 : FnOk P w K mg base CX0 1 f2 fd2 ["text"] spRowsOf) (a2 : At K mg "rows_of" f2) (b2 : Binds K fd2 ["text"] []) (F3 : FnOk P w K mg base CX0 2 f3 fd3 ["value"] spRowText) (a3 : At K mg "is_row_text" f3) (b3 : Binds K fd3 ["value"] []) :
    FnOk P w K mg base (L2.CX P w) 3 f fd ["text"] (spRowsIn K CT) := by
  obtain ⟨tR, mR⟩ := g.mR
  refine fnX F scRowsIn (fun vs H Q E h => ?_) (fun cdv A outer s H vs Q E hr h => ?_)
  · rcases h with ⟨z, ps, rfl, _⟩ | ⟨v, rfl, _⟩ <;> rfl
  · refine ⟨_, pss_cons (ps_if (pt_not (pt_val (pe_call F1 (hr.mono (by decide)) rfl a1.m a1.k b1 .nil (pass0 (E := C8.E0)) (pa_cons (pv 0) pa_nil)))) (pss_one (ps_raise rfl (takes_of rfl rfl rfl rfl) (T.pmk g.super hr rfl (pa_cons (pv 0) pa_nil)))) pss_nil)
      (pss_cons (ps_set (i := 1) scRowsIn.nd rfl (Or.inl rfl) (pe_callTy call_tuple_of rfl g.tuple PyProof.Rows.boot_tuple (pa_cons
          (pe_lc (own := [("row", 2), ("is_ended", 3)]) (g := gTup K 2 (gCons (gName 2) (gCons (gName 3) gNil))) (tt := tYes) rfl scRowsIn.nd (pi_list (pe_call F2 (hr.mono (by decide)) rfl a2.m a2.k b2 .nil (pass0 (E := C8.E0)) (pa_cons (pv 0) pa_nil)))
            (blkOk_by (own := [("row", 2), ("is_ended", 3)]) (N := ["text", "rows", "row", "is_ended"]) (sc := fnScope sRowsIn) (by decide +kernel))
            (fun _ _ _ _ _ => pg_tup rfl (pgs_cons (pg_name (i := 2) scRowsIn.nd rfl (Or.inl rfl)) (pgs_cons (pg_name (i := 3) scRowsIn.nd rfl (Or.inl rfl)) pgs_nil))) (fun _ _ _ _ _ => pts_nil) (te := tVar 2) (fun _ _ _ _ _ => pv 2)) pa_nil)))
        (pss_cons (ps_if (PW.pt (pw_or (pt_cmpR op_gt (pe_callB call_len_seq rfl g.len PySem.boot_len (pa_cons (pv 1) pa_nil)) (pe_glob (v := .int 60) rfl mR ⟨_, rfl⟩) (nomark _))
              (pw_or1 (pt_not (pt_val (pe_callB (cr_all rfl) rfl g.all PyProof.Rows.boot_all (pa_cons
                (pe_lc (own := [("row", 2)]) (g := gName 2) (tt := tYes) (te := tCall spRowText [] C8.E0 (tCons (tVar 2) tNil)) rfl scRowsIn.nd (pi_tup (pv 1))
                  (blkOk_by (own := [("row", 2)]) (N := ["text", "rows", "row", "is_ended"]) (sc := fnScope sRowsIn) (by decide +kernel))
                  (fun _ _ _ _ _ => pg_name (i := 2) scRowsIn.nd rfl (Or.inl rfl)) (fun _ _ _ _ _ => pts_nil) (fun _ _ _ _ _ => pe_call F3 hr rfl a3.m a3.k b3 .nil (pass0 (E := C8.E0)) (pa_cons (pv 2) pa_nil))) pa_nil)))))))
            (pss_one (ps_raise rfl (takes_of rfl rfl rfl rfl) (T.pmk g.super hr rfl (pa_cons (pv 0) pa_nil)))) pss_nil)
          (pss_one (ps_ret (pv 1))))), ?_⟩
    rcases h with ⟨z, ps, rfl, hp, hz, hps, k1, k2⟩ | ⟨v, rfl, hv, k⟩
    · refine ⟨_, rfl, .str z, true, rfl, .yes z, true, rfl, ?_⟩
      refine iteF ?_
      refine ⟨_, rfl, z, ps, hp.1, rfl, hp, hz, hps, fun H1 l as S1 hl hall => ?_⟩
      refine ⟨l, rfl, ⟨_, SqL.of hl⟩, fun D hD => ?_⟩
      refine lc_it walk_list (fun i H' => H' D = some (.lst (((rowsE ps hp.1).take i).map fun x => V.str x.1)) ∧ Same H1 H') ⟨upd_same, same_upd hD⟩ (fun i H' _ ⟨_, S⟩ => SqL.of (S _ _ hl)) ?_ ?_
      · rintro i v H3 H4 hi ⟨hacc, S⟩ ⟨rfl, ev⟩
        rw [List.length_map] at hi
        have hi2 : i < (rowsE ps hp.1).length := by rw [← hall.1]; exact hi
        rw [List.getElem?_map, List.getElem?_eq_getElem hi] at ev
        cases ev
        have ht := S _ _ (hall.2 i _ _ (List.getElem?_eq_getElem hi) (List.getElem?_eq_getElem hi2))
        refine ⟨_, _, rfl, SqT.of ht, rfl, _, _, rfl, _, _, rfl, rfl, rfl, _, rfl, _, hacc, ?_, ?_, ?_⟩
        · rw [List.length_map, List.length_take]
          have : (rowsE ps hp.1).length ≤ ps.length := by
            have := rowsP_len ps
            unfold rowsP at this
            rw [dif_pos hp.1, List.length_map] at this
            exact this
          omega
        · rw [upd_same, List.take_add_one, List.getElem?_eq_getElem hi2, List.map_append]
          rfl
        · intro b o e
          rw [upd_ne (ne_of_none e hD)]
          exact S _ _ e
      · rintro H5 ⟨hacc, S⟩
        have e1 : ((rowsE ps hp.1).take (as.map V.ref).length).map (fun x => V.str x.1) = (rowsP ps).map V.str := by
          unfold rowsP
          rw [dif_pos hp.1, List.length_map, hall.1, List.take_length, List.map_map]
          rfl
        rw [e1] at hacc
        have S5 : Same H H5 := S1.trans S
        refine ⟨D, _, rfl, .inl ⟨SqL.of hacc, fun a ha => ?_⟩⟩
        have S6 : Same H (upd H5 a (.tup ((rowsP ps).map V.str))) := S5.trans (same_upd ha)
        have ha6 : upd H5 a (.tup ((rowsP ps).map V.str)) a = some (.tup ((rowsP ps).map V.str)) := upd_same
        generalize upd H5 a (.tup ((rowsP ps).map V.str)) = H6 at S6 ha6 ⊢
        refine ⟨.ref a, rfl, a, _, rfl, .inr (SqT.of ha6), _, _, rfl, rfl, _, rfl, ?_⟩
        rw [List.length_map]
        have bad : ¬ Good ps → ∀ H7, Same H6 H7 → ∀ d, H7 d = none → E (.ref CT) (some d) (upd H7 d (.xd [("given", .str z)])) := fun ng H7 S7 d hd => k2 ng _ d (S6.trans (S7.trans (same_upd hd))) upd_same
        by_cases hlen : (rowsP ps).length ≤ 60
        · rw [decide_eq_false (show ¬ (60 : Int) < ((rowsP ps).length : Nat) by omega)]
          refine iteF ?_
          refine ⟨.ref a, rfl, a, rfl, ⟨_, SqT.of ha6⟩, fun D2 hD2 => ?_⟩
          refine lc_it walk_tup (fun i H' => H' D2 = some (.lst (((rowsP ps).take i).map fun x => V.bl (isRow x))) ∧ Same H6 H') ⟨upd_same, same_upd hD2⟩ (fun i H' _ ⟨_, S⟩ => SqT.of (S _ _ ha6)) ?_ ?_
          · rintro i v H7 H8 hi ⟨hacc7, S7⟩ ⟨rfl, ev⟩
            rw [List.length_map] at hi
            rw [List.getElem?_map, List.getElem?_eq_getElem hi] at ev
            cases ev
            have hin : (rowsP ps)[i] ∈ ps := rowsP_mem (List.getElem_mem hi)
            refine ⟨rfl, _, rfl, (rowsP ps)[i], rfl, by have := hp.len _ hin; omega, _, hacc7, ?_, ?_, ?_⟩
            · rw [List.length_map, List.length_take, sizeLine_eq]
              omega
            · rw [upd_same, List.take_add_one, List.getElem?_eq_getElem hi, List.map_append]
              rfl
            · intro b o e
              rw [upd_ne (ne_of_none e hD2)]
              exact S7 _ _ e
          · rintro H7 ⟨hacc7, S7⟩
            rw [List.length_map, List.take_length] at hacc7
            refine ⟨D2, (rowsP ps).map isRow, rfl, SqL.of (by rw [hacc7, List.map_map]; rfl), ((rowsP ps).map isRow).all id, rfl, ?_⟩
            by_cases hg : ∀ r ∈ rowsP ps, r.length ≤ 2000
            · have ea : ((rowsP ps).map isRow).all id = true := by
                rw [List.all_map]
                refine List.all_eq_true.mpr fun r hr => ?_
                show isRow r = true
                unfold isRow
                rw [decide_eq_true (hg r hr), decide_eq_false (hp.2.2 r (rowsP_mem hr))]
                rfl
              rw [ea]
              refine iteF ?_
              exact ⟨.ref a, rfl, k1 ⟨hlen, hg⟩ _ a (S6.trans S7) (S7 _ _ ha6)⟩
            · have ea : ((rowsP ps).map isRow).all id = false := by
                rw [List.all_map]
                cases q : (rowsP ps).all (id ∘ isRow) with
                | false => rfl
                | true =>
                  exfalso
                  refine hg fun r hr => ?_
                  have z := List.all_eq_true.mp q r hr
                  have z2 : isRow r = true := z
                  unfold isRow at z2
                  exact of_decide_eq_true (Bool.and_eq_true_iff.mp z2).1
              rw [ea]
              refine iteT ?_
              exact ⟨_, rfl, _, rfl, bad (fun gd => hg gd.2) _ S7⟩
        · rw [decide_eq_true (show (60 : Int) < ((rowsP ps).length : Nat) by omega)]
          refine iteT ?_
          exact ⟨_, rfl, _, rfl, bad (fun gd => hlen gd.1) _ (Same.refl _)⟩
    · refine ⟨_, rfl, v, false, rfl, hv, false, rfl, ?_⟩
      refine iteT ?_
      exact ⟨_, rfl, v, rfl, fun d hd => k _ d (same_upd hd) upd_same⟩
end
end K11

/-! Deeds: is_headed, check_deed, barred_by, rows_behind. -/
namespace Yo
open PySem PySem.Spec L2 Xo
theorem ix_kd {X : Cx} {d : Addr} {es : Array DictEntry} {n : Nat} (D : KDict X.K X.w d es n) : IxR X (fun x y H Q => ∃ (z : Str) (u0 : Value) (v0 : V), x = .ref d ∧ y = .str z ∧ PySem.W.nsIn X.K d z = some (some u0) ∧ RelV v0 u0 ∧ Q v0 H) := by
  intro value slice pins s σ H x y v u Q I rx ry h hs
  obtain ⟨z, u0, v0, rfl, rfl, e, r, q⟩ := h
  cases rx
  obtain ⟨t, rfl⟩ := ry
  exact PyProof.Rows.subscriptTail_builtinR (x := u0) (kd_type D I) F.slot_dict_getitem.lookup
    (wpAny_getItem_of (Q := fun r s' => r = u0 ∧ EP X pins σ Q r s') (PySem.strKind_is X.prog X.w z t) (PySem.W.mapOf_K (prog := X.prog) I.kIn D.at_ D.lit) (PySem.W.find_K D.at_ e) ⟨rfl, v0, H, I.tok _, r, q⟩) hs
end Yo
namespace K11
open PySem PySem.Spec C8 Xo Yo
open L2 hiding Fun CX0 pass0 E0
open TL (tl)
/-! ### deeds -/
inductive Dd
  | put (i : Nat) (t : Str)
  | row (i : Nat) (t : Str)
  | out (i : Nat)
def Dd.vs : Dd → List V
  | .put i t => [.str "put", .int (i : Nat), .str t]
  | .row i t => [.str "row", .int (i : Nat), .str t]
  | .out i => [.str "out", .int (i : Nat)]
def deedO (d : Dd) : HO := .tup d.vs
def rowsO (rs : List Str) : HO := .tup (rs.map V.str)
/-- may its text stand in a row? -/
def Dd.ok : Dd → Prop
  | .put _ t => isRow t = true ∧ t.length ≤ sizeLine
  | .row _ t => isRow t = true ∧ t.length ≤ sizeLine
  | .out _ => True
/-- the reason that bars it -/
def Dd.bar (rs : List Str) : Dd → Option Str
  | .put i _ => if rs.length = 60 then some "full" else if rs.length < i then some "far" else none
  | .row i t => if rs.length ≤ i then some "none" else if rs[i]? = some t then some "same" else none
  | .out i => if rs.length ≤ i then some "none" else none
/-- the rows behind it -/
def Dd.app (rs : List Str) : Dd → List Str
  | .put i t => rs.take i ++ (t :: rs.drop i)
  | .row i t => rs.take i ++ (t :: rs.drop (i + 1))
  | .out i => rs.take i ++ rs.drop (i + 1)
def barV : Option Str → V
  | none => .non
  | some z => .str z

section
variable {P : Program} {w : World} {K : PySem.W.Frag} {mg : Str → Option Value} {base : Heap} {f f1 f2 f3 : Addr} {fd fd1 fd2 fd3 : FuncData}
/-! ### pieces of rows -/
theorem cut_to {α : Type} (rs : List α) (g : α → V) (i : Nat) : cutV (rs.map g) none (some (i : Int)) = (rs.take i).map g := by
  unfold cutV
  rw [HT.sIx_nat, HT.sIx_none, List.drop_zero, Nat.sub_zero, List.length_map, ← List.map_take]
  congr 1
  by_cases h : i ≤ rs.length
  · rw [Nat.min_eq_left h]
  · rw [Nat.min_eq_right (by omega), List.take_length, List.take_of_length_le (by omega)]
theorem cut_from {α : Type} (rs : List α) (g : α → V) (i : Nat) : cutV (rs.map g) (some (i : Int)) none = (rs.drop i).map g := by
  unfold cutV
  rw [HT.sIx_nat, HT.sIx_none, List.length_map]
  by_cases h : i ≤ rs.length
  · rw [Nat.min_eq_left h, ← List.map_drop, ← List.map_take, List.take_of_length_le (by rw [List.length_drop]; omega)]
  · rw [Nat.min_eq_right (by omega), Nat.sub_self, List.take_zero, List.drop_of_length_le (by omega)]
    rfl
/-- a slice of a tuple: somewhere stands what is cut -/
theorem sl_some {H : Hp} {a : Addr} {xs : List V} {lo hi : Option Int} {Q : VK} (ha : H a = some (.tup xs)) (k : ∀ H' p, Same H H' → H' p = some (.tup (cutV xs lo hi)) → Q (.ref p) H') : rSlA K (.ref a) lo hi H Q := by
  refine ⟨a, xs, rfl, SqT.of ha, fun hw => k H a (Same.refl H) ?_, fun _ p hp => k _ p (same_upd hp) upd_same⟩
  unfold cutV
  rw [hw.1, hw.2, List.drop_zero, Nat.sub_zero, List.take_length]
  exact ha

/-! ### is_headed, check_deed -/
/-- the table of the deeds' sizes -/
structure Sizes (w : World) (K : PySem.W.Frag) (mg : Str → Option Value) : Prop where
  ex : ∃ (sz : Addr) (es : Array DictEntry) (n : Nat) (t1 t2 t3 : Tok), mg "SIZES" = some (.ref sz) ∧ KDict K w sz es n ∧ PySem.W.nsIn K sz "put" = some (some (.int 3 t1)) ∧ PySem.W.nsIn K sz "row" = some (some (.int 3 t2)) ∧ PySem.W.nsIn K sz "out" = some (some (.int 2 t3))
abbrev sHeaded : Stmt := top 197
def spHeaded : Sp := fun vs H Q _ => ∃ (a : Addr) (d : Dd), vs = [.ref a] ∧ H a = some (deedO d) ∧ Q (.bl true) H
theorem scHeaded : FnScope ["value"] ["value"] (fnScope sHeaded) := fnScope_by (by decide +kernel)
theorem ok_headed (g : G mg) (Z : Sizes w K mg) (F : Fun K "is_headed" "is_headed" sHeaded f fd) (F1 : FnOk P w K mg base CX0 1 f1 fd1 ["value"] (spIsStr K)) (a1 : At K mg "is_string" f1) (b1 : Binds K fd1 ["value"] []) : FnOk P w K mg base CX0 2 f fd ["value"] spHeaded := by
  obtain ⟨sz, es, n, t1, t2, t3, mZ, D, e1, e2, e3⟩ := Z.ex
  refine fn0 F scHeaded (fun vs H Q E h => ?_) (fun cdv A outer s H vs Q E hr h => ?_)
  · obtain ⟨a, d, rfl, _⟩ := h
    rfl
  · obtain ⟨a, d, rfl, ha, k⟩ := h
    refine ⟨_, pss_cons (ps_if (PW.pt (pw_or (pt_not (pt_val (pe_callB call_isi (by rfl) g.isi PyProof.Rows.boot_isinstance (pa_cons (pv 0) (pa_cons (pe_bltn (v := .ty "tuple") (by rfl) g.tuple PyProof.Rows.boot_tuple rfl) pa_nil)))))
          (pw_or1 (pt_cmpR op_eq (pe_callB call_len_seq rfl g.len PySem.boot_len (pa_cons (pv 0) pa_nil)) pe_int (nomark _))))) (pss_one (ps_ret pe_bl)) pss_nil)
      (pss_one (ps_ret (pe_and (pe_call F1 hr rfl a1.m a1.k b1 .nil (pass0 (E := C8.E0)) (pa_cons (pe_ix ix_tup (pv 0) pe_int (fun _ _ => rfl)) pa_nil))
        (pe_and (pe_cmpR (op_in_kd D) (pe_ix ix_tup (pv 0) pe_int (fun _ _ => rfl)) (pe_glob (v := .ref sz) rfl mZ rfl) rfl)
          (pe_one (pe_cmpR op_eq (pe_callB call_len_seq rfl g.len PySem.boot_len (pa_cons (pv 0) pa_nil)) (pe_ix (ix_kd D) (pe_glob (v := .ref sz) rfl mZ rfl) (pe_ix ix_tup (pv 0) pe_int (fun _ _ => rfl)) (fun _ _ => rfl)) (nomark _))))))), ?_⟩
    refine ⟨_, rfl, .ref a, .ty "tuple", .type "tuple", .type "tuple", true, rfl, .ty "tuple", .base (.tup ha), kit_ty (by decide +kernel), true, rfl, ?_⟩
    refine iteF ⟨_, rfl, a, d.vs, rfl, .inr (SqT.of ha), rfl, _, rfl, ?_⟩
    have hl : decide (V.int (d.vs.length : Nat) = V.int 0) = false := by cases d <;> rfl
    rw [hl]
    refine iteF ?_
    have h0 : ∃ z, atI d.vs 0 = some (.str z) ∧ ∃ (m : Int) (t : Tok), PySem.W.nsIn K sz z = some (some (.int m t)) ∧ m = (d.vs.length : Nat) := by
      cases d with
      | put i t => exact ⟨"put", rfl, 3, t1, e1, rfl⟩
      | row i t => exact ⟨"row", rfl, 3, t2, e2, rfl⟩
      | out i => exact ⟨"out", rfl, 2, t3, e3, rfl⟩
    obtain ⟨z, hz, m, t, hn, hm⟩ := h0
    refine ⟨_, rfl, a, _, _, _, rfl, rfl, SqT.of ha, hz, .str z, true, rfl, .yes z, true, rfl, ?_⟩
    refine iteT ⟨_, rfl, a, _, _, _, rfl, rfl, SqT.of ha, hz, z, some (.int m t), rfl, rfl, hn, true, rfl, ?_⟩
    refine iteT ⟨_, rfl, a, d.vs, rfl, .inr (SqT.of ha), _, rfl, a, _, _, _, rfl, rfl, SqT.of ha, hz, z, .int m t, .int m, rfl, rfl, hn, ⟨t, rfl⟩, rfl, ?_⟩
    rw [hm, decide_eq_true rfl]
    exact k

abbrev sCheck : Stmt := top 198
def spCheck : Sp := fun vs H Q _ => ∃ (a : Addr) (d : Dd), vs = [.ref a] ∧ H a = some (deedO d) ∧ d.ok ∧ Q .non H
theorem scCheck : FnScope ["deed"] ["deed"] (fnScope sCheck) := fnScope_by (by decide +kernel)
theorem ok_check (g : G mg) (F : Fun K "check_deed" "check_deed" sCheck f fd) (F1 : FnOk P w K mg base CX0 2 f1 fd1 ["value"] spHeaded) (a1 : At K mg "is_headed" f1) (b1 : Binds K fd1 ["value"] [])
    (F2 : FnOk P w K mg base CX0 2 f2 fd2 ["value"] spIsNum) (a2 : At K mg "is_number" f2) (b2 : Binds K fd2 ["value"] []) (F3 : FnOk P w K mg base CX0 2 f3 fd3 ["value"] spRowText) (a3 : At K mg "is_row_text" f3) (b3 : Binds K fd3 ["value"] []) :
    FnOk P w K mg base CX0 3 f fd ["deed"] spCheck := by
  obtain ⟨tO, mO⟩ := g.out
  refine fn0 F scCheck (fun vs H Q E h => ?_) (fun cdv A outer s H vs Q E hr h => ?_)
  · obtain ⟨a, d, rfl, _⟩ := h
    rfl
  · obtain ⟨a, d, rfl, ha, hok, k⟩ := h
    refine ⟨_, pss_cons (ps_if (pt_not (pt_val (pe_call F1 hr rfl a1.m a1.k b1 .nil (pass0 (E := C8.E0)) (pa_cons (pv 0) pa_nil)))) pss_never pss_nil)
      (pss_cons (ps_if (pt_not (pt_val (pe_call F2 hr rfl a2.m a2.k b2 .nil (pass0 (E := C8.E0)) (pa_cons (pe_ix ix_tup (pv 0) pe_int (fun _ _ => rfl)) pa_nil)))) pss_never pss_nil)
        (pss_one (ps_if (PW.pt (pw_and (pt_cmpR op_ne (pe_ix ix_tup (pv 0) pe_int (fun _ _ => rfl)) (pe_glob (v := .str "out") rfl mO ⟨_, rfl⟩) (nomark _))
          (pw_and1 (pt_not (pt_val (pe_call F3 hr rfl a3.m a3.k b3 .nil (pass0 (E := C8.E0)) (pa_cons (pe_ix ix_tup (pv 0) pe_int (fun _ _ => rfl)) pa_nil))))))) pss_never pss_nil))), ?_⟩
    refine ⟨_, rfl, a, d, rfl, ha, true, rfl, ?_⟩
    refine iteF ?_
    have h1 : ∃ i : Nat, atI d.vs 1 = some (.int (i : Nat)) := by
      cases d with
      | put i t => exact ⟨i, rfl⟩
      | row i t => exact ⟨i, rfl⟩
      | out i => exact ⟨i, rfl⟩
    obtain ⟨i, hi⟩ := h1
    refine ⟨_, rfl, a, _, _, _, rfl, rfl, SqT.of ha, hi, i, rfl, _, rfl, ?_⟩
    rw [decide_eq_true (show ((i : Nat) : Int) ≥ 0 by omega)]
    refine iteF ?_
    cases d with
    | put j t =>
      refine ⟨_, rfl, a, _, _, _, rfl, rfl, SqT.of ha, (show atI _ 0 = some (.str "put") from rfl), rfl, _, rfl, ?_⟩
      refine iteT ⟨_, rfl, a, _, _, _, rfl, rfl, SqT.of ha, (show atI _ 2 = some (.str t) from rfl), t, rfl, hok.2, _, rfl, ?_⟩
      rw [hok.1]
      exact iteF k
    | row j t =>
      refine ⟨_, rfl, a, _, _, _, rfl, rfl, SqT.of ha, (show atI _ 0 = some (.str "row") from rfl), rfl, _, rfl, ?_⟩
      refine iteT ⟨_, rfl, a, _, _, _, rfl, rfl, SqT.of ha, (show atI _ 2 = some (.str t) from rfl), t, rfl, hok.2, _, rfl, ?_⟩
      rw [hok.1]
      exact iteF k
    | out j =>
      refine ⟨_, rfl, a, _, _, _, rfl, rfl, SqT.of ha, (show atI _ 0 = some (.str "out") from rfl), rfl, _, rfl, ?_⟩
      exact iteF (iteF k)
end
end K11

/-! barred_by, rows_behind. -/
namespace K11
open PySem PySem.Spec C8 Xo Yo
open L2 hiding Fun CX0 pass0 E0
open TL (tl)
open StX (pa_star)
theorem Dd.bar_put (rs : List Str) (i : Nat) (t : Str) : (Dd.put i t).bar rs = (if rs.length = 60 then some "full" else if rs.length < i then some "far" else none : Option Str) := rfl
theorem Dd.bar_row (rs : List Str) (i : Nat) (t : Str) : (Dd.row i t).bar rs = (if rs.length ≤ i then some "none" else if rs[i]? = some t then some "same" else none : Option Str) := rfl
theorem Dd.bar_out (rs : List Str) (i : Nat) : (Dd.out i).bar rs = (if rs.length ≤ i then some "none" else none : Option Str) := rfl
section
variable {P : Program} {w : World} {K : PySem.W.Frag} {mg : Str → Option Value} {base : Heap} {f f1 f2 f3 : Addr} {fd fd1 fd2 fd3 : FuncData}
theorem sl_from {σ : L2.St} {H : Hp} {a : Addr} {xs : List V} {lo : Option Int} {Q : VK} (ha : H a = some (.tup xs)) (k : ∀ H' p, Same H H' → H' p = some (.tup (cutV xs lo none)) → Q (.ref p) H') : tNoPart σ H fun u H3 => rSlA K (.ref a) lo u H3 Q := sl_some ha k
abbrev sBarred : Stmt := top 199
def spBarred : Sp := fun vs H Q _ => ∃ (r a : Addr) (rs : List Str) (d : Dd), vs = [.ref r, .ref a] ∧ H r = some (rowsO rs) ∧ H a = some (deedO d) ∧ Q (barV (d.bar rs)) H
theorem scBarred : FnScope ["rows", "deed"] ["rows", "deed"] (fnScope sBarred) := fnScope_by (by decide +kernel)
theorem ok_barred (g : G mg) (F : Fun K "barred_by" "barred_by" sBarred f fd) : FnOk P w K mg base CX0 1 f fd ["rows", "deed"] spBarred := by
  obtain ⟨tP, mP⟩ := g.put
  obtain ⟨tR, mR⟩ := g.row
  obtain ⟨tM, mM⟩ := g.mR
  refine fn0 F scBarred (fun vs H Q E h => ?_) (fun cdv A outer s H vs Q E hr h => ?_)
  · obtain ⟨r, a, rs, d, rfl, _⟩ := h
    rfl
  · obtain ⟨r, a, rs, d, rfl, hrs, ha, k⟩ := h
    refine ⟨_, pss_cons (ps_if (pt_cmpR op_eq (pe_ix ix_tup (pv 1) pe_int (fun _ _ => rfl)) (pe_glob (v := .str "put") rfl mP ⟨_, rfl⟩) (nomark _))
        (pss_cons (ps_if (pt_cmpR op_eq (pe_callB call_len_seq rfl g.len PySem.boot_len (pa_cons (pv 0) pa_nil)) (pe_glob (v := .int 60) rfl mM ⟨_, rfl⟩) (nomark _)) (pss_one (ps_ret pe_str)) pss_nil)
          (pss_one (ps_ret (pe_ifExp (pt_cmpR op_gt (pe_ix ix_tup (pv 1) pe_int (fun _ _ => rfl)) (pe_callB call_len_seq rfl g.len PySem.boot_len (pa_cons (pv 0) pa_nil)) (nomark _)) pe_str pe_non)))) pss_nil)
      (pss_cons (ps_if (pt_cmpR op_ge (pe_ix ix_tup (pv 1) pe_int (fun _ _ => rfl)) (pe_callB call_len_seq rfl g.len PySem.boot_len (pa_cons (pv 0) pa_nil)) (nomark _)) (pss_one (ps_ret pe_str)) pss_nil)
        (pss_one (ps_ret (pe_ifExp (PW.pt (pw_and (pt_cmpR op_eq (pe_ix ix_tup (pv 1) pe_int (fun _ _ => rfl)) (pe_glob (v := .str "row") rfl mR ⟨_, rfl⟩) (nomark _))
          (pw_and1 (pt_cmpR op_eq (pe_ix ix_tup (pv 0) (pe_ix ix_tup (pv 1) pe_int (fun _ _ => rfl)) (fun _ _ => rfl)) (pe_ix ix_tup (pv 1) pe_int (fun _ _ => rfl)) (nomark _))))) pe_str pe_non)))), ?_⟩
    have hm : (rs.map V.str).length = rs.length := List.length_map _
    cases d with
    | put i t =>
      refine ⟨_, rfl, a, _, _, _, rfl, rfl, SqT.of ha, (show atI _ 0 = some (.str "put") from rfl), rfl, _, rfl, ?_⟩
      refine iteT ⟨_, rfl, r, rs.map V.str, rfl, .inr (SqT.of hrs), rfl, _, rfl, ?_⟩
      rw [hm]
      rw [Dd.bar_put] at k
      by_cases h1 : rs.length = 60
      · rw [if_pos h1] at k
        rw [h1]
        exact iteT k
      · rw [if_neg h1] at k
        rw [decide_eq_false (show ¬ V.int ((rs.length : Nat) : Int) = V.int 60 from fun z => h1 (by have := V.int.inj z; omega))]
        refine iteF ⟨_, rfl, a, _, _, _, rfl, rfl, SqT.of ha, (show atI _ 1 = some (.int (i : Nat)) from rfl), _, rfl, r, rs.map V.str, rfl, .inr (SqT.of hrs), _, _, rfl, rfl, _, rfl, ?_⟩
        rw [hm]
        by_cases h2 : rs.length < i
        · rw [if_pos h2] at k
          rw [decide_eq_true (show ((rs.length : Nat) : Int) < (i : Nat) by omega)]
          exact iteT k
        · rw [if_neg h2] at k
          rw [decide_eq_false (show ¬ ((rs.length : Nat) : Int) < (i : Nat) by omega)]
          exact iteF k
    | row i t =>
      refine ⟨_, rfl, a, _, _, _, rfl, rfl, SqT.of ha, (show atI _ 0 = some (.str "row") from rfl), rfl, _, rfl, ?_⟩
      refine iteF ⟨_, rfl, a, _, _, _, rfl, rfl, SqT.of ha, (show atI _ 1 = some (.int (i : Nat)) from rfl), _, rfl, r, rs.map V.str, rfl, .inr (SqT.of hrs), _, _, rfl, rfl, _, rfl, ?_⟩
      rw [hm]
      rw [Dd.bar_row] at k
      by_cases h1 : rs.length ≤ i
      · rw [if_pos h1] at k
        rw [decide_eq_true (show ((rs.length : Nat) : Int) ≤ (i : Nat) by omega)]
        exact iteT k
      · rw [if_neg h1] at k
        rw [decide_eq_false (show ¬ ((rs.length : Nat) : Int) ≤ (i : Nat) by omega)]
        have hi : i < rs.length := by omega
        refine iteF ⟨_, rfl, a, _, _, _, rfl, rfl, SqT.of ha, (show atI _ 0 = some (.str "row") from rfl), rfl, _, rfl, ?_⟩
        have e : atI (rs.map V.str) (i : Nat) = some (.str rs[i]) := atI_nat (by rw [List.getElem?_map, List.getElem?_eq_getElem hi]; rfl)
        refine iteT ⟨_, rfl, _, rfl, a, _, _, _, rfl, rfl, SqT.of ha, (show atI _ 1 = some (.int (i : Nat)) from rfl), r, _, _, _, rfl, rfl, SqT.of hrs, e, _, rfl, a, _, _, _, rfl, rfl, SqT.of ha, (show atI _ 2 = some (.str t) from rfl), rfl, _, rfl, ?_⟩
        rw [List.getElem?_eq_getElem hi] at k
        by_cases h2 : rs[i] = t
        · rw [if_pos (congrArg some h2)] at k
          rw [decide_eq_true (congrArg V.str h2)]
          exact iteT k
        · rw [if_neg fun z => h2 (Option.some.inj z)] at k
          rw [decide_eq_false fun z => h2 (V.str.inj z)]
          exact iteF k
    | out i =>
      refine ⟨_, rfl, a, _, _, _, rfl, rfl, SqT.of ha, (show atI _ 0 = some (.str "out") from rfl), rfl, _, rfl, ?_⟩
      refine iteF ⟨_, rfl, a, _, _, _, rfl, rfl, SqT.of ha, (show atI _ 1 = some (.int (i : Nat)) from rfl), _, rfl, r, rs.map V.str, rfl, .inr (SqT.of hrs), _, _, rfl, rfl, _, rfl, ?_⟩
      rw [hm]
      rw [Dd.bar_out] at k
      by_cases h1 : rs.length ≤ i
      · rw [if_pos h1] at k
        rw [decide_eq_true (show ((rs.length : Nat) : Int) ≤ (i : Nat) by omega)]
        exact iteT k
      · rw [if_neg h1] at k
        rw [decide_eq_false (show ¬ ((rs.length : Nat) : Int) ≤ (i : Nat) by omega)]
        refine iteF ⟨_, rfl, a, _, _, _, rfl, rfl, SqT.of ha, (show atI _ 0 = some (.str "out") from rfl), rfl, _, rfl, ?_⟩
        exact iteF (iteF k)

abbrev sBehind : Stmt := top 200
def spBehind : Sp := fun vs H Q _ => ∃ (r a : Addr) (rs : List Str) (d : Dd), vs = [.ref r, .ref a] ∧ H r = some (rowsO rs) ∧ H a = some (deedO d) ∧ rs.length ≤ 1000 ∧ ∀ H' p, Same H H' → H' p = some (rowsO (d.app rs)) → Q (.ref p) H'
theorem scBehind : FnScope ["rows", "deed", "at"] ["rows", "deed"] (fnScope sBehind) := fnScope_by (by decide +kernel)
theorem ok_behind (g : G mg) (F : Fun K "rows_behind" "rows_behind" sBehind f fd) : FnOk P w K mg base CX0 1 f fd ["rows", "deed"] spBehind := by
  obtain ⟨tP, mP⟩ := g.put
  obtain ⟨tR, mR⟩ := g.row
  refine fn0 F scBehind (fun vs H Q E h => ?_) (fun cdv A outer s H vs Q E hr h => ?_)
  · obtain ⟨r, a, rs, d, rfl, _⟩ := h
    rfl
  · obtain ⟨r, a, rs, d, rfl, hrs, ha, hl, k⟩ := h
    refine ⟨_, pss_cons (ps_set (i := 2) scBehind.nd rfl (Or.inl rfl) (pe_ix ix_tup (pv 1) pe_int (fun _ _ => rfl)))
      (pss_cons (ps_if (pt_cmpR op_eq (pe_ix ix_tup (pv 1) pe_int (fun _ _ => rfl)) (pe_glob (v := .str "put") rfl mP ⟨_, rfl⟩) (nomark _))
          (pss_one (ps_ret (pe_tup (pa_star (pe_slice sl_tupA (pv 0) po_none (po_some (pv 2))) (pa_cons (pe_ix ix_tup (pv 1) pe_int (fun _ _ => rfl)) (pa_star (pe_slice sl_tupA (pv 0) (po_some (pv 2)) po_none) pa_nil)))))) pss_nil)
        (pss_one (ps_ret (pe_ifExp (pt_cmpR op_eq (pe_ix ix_tup (pv 1) pe_int (fun _ _ => rfl)) (pe_glob (v := .str "row") rfl mR ⟨_, rfl⟩) (nomark _))
          (pe_tup (pa_star (pe_slice sl_tupA (pv 0) po_none (po_some (pv 2))) (pa_cons (pe_ix ix_tup (pv 1) pe_int (fun _ _ => rfl)) (pa_star (pe_slice sl_tupA (pv 0) (po_some (pe_op op_add (pv 2) pe_int)) po_none) pa_nil))))
          (pe_tup (pa_star (pe_slice sl_tupA (pv 0) po_none (po_some (pv 2))) (pa_star (pe_slice sl_tupA (pv 0) (po_some (pe_op op_add (pv 2) pe_int)) po_none) pa_nil))))))), ?_⟩
    cases d with
    | put i t =>
      refine ⟨_, rfl, a, _, _, _, rfl, rfl, SqT.of ha, (show atI _ 1 = some (.int (i : Nat)) from rfl), ?_⟩
      refine ⟨_, rfl, a, _, _, _, rfl, rfl, SqT.of ha, (show atI _ 0 = some (.str "put") from rfl), rfl, _, rfl, ?_⟩
      refine iteT ⟨_, rfl, _, rfl, _, rfl, ?_⟩
      refine sl_some (K := K) hrs fun H1 p1 S1 h1 => ?_
      rw [cut_to] at h1
      refine ⟨p1, _, rfl, .inl (SqT.of h1), _, rfl, a, _, _, _, rfl, rfl, SqT.of (S1 _ _ ha), (show atI _ 2 = some (.str t) from rfl), _, rfl, _, rfl, _, rfl, ?_⟩
      refine sl_from (S1 _ _ hrs) fun H2 p2 S2 h2 => ?_
      rw [cut_from] at h2
      refine ⟨p2, _, rfl, .inl (SqT.of h2), ?_, fun p hp => k _ p (S1.trans (S2.trans (same_upd hp))) ?_⟩
      · rw [sizeLine_eq, List.append_nil, List.length_append, List.length_cons, List.length_map, List.length_map, List.length_take, List.length_drop]
        omega
      · rw [upd_same]
        unfold rowsO Dd.app
        rw [List.map_append, List.map_cons, List.append_nil]
    | row i t =>
      refine ⟨_, rfl, a, _, _, _, rfl, rfl, SqT.of ha, (show atI _ 1 = some (.int (i : Nat)) from rfl), ?_⟩
      refine ⟨_, rfl, a, _, _, _, rfl, rfl, SqT.of ha, (show atI _ 0 = some (.str "row") from rfl), rfl, _, rfl, ?_⟩
      refine iteF ⟨_, rfl, a, _, _, _, rfl, rfl, SqT.of ha, (show atI _ 0 = some (.str "row") from rfl), rfl, _, rfl, ?_⟩
      refine iteT ⟨_, rfl, _, rfl, _, rfl, ?_⟩
      refine sl_some (K := K) hrs fun H1 p1 S1 h1 => ?_
      rw [cut_to] at h1
      refine ⟨p1, _, rfl, .inl (SqT.of h1), _, rfl, a, _, _, _, rfl, rfl, SqT.of (S1 _ _ ha), (show atI _ 2 = some (.str t) from rfl), _, rfl, _, rfl, _, _, rfl, rfl, ((i + 1 : Nat) : Int), rfl, ?_⟩
      refine sl_from (S1 _ _ hrs) fun H2 p2 S2 h2 => ?_
      rw [cut_from] at h2
      refine ⟨p2, _, rfl, .inl (SqT.of h2), ?_, fun p hp => k _ p (S1.trans (S2.trans (same_upd hp))) ?_⟩
      · rw [sizeLine_eq, List.append_nil, List.length_append, List.length_cons, List.length_map, List.length_map, List.length_take, List.length_drop]
        omega
      · rw [upd_same]
        unfold rowsO Dd.app
        rw [List.map_append, List.map_cons, List.append_nil]
    | out i =>
      refine ⟨_, rfl, a, _, _, _, rfl, rfl, SqT.of ha, (show atI _ 1 = some (.int (i : Nat)) from rfl), ?_⟩
      refine ⟨_, rfl, a, _, _, _, rfl, rfl, SqT.of ha, (show atI _ 0 = some (.str "out") from rfl), rfl, _, rfl, ?_⟩
      refine iteF ⟨_, rfl, a, _, _, _, rfl, rfl, SqT.of ha, (show atI _ 0 = some (.str "out") from rfl), rfl, _, rfl, ?_⟩
      refine iteF ⟨_, rfl, _, rfl, _, rfl, ?_⟩
      refine sl_some (K := K) hrs fun H1 p1 S1 h1 => ?_
      rw [cut_to] at h1
      refine ⟨p1, _, rfl, .inl (SqT.of h1), _, rfl, _, rfl, _, _, rfl, rfl, ((i + 1 : Nat) : Int), rfl, ?_⟩
      refine sl_from (S1 _ _ hrs) fun H2 p2 S2 h2 => ?_
      rw [cut_from] at h2
      refine ⟨p2, _, rfl, .inl (SqT.of h2), ?_, fun p hp => k _ p (S1.trans (S2.trans (same_upd hp))) ?_⟩
      · rw [sizeLine_eq, List.append_nil, List.length_append, List.length_map, List.length_map, List.length_take, List.length_drop]
        omega
      · rw [upd_same]
        unfold rowsO Dd.app
        rw [List.map_append, List.append_nil]
end
end K11

/-! Rows and deeds as data: compared. -/
namespace K11
open PySem PySem.Spec C8 Xo Yo
open L2 hiding Fun CX0 pass0 E0
open TL (tl)
theorem eqvAll_map {α : Type} [DecidableEq α] {f : α → PyData} (hf : ∀ x y, PyData.eqv (f x) (f y) = decide (x = y)) : ∀ xs ys : List α, PyData.eqvAll (xs.map f) (ys.map f) = decide (xs = ys)
  | [], [] => rfl
  | [], _ :: _ => rfl
  | _ :: _, [] => rfl
  | x :: xs, y :: ys => by
    show (PyData.eqv (f x) (f y) && PyData.eqvAll (xs.map f) (ys.map f)) = _
    rw [hf, eqvAll_map hf xs ys]
    by_cases h1 : x = y
    · by_cases h2 : xs = ys
      · rw [decide_eq_true h1, decide_eq_true h2, decide_eq_true (by rw [h1, h2])]
        rfl
      · rw [decide_eq_true h1, decide_eq_false h2, decide_eq_false fun z => h2 (List.cons.inj z).2]
        rfl
    · rw [decide_eq_false h1, decide_eq_false fun z => h1 (List.cons.inj z).1]
      rfl
theorem canLayAll_map {α : Type} {f : α → PyData} : ∀ xs : List α, (∀ x ∈ xs, PyData.canLay0 (f x) = true) → PyData.canLayAll0 (xs.map f) = true
  | [], _ => rfl
  | x :: xs, hf => by
    show (PyData.canLay0 (f x) && PyData.canLayAll0 (xs.map f)) = true
    rw [hf x List.mem_cons_self, canLayAll_map xs fun y hy => hf y (List.mem_cons_of_mem _ hy)]
    rfl
theorem depthAll_map {α : Type} {f : α → PyData} {k : Nat} (hf : ∀ x, PyData.depth (f x) ≤ k) : ∀ xs : List α, PyData.depthAll (xs.map f) ≤ k
  | [] => Nat.zero_le _
  | x :: xs => by
    show max (PyData.depth (f x)) (PyData.depthAll (xs.map f)) ≤ k
    exact Nat.max_le.mpr ⟨hf x, depthAll_map hf xs⟩
theorem shaped_map {α : Type} {f : α → PyData} {k : Nat} (h2 : ∀ x, PyData.depth (f x) ≤ k) (hk : k ≤ 60) (xs : List α) (h1 : ∀ x ∈ xs, PyData.canLay0 (f x) = true) : SeqAt.shaped (.tuple (xs.map f)) = true := by
  have e1 : PyData.canLay0 (.tuple (xs.map f)) = true := by
    simp only [PyData.canLay0]
    exact canLayAll_map xs h1
  have e2 : PyData.depth (.tuple (xs.map f)) ≤ 64 := by
    simp only [PyData.depth]
    have := depthAll_map h2 xs
    omega
  unfold SeqAt.shaped
  rw [e1, decide_eq_true e2]
  rfl
def rowsD (rs : List Str) : PyData := .tuple (rs.map PyData.str)
theorem str_eqv (x y : Str) : PyData.eqv (.str x) (.str y) = decide (x = y) := by
  simp only [PyData.eqv]
  by_cases h : x = y
  · rw [h, decide_eq_true rfl, beq_self_eq_true]
  · rw [decide_eq_false h]
    exact beq_eq_false_iff_ne.mpr h
theorem can_str {x : Str} (h : PyData.strOk x = true) : PyData.canLay0 (.str x) = true := by
  simp only [PyData.canLay0]
  exact h
theorem rowsD_shaped {rs : List Str} (h : ∀ r ∈ rs, PyData.strOk r = true) : SeqAt.shaped (rowsD rs) = true := shaped_map (k := 0) (fun x => by simp only [PyData.depth]; exact Nat.le_refl _) (by decide) rs fun r hr => can_str (h r hr)
theorem rowsD_eqv (rs qs : List Str) : PyData.eqv (rowsD rs) (rowsD qs) = decide (rs = qs) := by
  unfold rowsD
  simp only [PyData.eqv]
  exact eqvAll_map str_eqv rs qs
theorem dp_strs {K : PySem.W.Frag} {H : Hp} : ∀ rs : List Str, DpAll K H (rs.map V.str) (rs.map PyData.str)
  | [] => .nil
  | r :: rs => .cons (.str r) (dp_strs rs)
theorem dp_rows {K : PySem.W.Frag} {H : Hp} {a : Addr} {rs : List Str} (h : H a = some (rowsO rs)) : Dp K H (.ref a) (rowsD rs) := .tup (SqT.of h) (dp_strs rs)
/-! ### deeds -/
instance : DecidableEq Dd
  | .put i t, .put j u => if h : i = j ∧ t = u then .isTrue (by rw [h.1, h.2]) else .isFalse fun z => h ⟨(Dd.put.inj z).1, (Dd.put.inj z).2⟩
  | .row i t, .row j u => if h : i = j ∧ t = u then .isTrue (by rw [h.1, h.2]) else .isFalse fun z => h ⟨(Dd.row.inj z).1, (Dd.row.inj z).2⟩
  | .out i, .out j => if h : i = j then .isTrue (by rw [h]) else .isFalse fun z => h (Dd.out.inj z)
  | .put _ _, .row _ _ => .isFalse fun z => by cases z
  | .put _ _, .out _ => .isFalse fun z => by cases z
  | .row _ _, .put _ _ => .isFalse fun z => by cases z
  | .row _ _, .out _ => .isFalse fun z => by cases z
  | .out _, .put _ _ => .isFalse fun z => by cases z
  | .out _, .row _ _ => .isFalse fun z => by cases z
def Dd.data : Dd → PyData
  | .put i t => .tuple [.str "put", .int (i : Nat), .str t]
  | .row i t => .tuple [.str "row", .int (i : Nat), .str t]
  | .out i => .tuple [.str "out", .int (i : Nat)]
theorem int_eqv (i j : Nat) : PyData.eqv (.int (i : Nat)) (.int (j : Nat)) = decide (i = j) := by
  simp only [PyData.eqv]
  by_cases h : i = j
  · rw [h, decide_eq_true rfl, beq_self_eq_true]
  · rw [decide_eq_false h]
    exact beq_eq_false_iff_ne.mpr fun z => h (by omega)
theorem and3 {a b c : Prop} [Decidable a] [Decidable b] [Decidable c] (h : c ↔ a ∧ b) : (decide a && decide b) = decide c := by
  by_cases ha : a
  · by_cases hb : b
    · rw [decide_eq_true ha, decide_eq_true hb, decide_eq_true (h.mpr ⟨ha, hb⟩)]
      rfl
    · rw [decide_eq_true ha, decide_eq_false hb, decide_eq_false fun z => hb (h.mp z).2]
      rfl
  · rw [decide_eq_false ha, decide_eq_false fun z => ha (h.mp z).1]
    rfl
theorem eqvAll2 (a b c d : PyData) : PyData.eqvAll [a, b] [c, d] = (PyData.eqv a c && (PyData.eqv b d && true)) := rfl
theorem eqvAll3 (a b e c d f : PyData) : PyData.eqvAll [a, b, e] [c, d, f] = (PyData.eqv a c && (PyData.eqv b d && (PyData.eqv e f && true))) := rfl
theorem tup_eqv (xs ys : List PyData) : PyData.eqv (.tuple xs) (.tuple ys) = PyData.eqvAll xs ys := by simp only [PyData.eqv]
theorem Dd.eqv (d e : Dd) : PyData.eqv d.data e.data = decide (d = e) := by
  cases d with
  | put i t => cases e with
    | put j u =>
      show PyData.eqv (.tuple _) (.tuple _) = _
      rw [tup_eqv, eqvAll3, str_eqv, int_eqv, str_eqv, Bool.and_true, decide_eq_true rfl, Bool.true_and]
      exact and3 ⟨fun z => ⟨(Dd.put.inj z).1, (Dd.put.inj z).2⟩, fun z => by rw [z.1, z.2]⟩
    | row j u =>
      show PyData.eqv (.tuple _) (.tuple _) = _
      rw [tup_eqv, eqvAll3, str_eqv, decide_eq_false (show ¬ ("put" : Str) = "row" by decide +kernel), Bool.false_and]
      exact (decide_eq_false fun z => by cases z).symm
    | out j => exact (decide_eq_false (p := Dd.put i t = Dd.out j) fun z => by cases z).symm ▸ (show PyData.eqv (.tuple _) (.tuple _) = false by rw [tup_eqv]; rfl)
  | row i t => cases e with
    | put j u =>
      show PyData.eqv (.tuple _) (.tuple _) = _
      rw [tup_eqv, eqvAll3, str_eqv, decide_eq_false (show ¬ ("row" : Str) = "put" by decide +kernel), Bool.false_and]
      exact (decide_eq_false fun z => by cases z).symm
    | row j u =>
      show PyData.eqv (.tuple _) (.tuple _) = _
      rw [tup_eqv, eqvAll3, str_eqv, int_eqv, str_eqv, Bool.and_true, decide_eq_true rfl, Bool.true_and]
      exact and3 ⟨fun z => ⟨(Dd.row.inj z).1, (Dd.row.inj z).2⟩, fun z => by rw [z.1, z.2]⟩
    | out j =>
      show PyData.eqv (.tuple _) (.tuple _) = _
      rw [tup_eqv, decide_eq_false (fun z => by cases z), SeqAt.eqvAll_other_length (by simp)]
  | out i => cases e with
    | put j u =>
      show PyData.eqv (.tuple _) (.tuple _) = _
      rw [tup_eqv, decide_eq_false (fun z => by cases z), SeqAt.eqvAll_other_length (by simp)]
    | row j u =>
      show PyData.eqv (.tuple _) (.tuple _) = _
      rw [tup_eqv, decide_eq_false (fun z => by cases z), SeqAt.eqvAll_other_length (by simp)]
    | out j =>
      show PyData.eqv (.tuple _) (.tuple _) = _
      rw [tup_eqv, eqvAll2, str_eqv, int_eqv, Bool.and_true, decide_eq_true rfl, Bool.true_and]
      by_cases h : i = j
      · rw [decide_eq_true h, decide_eq_true (by rw [h])]
      · rw [decide_eq_false h, decide_eq_false fun z => h (Dd.out.inj z)]
/-- its text is a text that may stand as data -/
def Dd.dok : Dd → Prop
  | .put _ t => PyData.strOk t = true
  | .row _ t => PyData.strOk t = true
  | .out _ => True
theorem Dd.can {d : Dd} (h : d.dok) : PyData.canLay0 d.data = true := by
  cases d with
  | put i t =>
    simp only [Dd.data, PyData.canLay0, PyData.canLayAll0, Bool.and_true, Bool.true_and]
    rw [show PyData.strOk t = true from h, Bool.and_true]
    decide +kernel
  | row i t =>
    simp only [Dd.data, PyData.canLay0, PyData.canLayAll0, Bool.and_true, Bool.true_and]
    rw [show PyData.strOk t = true from h, Bool.and_true]
    decide +kernel
  | out i =>
    simp only [Dd.data, PyData.canLay0, PyData.canLayAll0, Bool.and_true, Bool.true_and]
    decide +kernel
def deedsD (ds : List Dd) : PyData := .tuple (ds.map Dd.data)
theorem deedsD_shaped {ds : List Dd} (h : ∀ d ∈ ds, d.dok) : SeqAt.shaped (deedsD ds) = true := shaped_map (k := 1) (fun d => by cases d <;> simp [Dd.data, PyData.depth, PyData.depthAll]) (by decide) ds fun d hd => Dd.can (h d hd)
theorem deedsD_eqv (ds es : List Dd) : PyData.eqv (deedsD ds) (deedsD es) = decide (ds = es) := by
  unfold deedsD
  simp only [PyData.eqv]
  exact eqvAll_map Dd.eqv ds es
theorem dp_deed {K : PySem.W.Frag} {H : Hp} {a : Addr} {d : Dd} (h : H a = some (deedO d)) : Dp K H (.ref a) d.data := by
  cases d with
  | put i t => exact .tup (SqT.of h) (.cons (.str _) (.cons (.int _) (.cons (.str _) .nil)))
  | row i t => exact .tup (SqT.of h) (.cons (.str _) (.cons (.int _) (.cons (.str _) .nil)))
  | out i => exact .tup (SqT.of h) (.cons (.str _) (.cons (.int _) .nil))
theorem dp_all {α : Type} {f : α → HO} {g : α → PyData} {K : PySem.W.Frag} {H : Hp} (hf : ∀ a x, H a = some (f x) → Dp K H (.ref a) (g x)) : ∀ {as : List Addr} {xs : List α}, AllAt f H as xs → DpAll K H (as.map V.ref) (xs.map g)
  | [], [], _ => .nil
  | [], _ :: _, h => by
    have := h.1
    simp at this
  | _ :: _, [], h => by
    have := h.1
    simp at this
  | a :: as, x :: xs, h => .cons (hf a x (h.2 0 a x rfl rfl)) (dp_all hf ⟨by have := h.1; simpa using this, fun i b y h1 h2 => h.2 (i + 1) b y h1 h2⟩)
theorem dp_deeds {K : PySem.W.Frag} {H : Hp} {a : Addr} {as : List Addr} {ds : List Dd} (h : H a = some (.tup (as.map V.ref))) (k : AllAt deedO H as ds) : Dp K H (.ref a) (deedsD ds) := .tup (SqT.of h) (dp_all (fun _ _ => dp_deed) k)
end K11

/-! The desk: making it, ==, do, undo. -/
namespace K11
open PySem PySem.Spec C8 Xo Yo
open L2 hiding Fun CX0 pass0 E0
open TL (tl)
open StX (pa_star)
/-- what is known of the class -/
structure DkC (K : PySem.W.Frag) (C : Addr) : Prop where
  cl : Cls K C
  nB : NoAttr K C "begun"
  nR : NoAttr K C "rows"
  nD : NoAttr K C "deeds"
  nP : NoAttr K C "past"
  ha : PySem.W.findIn K (.ref C) "__class__" = some (some (.builtin "object.__class__"))
  hn : PySem.W.specialIn K (.builtin "object.__class__") "__get__" = some (some (.builtin "getset_descriptor.__get__"))
  ht : PySem.W.takesIn K (.builtin "object.__class__") = some true
  hm : PySem.W.mroIn K C (.type "object") = some true
  self : PySem.W.kitOne K (.ref C) (.ref C) = some true
def dflds (r0 r d p : Addr) : List (Str × V) := [("begun", .ref r0), ("rows", .ref r), ("deeds", .ref d), ("past", .ref p)]
/-- a desk: with what it began, its rows, its deeds, the rows ahead of each -/
def DeskAt (C : Addr) (H : Hp) (b : Addr) (beg rs : List Str) (ds : List Dd) (ps : List (List Str)) : Prop := ∃ (dx r0 r d p : Addr) (das pas : List Addr), H b = some (.ins C dx (dflds r0 r d p)) ∧ H r0 = some (rowsO beg) ∧ H r = some (rowsO rs) ∧
  H d = some (.tup (das.map V.ref)) ∧ AllAt deedO H das ds ∧ H p = some (.tup (pas.map V.ref)) ∧ AllAt rowsO H pas ps
/-- all but c kept -/
def But (c : Addr) (H H' : Hp) : Prop := ∀ b o, b ≠ c → H b = some o → H' b = some o
theorem But.of_same {c : Addr} {H H' : Hp} (h : Same H H') : But c H H' := fun b o _ e => h b o e
theorem But.trans {c : Addr} {H H1 H2 : Hp} (h1 : But c H H1) (h2 : But c H1 H2) : But c H H2 := fun b o n e => h2 b o n (h1 b o n e)
theorem But.refl {c : Addr} {H : Hp} : But c H H := fun _ _ _ e => e
theorem but_upd {H : Hp} {p : Addr} {o : HO} : But p H (upd H p o) := fun b u n e => by rw [upd_ne n]; exact e
theorem AllAt.but {α : Type} {f : α → HO} {H H' : Hp} {c : Addr} {as : List Addr} {xs : List α} (h : AllAt f H as xs) (S : But c H H') (hc : ∀ x, H c ≠ some (f x)) : AllAt f H' as xs := ⟨h.1, fun i a x h1 h2 => S a _ (fun z => hc x (by rw [← z]; exact h.2 i a x h1 h2)) (h.2 i a x h1 h2)⟩
theorem DeskAt.keep {C : Addr} {H H' : Hp} {b c : Addr} {beg rs : List Str} {ds : List Dd} {ps : List (List Str)} (h : DeskAt C H b beg rs ds ps) (S : But c H H') (hbc : b ≠ c) (hc : ∀ xs, H c ≠ some (.tup xs)) : DeskAt C H' b beg rs ds ps := by
  obtain ⟨dx, r0, r, d, p, das, pas, h1, h2, h3, h4, h5, h6, h7⟩ := h
  have nt : ∀ {q : Addr} {xs : List V}, H q = some (.tup xs) → q ≠ c := fun {q xs} e z => hc xs (by rw [← z]; exact e)
  exact ⟨dx, r0, r, d, p, das, pas, S _ _ hbc h1, S _ _ (nt h2) h2, S _ _ (nt h3) h3, S _ _ (nt h4) h4, h5.but S fun x => hc _, S _ _ (nt h6) h6, h7.but S fun x => hc _⟩
section
variable {P : Program} {w : World} {K : PySem.W.Frag} {mg : Str → Option Value} {base : Heap} {f f1 f2 f3 C CT CB : Addr} {fd fd1 fd2 fd3 : FuncData}
abbrev sInit : Stmt := inClass (top 201) 0
def spInit (K : PySem.W.Frag) (C CT : Addr) : Sp := fun vs H Q E => ∃ (x dx : Addr), H x = some (.ins C dx []) ∧ ((∃ (z : Str) (ps : List Str), vs = [.ref x, .str z] ∧ Parts z ps ∧ z.length + 2 ≤ sizeLine ∧ ps.length + 1 ≤ sizeLine ∧
    (Good ps → ∀ H', But x H H' → DeskAt C H' x (rowsP ps) (rowsP ps) [] [] → Q .non H') ∧
    (¬ Good ps → ∀ H' d, Same H H' → H' d = some (.xd [("given", .str z)]) → E (.ref CT) (some d) H')) ∨
  (∃ v, vs = [.ref x, v] ∧ StrOr K H v false ∧ ∀ H' d, Same H H' → H' d = some (.xd [("given", v)]) → E (.ref CT) (some d) H'))
theorem scInit : FnScope ["self", "text"] ["self", "text"] (fnScope sInit) := fnScope_by (by decide +kernel)
theorem ok_init (T : DkC K C) (F : Fun K "__init__" "Desk.__init__" sInit f fd) (F1 : FnOk P w K mg base (L2.CX P w) 3 f1 fd1 ["text"] (spRowsIn K CT)) (a1 : At K mg "rows_in" f1) (b1 : Binds K fd1 ["text"] []) : FnOk P w K mg base (L2.CX P w) 4 f fd ["self", "text"] (spInit K C CT) := by
  refine fnX F scInit (fun vs H Q E h => ?_) (fun cdv A outer s H vs Q E hr h => ?_)
  · rcases h with ⟨x, dx, _, ⟨z, ps, rfl, _⟩ | ⟨v, rfl, _⟩⟩ <;> rfl
  · refine ⟨_, pss_cons (ps_fld (pv 0) (pe_call F1 hr rfl a1.m a1.k b1 .nil (passes_call (takes_of rfl rfl rfl rfl) fun _ _ _ _ h => h) (pa_cons (pv 1) pa_nil)) rfl)
      (pss_cons (ps_fld (pv 0) (pe_fld (pv 0) rfl) rfl) (pss_cons (ps_fld (pv 0) (pe_tup pa_nil) rfl) (pss_one (ps_fld (pv 0) (pe_tup pa_nil) rfl)))), ?_⟩
    obtain ⟨x, dx, hx, ⟨z, ps, rfl, hp, hz, hps, k1, k2⟩ | ⟨v, rfl, hv, k⟩⟩ := h
    · refine ⟨_, rfl, .inl ⟨z, ps, rfl, hp, hz, hps, fun gd H1 r S1 hr1 => ?_, fun ng H1 d S1 hd => k2 ng _ d S1 hd⟩⟩
      have nx : ∀ {q : Addr} {xs : List V} {H' : Hp}, H' x = some (.ins C dx []) → H' q = some (.tup xs) → q ≠ x := fun {q xs H'} e1 e2 z => by
        rw [z, e1] at e2
        cases e2
      have hx1 := S1 _ _ hx
      have nr : r ≠ x := nx hx1 hr1
      refine ⟨_, rfl, x, C, dx, [], rfl, hx1, T.cl, T.nB, by show 0 < 1000; decide, ?_⟩
      refine ⟨_, rfl, x, C, dx, [("begun", .ref r)], .ref r, rfl, upd_same, T.cl, T.nB, rfl, _, rfl, x, C, dx, [("begun", .ref r)], rfl, upd_same, T.cl, T.nR, by show 1 < 1000; decide, ?_⟩
      refine ⟨by rw [sizeLine_eq]; exact Nat.zero_le _, fun d hd => ?_⟩
      have nd : d ≠ x := fun z => by rw [z, upd_same] at hd; cases hd
      refine ⟨_, rfl, x, C, dx, [("begun", .ref r), ("rows", .ref r)], rfl, (by rw [upd_ne (Ne.symm nd)]; exact upd_same), T.cl, T.nD, by show 2 < 1000; decide, ?_⟩
      refine ⟨by rw [sizeLine_eq]; exact Nat.zero_le _, fun p hp0 => ?_⟩
      have np : p ≠ x := fun z => by rw [z, upd_same] at hp0; cases hp0
      have npd : p ≠ d := fun z => by rw [z, upd_ne nd, upd_same] at hp0; cases hp0
      refine ⟨_, rfl, x, C, dx, [("begun", .ref r), ("rows", .ref r), ("deeds", .ref d)], rfl, (by rw [upd_ne (Ne.symm np)]; exact upd_same), T.cl, T.nP, by show 3 < 1000; decide, ?_⟩
      have nrd : r ≠ d := fun z => by
        rw [← z, upd_ne nr, upd_ne nr, hr1] at hd
        cases hd
      have nrp : r ≠ p := fun z => by
        rw [← z, upd_ne nr, upd_ne nrd, upd_ne nr, upd_ne nr, hr1] at hp0
        cases hp0
      refine k1 gd _ (fun b o nb e => ?_) ⟨dx, r, r, d, p, [], [], upd_same, ?_, ?_, ?_, AllAt.nil, ?_, AllAt.nil⟩
      · have e1 := S1 _ _ e
        have nbd : b ≠ d := fun z => by
          rw [← z, upd_ne nb, upd_ne nb, e1] at hd
          cases hd
        have nbp : b ≠ p := fun z => by
          rw [← z, upd_ne nb, upd_ne nbd, upd_ne nb, upd_ne nb, e1] at hp0
          cases hp0
        rw [upd_ne nb, upd_ne nbp, upd_ne nb, upd_ne nbd, upd_ne nb, upd_ne nb]
        exact e1
      · rw [upd_ne nr, upd_ne nrp, upd_ne nr, upd_ne nrd, upd_ne nr, upd_ne nr]
        exact hr1
      · rw [upd_ne nr, upd_ne nrp, upd_ne nr, upd_ne nrd, upd_ne nr, upd_ne nr]
        exact hr1
      · rw [upd_ne nd, upd_ne (Ne.symm npd), upd_ne nd, upd_same]
        rfl
      · rw [upd_ne np, upd_same]
        rfl
    · exact ⟨_, rfl, .inr ⟨v, rfl, hv, fun H1 d S1 hd => k _ d S1 hd⟩⟩
end
end K11

/-! The desk: ==, do, undo. -/
namespace K11
open PySem PySem.Spec C8 Xo Yo
open L2 hiding Fun CX0 pass0 E0
open TL (tl)
open StX (pa_star)
section
variable {P : Program} {w : World} {K : PySem.W.Frag} {mg : Str → Option Value} {base : Heap} {f f1 f2 f3 C CT CB : Addr} {fd fd1 fd2 fd3 : FuncData}
def Sok (rs : List Str) : Prop := ∀ r ∈ rs, PyData.strOk r = true
def Dok (ds : List Dd) : Prop := ∀ d ∈ ds, d.dok
abbrev sEq : Stmt := inClass (top 201) 1
def spEq (K : PySem.W.Frag) (C : Addr) : Sp := fun vs H Q _ => ∃ (b : Addr) (y : V) (beg rs : List Str) (ds : List Dd) (ps : List (List Str)), vs = [.ref b, y] ∧ DeskAt C H b beg rs ds ps ∧ Sok beg ∧ Dok ds ∧
  ((∃ (b2 : Addr) (beg2 rs2 : List Str) (ds2 : List Dd) (ps2 : List (List Str)), y = .ref b2 ∧ DeskAt C H b2 beg2 rs2 ds2 ps2 ∧ Sok beg2 ∧ Dok ds2 ∧ Q (.bl (decide (beg = beg2) && decide (ds = ds2))) H) ∨
   (∃ t, TyX K H y t ∧ PySem.W.kitOne K t (.ref C) = some false ∧ Q (.bl false) H))
theorem scEq : FnScope ["self", "other"] ["self", "other"] (fnScope sEq) := fnScope_by (by decide +kernel)
theorem ok_eq (g : G mg) (T : DkC K C) (gC : mg "Desk" = some (.ref C)) (F : Fun K "__eq__" "Desk.__eq__" sEq f fd) : FnOk P w K mg base CX0 1 f fd ["self", "other"] (spEq K C) := by
  refine fn0 F scEq (fun vs H Q E h => ?_) (fun cdv A outer s H vs Q E hr h => ?_)
  · obtain ⟨b, y, _, _, _, _, rfl, _⟩ := h
    rfl
  · obtain ⟨b, y, beg, rs, ds, ps, rfl, hD, ob, od, h⟩ := h
    refine ⟨_, pss_cons (ps_if (pt_not (pt_val (pe_callB call_isi (by rfl) g.isi PyProof.Rows.boot_isinstance (pa_cons (pv 1) (pa_cons (pe_glob (v := .ref C) rfl gC rfl) pa_nil))))) (pss_one (ps_ret pe_bl)) pss_nil)
      (pss_one (ps_ret (pe_and (pe_cmpR (op_eqD hr.units) (pe_fld (pv 0) rfl) (pe_fld (pv 1) rfl) (nomark _)) (pe_one (pe_cmpR (op_eqD hr.units) (pe_fld (pv 0) rfl) (pe_fld (pv 1) rfl) (nomark _)))))), ?_⟩
    rcases h with ⟨b2, beg2, rs2, ds2, ps2, rfl, hD2, ob2, od2, k⟩ | ⟨t, ty, e, k⟩
    · obtain ⟨dx, r0, r, d, p, das, pas, h1, h2, h3, h4, h5, h6, h7⟩ := hD
      obtain ⟨dx', r0', r', d', p', das', pas', h1', h2', h3', h4', h5', h6', h7'⟩ := hD2
      refine ⟨_, rfl, .ref b2, .ref C, .ref C, .ref C, true, rfl, .own C, .base (.ins h1' T.cl T.ha T.hn T.ht T.hm), T.self, true, rfl, ?_⟩
      refine iteF ⟨_, rfl, b, C, dx, _, .ref r0, rfl, h1, T.cl, T.nB, rfl, _, rfl, b2, C, dx', _, .ref r0', rfl, h1', T.cl, T.nB, rfl, _, _, dp_rows h2, dp_rows h2', rowsD_shaped ob, rowsD_shaped ob2, _, rfl, ?_⟩
      rw [rowsD_eqv]
      by_cases hb : beg = beg2
      · rw [decide_eq_true hb] at k ⊢
        refine iteT ⟨_, rfl, b, C, dx, _, .ref d, rfl, h1, T.cl, T.nD, rfl, _, rfl, b2, C, dx', _, .ref d', rfl, h1', T.cl, T.nD, rfl, _, _, dp_deeds h4 h5, dp_deeds h4' h5', deedsD_shaped od, deedsD_shaped od2, ?_⟩
        rw [deedsD_eqv]
        exact k
      · rw [decide_eq_false hb] at k ⊢
        exact iteF k
    · refine ⟨_, rfl, y, .ref C, t, .ref C, false, rfl, .own C, ty, e, false, rfl, ?_⟩
      exact iteT k

abbrev sDo : Stmt := inClass (top 201) 2
def spDo (C CB : Addr) : Sp := fun vs H Q E => ∃ (b a : Addr) (beg rs : List Str) (ds : List Dd) (ps : List (List Str)) (d : Dd), vs = [.ref b, .ref a] ∧ DeskAt C H b beg rs ds ps ∧ H a = some (deedO d) ∧ d.ok ∧ rs.length ≤ 1000 ∧ ds.length ≤ 1000 ∧ ps.length ≤ 1000 ∧
  (∀ z, d.bar rs = some z → ∀ H' e, Same H H' → H' e = some (.xd [("reason", .str z)]) → E (.ref CB) (some e) H') ∧
  (d.bar rs = none → ∀ H', But b H H' → DeskAt C H' b beg (d.app rs) (ds ++ [d]) (ps ++ [rs]) → Q .non H')
theorem scDo : FnScope ["self", "deed", "reason"] ["self", "deed"] (fnScope sDo) := fnScope_by (by decide +kernel)
theorem ok_do (g : G mg) (T : DkC K C) (B : ErC P w K mg "Barred" "reason" CB) (F : Fun K "do" "Desk.do" sDo f fd) (F1 : FnOk P w K mg base CX0 3 f1 fd1 ["deed"] spCheck) (a1 : At K mg "check_deed" f1) (b1 : Binds K fd1 ["deed"] [])
    (F2 : FnOk P w K mg base CX0 1 f2 fd2 ["rows", "deed"] spBarred) (a2 : At K mg "barred_by" f2) (b2 : Binds K fd2 ["rows", "deed"] []) (F3 : FnOk P w K mg base CX0 1 f3 fd3 ["rows", "deed"] spBehind) (a3 : At K mg "rows_behind" f3) (b3 : Binds K fd3 ["rows", "deed"] []) :
    FnOk P w K mg base (L2.CX P w) 4 f fd ["self", "deed"] (spDo C CB) := by
  refine fnX F scDo (fun vs H Q E h => ?_) (fun cdv A outer s H vs Q E hr h => ?_)
  · obtain ⟨b, a, _, _, _, _, _, rfl, _⟩ := h
    rfl
  · obtain ⟨b, a, beg, rs, ds, ps, d, rfl, hD, ha, hok, l1, l2, l3, k1, k2⟩ := h
    refine ⟨_, pss_cons (ps_expr (pe_call F1 hr rfl a1.m a1.k b1 .nil (pass0 (E := C8.E0)) (pa_cons (pv 1) pa_nil)))
      (pss_cons (ps_set (i := 2) scDo.nd rfl (Or.inl rfl) (pe_call F2 (hr.mono (by decide)) rfl a2.m a2.k b2 .nil (pass0 (E := C8.E0)) (pa_cons (pe_fld (pv 0) rfl) (pa_cons (pv 1) pa_nil))))
        (pss_cons (ps_if (pt_cmpR op_notN (pv 2) pe_non (nomark _)) (pss_one (ps_raise rfl (takes_of rfl rfl rfl rfl) (B.pmk g.super (hr.mono (by decide)) rfl (pa_cons (pv 2) pa_nil)))) pss_nil)
          (pss_cons (ps_fld (pv 0) (pe_tup (pa_star (pe_fld (pv 0) rfl) (pa_cons (pe_fld (pv 0) rfl) pa_nil))) rfl)
            (pss_cons (ps_fld (pv 0) (pe_call F3 (hr.mono (by decide)) rfl a3.m a3.k b3 .nil (pass0 (E := C8.E0)) (pa_cons (pe_fld (pv 0) rfl) (pa_cons (pv 1) pa_nil))) rfl)
              (pss_one (ps_fld (pv 0) (pe_tup (pa_star (pe_fld (pv 0) rfl) (pa_cons (pv 1) pa_nil))) rfl)))))), ?_⟩
    obtain ⟨dx, r0, r, dd, p, das, pas, h1, h2, h3, h4, h5, h6, h7⟩ := hD
    refine ⟨_, rfl, a, d, rfl, ha, hok, _, rfl, b, C, dx, _, .ref r, rfl, h1, T.cl, T.nR, rfl, _, rfl, r, a, rs, d, rfl, h3, ha, ?_⟩
    cases hb : d.bar rs with
    | some z =>
      refine ⟨_, rfl, rfl, true, rfl, iteT ⟨_, rfl, _, rfl, fun e he => k1 z hb _ e (same_upd he) upd_same⟩⟩
    | none =>
      refine ⟨_, rfl, rfl, false, rfl, iteF ?_⟩
      refine ⟨_, rfl, b, C, dx, _, .ref p, rfl, h1, T.cl, T.nP, rfl, p, _, rfl, .inl (SqT.of h6), _, rfl, b, C, dx, _, .ref r, rfl, h1, T.cl, T.nR, rfl, ?_, fun p2 hp2 => ?_⟩
      · rw [sizeLine_eq, List.length_append, List.length_map, h7.1]
        show ps.length + 1 ≤ _
        omega
      -- the past
      have nb : ∀ {q : Addr} {xs : List V}, H q = some (.tup xs) → q ≠ b := fun {q xs} e z => by
        rw [z, h1] at e
        cases e
      have np2b : p2 ≠ b := fun z => by rw [z, h1] at hp2; cases hp2
      have S1 : Same H (upd H p2 (.tup (pas.map V.ref ++ [.ref r]))) := same_upd hp2
      have e1 : upd H p2 (.tup (pas.map V.ref ++ [.ref r])) p2 = some (.tup ((pas ++ [r]).map V.ref)) := by rw [upd_same, List.map_append]; rfl
      generalize upd H p2 (.tup (pas.map V.ref ++ [.ref r])) = H1 at S1 e1 ⊢
      refine ⟨_, rfl, b, C, dx, _, rfl, S1 _ _ h1, T.cl, T.nP, by show 4 < 1000; decide, ?_⟩
      have B1 : But b H1 (upd H1 b (.ins C dx (dflds r0 r dd p2))) := but_upd
      show (_ : Ends → _ → _ → Prop) _ _ (upd H1 b (.ins C dx (dflds r0 r dd p2)))
      have e2 : upd H1 b (.ins C dx (dflds r0 r dd p2)) b = some (.ins C dx (dflds r0 r dd p2)) := upd_same
      generalize upd H1 b (.ins C dx (dflds r0 r dd p2)) = H2 at B1 e2 ⊢
      have ha2 : H2 a = some (deedO d) := B1 _ _ (nb ha) (S1 _ _ ha)
      have h32 : H2 r = some (rowsO rs) := B1 _ _ (nb h3) (S1 _ _ h3)
      refine ⟨_, rfl, b, C, dx, _, .ref r, rfl, e2, T.cl, T.nR, rfl, _, rfl, r, a, rs, d, rfl, h32, ha2, l1, fun H3 q S3 h3q => ?_⟩
      have e3 := S3 _ _ e2
      refine ⟨_, rfl, b, C, dx, _, rfl, e3, T.cl, T.nR, by show 4 < 1000; decide, ?_⟩
      show (_ : Ends → _ → _ → Prop) _ _ (upd H3 b (.ins C dx (dflds r0 q dd p2)))
      have B4 : But b H3 (upd H3 b (.ins C dx (dflds r0 q dd p2))) := but_upd
      have e4 : upd H3 b (.ins C dx (dflds r0 q dd p2)) b = some (.ins C dx (dflds r0 q dd p2)) := upd_same
      generalize upd H3 b (.ins C dx (dflds r0 q dd p2)) = H4 at B4 e4 ⊢
      have all4 : But b H H4 := (((But.of_same S1).trans B1).trans (But.of_same S3)).trans B4
      refine ⟨_, rfl, b, C, dx, _, .ref dd, rfl, e4, T.cl, T.nD, rfl, dd, _, rfl, .inl (SqT.of (all4 _ _ (nb h4) h4)), _, rfl, ?_, fun d2 hd2 => ?_⟩
      · rw [sizeLine_eq, List.length_append, List.length_map, h5.1]
        show ds.length + 1 ≤ _
        omega
      have S5 : Same H4 (upd H4 d2 (.tup (das.map V.ref ++ [.ref a]))) := same_upd hd2
      have e5 : upd H4 d2 (.tup (das.map V.ref ++ [.ref a])) d2 = some (.tup ((das ++ [a]).map V.ref)) := by rw [upd_same, List.map_append]; rfl
      have nd2 : d2 ≠ b := fun z => by rw [z, e4] at hd2; cases hd2
      generalize upd H4 d2 (.tup (das.map V.ref ++ [.ref a])) = H5 at S5 e5 ⊢
      refine ⟨_, rfl, b, C, dx, _, rfl, S5 _ _ e4, T.cl, T.nD, by show 4 < 1000; decide, ?_⟩
      have all5 : But b H (upd H5 b (.ins C dx (dflds r0 q d2 p2))) := (all4.trans (But.of_same S5)).trans but_upd
      have nq : q ≠ b := fun z => by
        rw [z, e3] at h3q
        cases h3q
      refine k2 hb _ all5 ⟨dx, r0, q, d2, p2, das ++ [a], pas ++ [r], upd_same, all5 _ _ (nb h2) h2, ?_, ?_, ?_, ?_, ?_⟩
      · rw [upd_ne nq]
        exact S5 _ _ (B4 _ _ nq h3q)
      · rw [upd_ne nd2]
        exact e5
      · exact (h5.but all5 fun x z => by rw [h1] at z; cases z).app (AllAt.one (all5 _ _ (nb ha) ha))
      · rw [upd_ne np2b]
        exact S5 _ _ (B4 _ _ np2b (S3 _ _ (B1 _ _ np2b e1)))
      · exact (h7.but all5 fun x z => by rw [h1] at z; cases z).app (AllAt.one (all5 _ _ (nb h3) h3))
end
end K11

/-! The desk: undo. -/
namespace K11
open PySem PySem.Spec C8 Xo Yo
open L2 hiding Fun CX0 pass0 E0
open TL (tl)
open StX (pa_star)
section
variable {P : Program} {w : World} {K : PySem.W.Frag} {mg : Str → Option Value} {base : Heap} {f f1 f2 f3 C CT CB : Addr} {fd fd1 fd2 fd3 : FuncData}
theorem AllAt.snoc {α : Type} {f : α → HO} {H : Hp} {as : List Addr} {xs : List α} {x : α} (h : AllAt f H as (xs ++ [x])) : ∃ as' a, as = as' ++ [a] ∧ AllAt f H as' xs ∧ H a = some (f x) := by
  have hl : as.length = xs.length + 1 := by
    have := h.1
    simpa using this
  have hne : as ≠ [] := fun z => by rw [z] at hl; simp at hl
  refine ⟨as.dropLast, as.getLast hne, (List.dropLast_concat_getLast hne).symm, ⟨by rw [List.length_dropLast]; omega, fun i a y h1 h2 => ?_⟩, ?_⟩
  · have hi : i < xs.length := (List.getElem?_eq_some_iff.mp h2).1
    refine h.2 i a y ?_ ?_
    · rw [List.getElem?_dropLast] at h1
      rw [if_pos (by omega)] at h1
      exact h1
    · rw [List.getElem?_append_left hi]
      exact h2
  · refine h.2 xs.length _ x ?_ ?_
    · rw [List.getLast_eq_getElem, ← List.getElem?_eq_getElem]
      congr 1
      omega
    · simp
theorem cutV_last {α : Type} (xs : List α) (g : α → V) (x : α) : cutV ((xs ++ [x]).map g) none (some (-1)) = xs.map g := by
  have hm : (xs ++ [x]).map g ≠ [] := by simp
  have e := cut_last _ hm
  unfold cutV
  rw [e, List.map_append]
  exact List.dropLast_concat
abbrev sUndo : Stmt := inClass (top 201) 3
def spUndo (C : Addr) : Sp := fun vs H Q _ => ∃ (b : Addr) (beg rs : List Str) (ds : List Dd) (ps : List (List Str)), vs = [.ref b] ∧ DeskAt C H b beg rs ds ps ∧ ds.length = ps.length ∧ Dok ds ∧
  (ds = [] → ∀ H', Same H H' → Q (.bl false) H') ∧
  (∀ ds' d ps' pr, ds = ds' ++ [d] → ps = ps' ++ [pr] → ∀ H', But b H H' → DeskAt C H' b beg pr ds' ps' → Q (.bl true) H')
theorem scUndo : FnScope ["self"] ["self"] (fnScope sUndo) := fnScope_by (by decide +kernel)
theorem ok_undo (T : DkC K C) (F : Fun K "undo" "Desk.undo" sUndo f fd) : FnOk P w K mg base CX0 1 f fd ["self"] (spUndo C) := by
  refine fn0 F scUndo (fun vs H Q E h => ?_) (fun cdv A outer s H vs Q E hr h => ?_)
  · obtain ⟨b, _, _, _, _, rfl, _⟩ := h
    rfl
  · obtain ⟨b, beg, rs, ds, ps, rfl, hD, hl, od, k1, k2⟩ := h
    refine ⟨_, pss_cons (ps_if (pt_cmpR (op_eqD hr.units) (pe_fld (pv 0) rfl) (pe_tup pa_nil) (nomark _)) (pss_one (ps_ret pe_bl)) pss_nil)
      (pss_cons (ps_fld (pv 0) (pe_ix ix_tup (pe_fld (pv 0) rfl) (pe_un un_neg pe_int) (fun _ _ => rfl)) rfl)
        (pss_cons (ps_fld (pv 0) (pe_slice sl_tupA (pe_fld (pv 0) rfl) po_none (po_some (pe_un un_neg pe_int))) rfl)
          (pss_cons (ps_fld (pv 0) (pe_slice sl_tupA (pe_fld (pv 0) rfl) po_none (po_some (pe_un un_neg pe_int))) rfl) (pss_one (ps_ret pe_bl))))), ?_⟩
    obtain ⟨dx, r0, r, dd, p, das, pas, h1, h2, h3, h4, h5, h6, h7⟩ := hD
    refine ⟨_, rfl, b, C, dx, _, .ref dd, rfl, h1, T.cl, T.nD, rfl, by rw [sizeLine_eq]; exact Nat.zero_le _, fun e he => ?_⟩
    have S0 : Same H (upd H e (.tup [])) := same_upd he
    have e0 : upd H e (.tup []) e = some (.tup []) := upd_same
    generalize upd H e (.tup []) = H0 at S0 e0 ⊢
    refine ⟨deedsD ds, deedsD [], dp_deeds (S0 _ _ h4) (h5.same S0), .tup (SqT.of e0) .nil, deedsD_shaped od, deedsD_shaped fun _ h => absurd h List.not_mem_nil, _, rfl, ?_⟩
    rw [deedsD_eqv]
    by_cases hd : ds = []
    · rw [decide_eq_true hd]
      exact iteT (k1 hd _ S0)
    · rw [decide_eq_false hd]
      refine iteF ?_
      have hp : ps ≠ [] := fun z => hd (List.length_eq_zero_iff.mp (by rw [hl, z]; rfl))
      have ed := (List.dropLast_concat_getLast hd).symm
      have ep := (List.dropLast_concat_getLast hp).symm
      generalize ds.dropLast = ds' at ed
      generalize ds.getLast hd = d at ed
      generalize ps.dropLast = ps' at ep
      generalize ps.getLast hp = pr at ep
      have k := k2 ds' d ps' pr ed ep
      subst ed
      subst ep
      obtain ⟨das', da, rfl, h5', h5a⟩ := h5.snoc
      obtain ⟨pas', pa, rfl, h7', h7a⟩ := h7.snoc
      have nb : ∀ {q : Addr} {xs : List V}, H q = some (.tup xs) → q ≠ b := fun {q xs} e z => by
        rw [z, h1] at e
        cases e
      have f1 : atI ((pas' ++ [pa]).map V.ref) (-1) = some (.ref pa) := by
        rw [List.map_append]
        exact atI_last _ _
      refine ⟨_, rfl, b, C, dx, _, .ref p, rfl, S0 _ _ h1, T.cl, T.nP, rfl, 1, rfl, p, _, _, _, rfl, rfl, SqT.of (S0 _ _ h6), f1, ?_⟩
      refine ⟨_, rfl, b, C, dx, _, rfl, S0 _ _ h1, T.cl, T.nR, by show 4 < 1000; decide, ?_⟩
      show (_ : Ends → _ → _ → Prop) _ _ (upd H0 b (.ins C dx (dflds r0 pa dd p)))
      have B1 : But b H0 (upd H0 b (.ins C dx (dflds r0 pa dd p))) := but_upd
      have e1 : upd H0 b (.ins C dx (dflds r0 pa dd p)) b = some (.ins C dx (dflds r0 pa dd p)) := upd_same
      generalize upd H0 b (.ins C dx (dflds r0 pa dd p)) = H1 at B1 e1 ⊢
      have all1 : But b H H1 := (But.of_same S0).trans B1
      refine ⟨_, rfl, b, C, dx, _, .ref p, rfl, e1, T.cl, T.nP, rfl, 1, rfl, -1, rfl, ?_⟩
      refine sl_some (K := K) (all1 _ _ (nb h6) h6) fun H2 p2 S2 h2p => ?_
      rw [cutV_last] at h2p
      have np2 : p2 ≠ b := fun z => by
        rw [z, S2 _ _ e1] at h2p
        cases h2p
      refine ⟨_, rfl, b, C, dx, _, rfl, S2 _ _ e1, T.cl, T.nP, by show 4 < 1000; decide, ?_⟩
      show (_ : Ends → _ → _ → Prop) _ _ (upd H2 b (.ins C dx (dflds r0 pa dd p2)))
      have B3 : But b H2 (upd H2 b (.ins C dx (dflds r0 pa dd p2))) := but_upd
      have e3 : upd H2 b (.ins C dx (dflds r0 pa dd p2)) b = some (.ins C dx (dflds r0 pa dd p2)) := upd_same
      generalize upd H2 b (.ins C dx (dflds r0 pa dd p2)) = H3 at B3 e3 ⊢
      have all3 : But b H H3 := (all1.trans (But.of_same S2)).trans B3
      refine ⟨_, rfl, b, C, dx, _, .ref dd, rfl, e3, T.cl, T.nD, rfl, 1, rfl, -1, rfl, ?_⟩
      refine sl_some (K := K) (all3 _ _ (nb h4) h4) fun H4 d2 S4 h4d => ?_
      rw [cutV_last] at h4d
      have nd2 : d2 ≠ b := fun z => by
        rw [z, S4 _ _ e3] at h4d
        cases h4d
      refine ⟨_, rfl, b, C, dx, _, rfl, S4 _ _ e3, T.cl, T.nD, by show 4 < 1000; decide, ?_⟩
      have all5 : But b H (upd H4 b (.ins C dx (dflds r0 pa d2 p2))) := (all3.trans (But.of_same S4)).trans but_upd
      refine k _ all5 ⟨dx, r0, pa, d2, p2, das', pas', upd_same, all5 _ _ (nb h2) h2, all5 _ _ (nb h7a) h7a, ?_, ?_, ?_, ?_⟩
      · rw [upd_ne nd2]
        exact h4d
      · exact h5'.but all5 fun x z => by rw [h1] at z; cases z
      · rw [upd_ne np2]
        exact S4 _ _ (B3 _ _ np2 h2p)
      · exact h7'.but all5 fun x z => by rw [h1] at z; cases z
end
end K11

/-! The drawing of the law: court, call, one of; like. -/
namespace K11
open PySem PySem.Spec C8 Xo Yo
open L2 hiding Fun CX0 pass0 E0
abbrev sCourt : Stmt := top 203
abbrev sCall : Stmt := top 204
abbrev sOne : Stmt := top 205
abbrev sLike : Stmt := top 206
def crt (r h : Int) : HO := .dK [(.inr "roll", .int r), (.inr "heap", .int h)]
def Crt (r h : Int) : Prop := 0 ≤ r ∧ r < 2305843009213693951 ∧ 0 ≤ h
def spCall : Sp := fun vs H Q _ => ∃ (c : Addr) (r h m : Int), vs = [.ref c, .int m] ∧ H c = some (crt r h) ∧ Crt r h ∧ 0 < m ∧ m < 1073741824 ∧
  ∀ (H' : Hp) (v r' h' : Int), But c H H' → H' c = some (crt r' h') → Crt r' h' → 0 ≤ v → v < m → Q (.int v) H'
def spOne (K : PySem.W.Frag) : Sp := fun vs H Q _ => ∃ (c l : Addr) (r h : Int) (xs : List V), vs = [.ref c, .ref l] ∧ H c = some (crt r h) ∧ Crt r h ∧ H l = some (.lst xs) ∧ 0 < xs.length ∧ xs.length < 1000 ∧
  ∀ (H' : Hp) (i : Nat) (v : V) (r' h' : Int), But c H H' → H' c = some (crt r' h') → Crt r' h' → xs[i]? = some v → Q v H'

theorem get_heap {H : Hp} {c : Addr} {r h : Int} (e : H c = some (crt r h)) : DGet H c (.str "heap") (some (.int h)) := by
  have q := DGet.k (k := .inr "heap") e
  exact q
theorem get_roll {H : Hp} {c : Addr} {r h : Int} (e : H c = some (crt r h)) : DGet H c (.str "roll") (some (.int r)) := by
  have q := DGet.k (k := .inr "roll") e
  exact q
theorem put_heap {H : Hp} {c : Addr} {r h v : Int} (e : H c = some (crt r h)) : DPut H c (.str "heap") (.int v) (upd H c (crt r v)) := by
  have q := DPut.k (k := .inr "heap") (v := .int v) e (by rw [sizeLine_eq]; show 2 < _; omega)
  exact q
theorem put_roll {H : Hp} {c : Addr} {r h v : Int} (e : H c = some (crt r h)) : DPut H c (.str "roll") (.int v) (upd H c (crt v h)) := by
  have q := DPut.k (k := .inr "roll") (v := .int v) e (by rw [sizeLine_eq]; show 2 < _; omega)
  exact q
section
variable {P : Program} {w : World} {K : PySem.W.Frag} {mg : Str → Option Value} {base : Heap}
theorem scCall : FnScope ["court", "many", "number"] ["court", "many"] (fnScope sCall) := fnScope_by (by decide +kernel)
theorem ok_call {f : Addr} {fd : FuncData} (F : Fun K "_law_call" "_law_call" sCall f fd) (mD : mg "divmod" = none) (mI : mg "int" = none) : FnOk P w K mg base CX0 1 f fd ["court", "many"] spCall := by
  refine fn0 F scCall (fun vs H Q E h => ?_) (fun cdv A outer s H vs Q E hr h => ?_)
  · obtain ⟨c, r, h, m, rfl, _⟩ := h
    rfl
  · obtain ⟨c, r, h, m, rfl, hc, ⟨r0, r1, h0⟩, m0, m1, k⟩ := h
    refine ⟨_, pss_cons (ps_if (pt_cmpR op_gt (pe_dget (u1 hr) (pv 0) pe_str (fun _ _ => rfl)) pe_int (nomark _))
        (pss_cons (ps_asg (pe_callB call_divmod rfl mD PyProof.Rows.boot_divmod (pa_cons (pe_dget (u1 hr) (pv 0) pe_str (fun _ _ => rfl)) (pa_cons (pv 1) pa_nil)))
            (pg_tup rfl (pgs_cons (pg_sub (pv 0) pe_str (set_dict (u1 hr))) (pgs_cons (pg_name (i := 2) scCall.nd rfl (Or.inl rfl)) pgs_nil))))
          (pss_one (ps_ret (pv 2)))) pss_nil)
      (pss_cons (ps_asg (pe_op op_mod (pe_callTy call_int1 rfl mI PyProof.Rows.boot_int (pa_cons (pe_op op_add (pe_op op_mul (pe_dget (u1 hr) (pv 0) pe_str (fun _ _ => rfl)) pe_int) pe_int) pa_nil)) pe_int)
            (pg_sub (pv 0) pe_str (set_dict (u1 hr))))
        (pss_one (ps_ret (pe_op op_mod (pe_callTy call_int1 rfl mI PyProof.Rows.boot_int (pa_cons (pe_op op_fdiv (pe_dget (u1 hr) (pv 0) pe_str (fun _ _ => rfl)) pe_int) pa_nil)) (pv 1))))), ?_⟩
    refine ⟨.ref c, rfl, c, .int h, rfl, get_heap hc, h, 0, rfl, rfl, _, rfl, ?_⟩
    refine ite2 (fun hpos => ?_) (fun _ => ?_)
    · have hp : 0 < h := of_decide_eq_true hpos
      refine ⟨.ref c, rfl, c, .int h, rfl, get_heap hc, _, rfl, h, m, rfl, ⟨m0, m1⟩, fun p hp0 => ?_⟩
      have ncp : c ≠ p := ne_of_none hc hp0
      have hc1 : upd H p (.tup [.int (h / m), .int (h % m)]) c = some (crt r h) := by rw [upd_ne ncp]; exact hc
      refine ⟨p, _, rfl, SqT.of upd_same, rfl, _, _, rfl, .ref c, rfl, c, _, rfl, put_heap hc1, _, _, rfl, rfl, _, rfl, ?_⟩
      refine k _ (h % m) r (h / m) ((But.of_same (same_upd hp0)).trans but_upd) upd_same ⟨r0, r1, Int.ediv_nonneg h0 (by omega)⟩ (Int.emod_nonneg _ (by omega)) (Int.emod_lt_of_pos _ m0)
    · refine ⟨.ref c, rfl, c, _, rfl, get_roll hc, r, 2862933555777941757, rfl, rfl, .inl ⟨by omega, by omega⟩, _, 3037000493, rfl, rfl, .inl ⟨_, rfl, _, 2305843009213693951, rfl, rfl, (by show (0 : Int) < 2305843009213693951; decide), .ref c, rfl, c, _, rfl, put_roll hc, ?_⟩⟩
      have hc1 : upd H c (crt ((r * 2862933555777941757 + 3037000493) % 2305843009213693951) h) c = _ := upd_same
      refine ⟨.ref c, rfl, c, _, rfl, get_roll hc1, _, 50021, rfl, rfl, ⟨by decide, by decide⟩, .inl ⟨_, rfl, _, rfl, _, m, rfl, rfl, m0, ?_⟩⟩
      exact k _ _ _ h but_upd upd_same ⟨Int.emod_nonneg _ (by decide), Int.emod_lt_of_pos _ (by decide), h0⟩ (Int.emod_nonneg _ (by omega)) (Int.emod_lt_of_pos _ m0)

theorem scOne : FnScope ["court", "some"] ["court", "some"] (fnScope sOne) := fnScope_by (by decide +kernel)
theorem ok_one {f fc : Addr} {fd fdc : FuncData} (F : Fun K "_law_one_of" "_law_one_of" sOne f fd) (FC : FnOk P w K mg base CX0 1 fc fdc ["court", "many"] spCall) (mC : mg "_law_call" = some (.ref fc)) (kC : PySem.W.keepIn K (.ref fc) = true) (bC : Binds K fdc ["court", "many"] []) (mL : mg "len" = none) :
    FnOk P w K mg base CX0 2 f fd ["court", "some"] (spOne K) := by
  refine fn0 F scOne (fun vs H Q E h => ?_) (fun cdv A outer s H vs Q E hr h => ?_)
  · obtain ⟨c, l, r, h, xs, rfl, _⟩ := h
    rfl
  · obtain ⟨c, l, r, h, xs, rfl, hc, hC, hl, l0, l1, k⟩ := h
    refine ⟨_, pss_one (ps_ret (pe_ix ix_list (pv 1) (pe_call FC hr rfl mC kC bC .nil (pass0 (E := C8.E0)) (pa_cons (pv 0) (pa_cons (pe_callB call_len_seq (by rfl) mL PySem.boot_len (pa_cons (pv 1) pa_nil)) pa_nil))) (fun _ _ => rfl))), ?_⟩
    refine ⟨.ref l, rfl, .ref c, rfl, .ref l, rfl, l, xs, rfl, .inl (SqL.of hl), c, r, h, _, rfl, hc, hC, by omega, by omega, fun H' v r' h' bt hc' hC' v0 v1 => ?_⟩
    have nlc : l ≠ c := ne_of hl hc (by intro q; cases q)
    have hl' := bt _ _ nlc hl
    obtain ⟨i, rfl⟩ : ∃ i : Nat, v = i := ⟨v.toNat, by omega⟩
    have hi : i < xs.length := by omega
    exact ⟨l, xs, _, xs[i], rfl, rfl, SqL.of hl', atI_nat (List.getElem?_eq_getElem hi), k _ i _ _ _ bt hc' hC' (List.getElem?_eq_getElem hi)⟩

/-! ### the court -/
theorem cut_ints (ns : List Int) (lo hi : Option Int) : ∃ ms : List Int, cutV (ns.map V.int) lo hi = ms.map V.int ∧ ms.length ≤ ns.length := by
  refine ⟨(ns.drop (HT.sIx ns.length 0 lo)).take (HT.sIx ns.length ns.length hi - HT.sIx ns.length 0 lo), ?_, ?_⟩
  · unfold cutV
    rw [List.length_map, List.map_take, List.map_drop]
  · rw [List.length_take, List.length_drop]
    omega
theorem dp_ints {K : PySem.W.Frag} {H : Hp} : ∀ ns : List Int, DpAll K H (ns.map V.int) (ns.map PyData.int)
  | [] => .nil
  | n :: r => .cons (.int n) (dp_ints r)
theorem ints_at {ms : List Int} {i : Nat} {y : V} (h : (ms.map V.int)[i]? = some y) : ∃ n, y = V.int n := by
  rw [List.getElem?_map] at h
  cases e : ms[i]? with
  | none => rw [e] at h; cases h
  | some u => rw [e] at h; exact ⟨u, (Option.some.inj h).symm⟩
theorem shaped_ints (ns : List Int) : SeqAt.shaped (.list (ns.map PyData.int)) = true := by
  have h1 : ∀ ns : List Int, PyData.canLayAll0 (ns.map PyData.int) = true := fun ns => by
    induction ns with
    | nil => rfl
    | cons n r ih => show (true && PyData.canLayAll0 (r.map PyData.int)) = true; rw [ih]; rfl
  have h2 : ∀ ns : List Int, PyData.depthAll (ns.map PyData.int) = 0 := fun ns => by
    induction ns with
    | nil => rfl
    | cons n r ih => show max 0 (PyData.depthAll (r.map PyData.int)) = 0; rw [ih]; rfl
  have h3 : PyData.depth (.list (ns.map PyData.int)) ≤ 64 := by
    simp only [PyData.depth, h2]
    omega
  show (PyData.canLayAll0 (ns.map PyData.int) && decide (PyData.depth (.list (ns.map PyData.int)) ≤ 64)) = true
  rw [h1, decide_eq_true h3]
  rfl
def spCourt (K : PySem.W.Frag) : Sp := fun vs H Q _ => ∃ (a : Addr) (seat : Int) (ns : List Int), vs = [.ref a, .int seat] ∧ SqL K H a (ns.map V.int) ∧ ns.length ≤ 63 ∧ 0 ≤ seat ∧ seat ≤ 1 ∧
  ∀ (H' : Hp) (c : Addr) (r h : Int), Same H H' → H c = none → H' c = some (crt r h) → Crt r h → Q (.ref c) H'
theorem scCourt : FnScope ["cells", "seat", "roll", "nth", "cell", "own"] ["cells", "seat"] (fnScope sCourt) := fnScope_by (by decide +kernel)
theorem ok_court {f : Addr} {fd : FuncData} (F : Fun K "_law_court" "_law_court" sCourt f fd) (mE : mg "enumerate" = none) (mL : mg "list" = none) (mI : mg "int" = none) (mA : mg "abs" = none) :
    FnOk P w K mg base CX0 1 f fd ["cells", "seat"] (spCourt K) := by
  refine fn0 F scCourt (fun vs H Q E h => ?_) (fun cdv A outer s H vs Q E hr h => ?_)
  · obtain ⟨a, seat, ns, rfl, _⟩ := h
    rfl
  · obtain ⟨a, seat, ns, rfl, hS, hl, s0, s1, k⟩ := h
    refine ⟨_, pss_cons (ps_set (i := 2) scCourt.nd rfl (Or.inl rfl) (pe_op op_add pe_int (pe_op op_mul pe_int (pv 1))))
      (pss_cons (ps_for PassesOwn.never rfl (pi_enum (by rfl) mE (pa_cons (pe_slice sl_list (pe_callTy call_list_of rfl mL PyProof.Rows.boot_list (pa_cons (pv 0) pa_nil)) po_none (po_some pe_int)) pa_nil))
          (pg_tup rfl (pgs_cons (pg_name (i := 3) scCourt.nd rfl (Or.inl rfl)) (pgs_cons (pg_name (i := 4) scCourt.nd rfl (Or.inl rfl)) pgs_nil)))
          (pss_one (ps_set (i := 2) scCourt.nd rfl (Or.inl rfl) (pe_op op_mod (pe_callTy call_int1 rfl mI PyProof.Rows.boot_int (pa_cons (pe_op op_add (pe_op op_add (pe_op op_mul (pe_op op_add (pv 2) (pe_op op_mod (pe_callTy call_int1 rfl mI PyProof.Rows.boot_int (pa_cons (pv 4) pa_nil)) pe_int)) pe_int) (pe_op op_mul pe_int (pv 3))) pe_int) pa_nil)) pe_int))))
      (pss_cons (ps_setLc (i := 5) (own := [("cell", 4)]) (g := gName 4) rfl scCourt.nd rfl rfl (sw_true rfl rfl rfl (by decide +kernel)) (pi_list (pe_slice sl_list (pe_callTy call_list_of rfl mL PyProof.Rows.boot_list (pa_cons (pv 0) pa_nil)) (po_some (pv 1)) (po_some (pe_op op_add (pv 1) pe_int))))
          (blkOk_by (own := [("cell", 4)]) (N := ["cells", "seat", "roll", "nth", "cell", "own"]) (sc := fnScope sCourt) (by decide +kernel)) (fun _ _ _ _ _ => pg_name (i := 4) scCourt.nd rfl (Or.inl rfl))
          (fun _ _ _ _ _ => pts_one (pt_cmpR op_gt (pe_callB call_abs rfl mA PyProof.Rows.boot_abs (pa_cons (pe_callTy call_int1 rfl mI PyProof.Rows.boot_int (pa_cons (pv 4) pa_nil)) pa_nil)) (pe_op op_pow pe_int pe_int) (nomark _)))
          (fun _ _ _ _ _ => pe_callB call_abs rfl mA PyProof.Rows.boot_abs (pa_cons (pe_callTy call_int1 rfl mI PyProof.Rows.boot_int (pa_cons (pv 4) pa_nil)) pa_nil)))
      (pss_one (ps_ret (pe_disp (pps_cons pe_str (pv 2) (pps_cons pe_str (pe_ifExp (pt_cmpR (op_neD hr.units) (pv 5) (pe_lst pa_nil) (nomark _)) (pe_ix ix_list (pv 5) pe_int (fun _ _ => rfl)) pe_int) pps_nil)) rfl rfl (by simp) (by decide)))))), ?_⟩
    refine ⟨.int seat, rfl, 73, seat, rfl, rfl, .inl ⟨by omega, by omega⟩, 51061, _, rfl, rfl, ?_⟩
    refine ⟨.ref a, rfl, a, _, rfl, .inl hS, fun l hl0 => ⟨7, rfl, l, _, rfl, SqL.of upd_same, fun p hp0 => ?_⟩⟩
    obtain ⟨ms, em, lm⟩ := cut_ints ns none (some 7)
    rw [em]
    have S1 : Same H (upd (upd H l (.lst (ns.map V.int))) p (.lst (ms.map V.int))) := fun b o e => same_upd hp0 b o (same_upd hl0 b o e)
    generalize hH2 : upd (upd H l (.lst (ns.map V.int))) p (.lst (ms.map V.int)) = H2 at S1 ⊢
    have hp2 : H2 p = some (.lst (ms.map V.int)) := by rw [← hH2]; exact upd_same
    refine ⟨p, _, rfl, SqL.of hp2, for_it walk_enum (fun i σ H' => ∃ (r : Int) (v3 v4 : Option V), σ = [some (.ref a), some (.int seat), some (.int r), v3, v4, none] ∧ 0 ≤ r ∧ r < 2305843009213693951 ∧ Same H2 H')
      ⟨51061 + 73 * seat, none, none, rfl, by omega, by omega, fun _ _ e => e⟩ (fun i σ H' _ ⟨_, _, _, _, _, _, S⟩ => SqL.of (S _ _ hp2)) ?_ ?_⟩
    · rintro i v σ H3 H4 hi ⟨r, v3, v4, rfl, r0, r1, S⟩ ⟨T, x, y, rfl, hT, rfl, ex, ey⟩
      cases ex
      obtain ⟨n, rfl⟩ := ints_at ey
      refine ⟨T, _, rfl, SqT.of upd_same, rfl, _, _, rfl, _, _, rfl, rfl, ?_⟩
      refine ⟨.int r, rfl, .int n, rfl, .inl ⟨_, rfl, n, 122949833, rfl, rfl, (by show (0 : Int) < 122949833; decide), r, _, rfl, rfl, _, 2862933555777941757, rfl, rfl, .inr ⟨by decide, by decide⟩, ?_⟩⟩
      refine ⟨.int i, rfl, 15485863, i, rfl, rfl, .inl ⟨by decide, by decide⟩, _, _, rfl, rfl, _, 61, rfl, rfl, .inl ⟨_, rfl, _, 2305843009213693951, rfl, rfl, (by show (0 : Int) < 2305843009213693951; decide), ?_⟩⟩
      exact ⟨_, _, _, rfl, Int.emod_nonneg _ (by decide), Int.emod_lt_of_pos _ (by decide), fun b o e => same_upd hT b o (S b o e)⟩
    · rintro σ H3 ⟨r, v3, v4, rfl, r0, r1, S⟩
      -- own
      have S3 : Same H H3 := fun b o e => S b o (S1 b o e)
      refine ⟨.ref a, rfl, a, _, rfl, .inl (S3.seq hS), fun l2 hl2 => ⟨.int seat, rfl, seat, rfl, .int seat, rfl, seat, 1, rfl, rfl, _, rfl, l2, _, rfl, SqL.of upd_same, fun p2 hp3 => ?_⟩⟩
      obtain ⟨os, eo, lo⟩ := cut_ints ns (some seat) (some (seat + 1))
      rw [eo]
      have S4 : Same H (upd (upd H3 l2 (.lst (ns.map V.int))) p2 (.lst (os.map V.int))) := fun b o e => same_upd hp3 b o (same_upd hl2 b o (S3 b o e))
      generalize hH4 : upd (upd H3 l2 (.lst (ns.map V.int))) p2 (.lst (os.map V.int)) = H4 at S4 ⊢
      have hp4 : H4 p2 = some (.lst (os.map V.int)) := by rw [← hH4]; exact upd_same
      refine ⟨p2, rfl, ⟨_, SqL.of hp4⟩, fun D hD => ?_⟩
      refine lc_it walk_list (fun i H' => ∃ acc : List Int, H' D = some (.lst (acc.map V.int)) ∧ (∀ x ∈ acc, 0 ≤ x) ∧ acc.length ≤ i ∧ Same H4 H')
        ⟨[], upd_same, fun _ h => absurd h List.not_mem_nil, Nat.le_refl _, same_upd hD⟩ (fun i H' _ ⟨_, _, _, _, S⟩ => SqL.of (S _ _ hp4)) ?_ ?_
      · rintro i v H5 H6 hi ⟨acc, hacc, pos, la, S⟩ ⟨rfl, ev⟩
        obtain ⟨n, rfl⟩ := ints_at ev
        have hi' : i < 63 := by rw [List.length_map] at hi; omega
        refine ⟨rfl, .int n, rfl, .inl ⟨n, rfl, n, rfl, 10, 13, rfl, rfl, ⟨by decide, by decide, by decide⟩, _, _, rfl, rfl, _, rfl, ?_⟩⟩
        refine ite2 (fun _ => ?_) (fun _ => ⟨acc, hacc, pos, by omega, S⟩)
        refine ⟨.int n, rfl, .inl ⟨n, rfl, n, rfl, acc.map V.int, hacc, by rw [List.length_map, sizeLine_eq]; omega, acc ++ [if n < 0 then -n else n], ?_, ?_, ?_, ?_⟩⟩
        · rw [upd_same, List.map_append]
          rfl
        · intro x hx
          rcases List.mem_append.mp hx with hx | hx
          · exact pos x hx
          · rw [List.mem_singleton.mp hx]
            split <;> omega
        · rw [List.length_append, List.length_singleton]
          omega
        · intro b o e
          rw [upd_ne (ne_of_none e hD)]
          exact S b o e
      · rintro H5 ⟨acc, hacc, pos, la, S⟩
        have S5 : Same H H5 := fun b o e => S b o (S4 b o e)
        -- the dict
        refine fun c hc => ⟨.int r, rfl, .ref D, rfl, by rw [sizeLine_eq]; exact Nat.zero_le _, fun q hq => ?_⟩
        have nDc : D ≠ c := ne_of_none hacc hc
        have hDc : upd H5 c (.dK []) D = some (.lst (acc.map V.int)) := by rw [upd_ne nDc]; exact hacc
        have nDq : D ≠ q := ne_of_none hDc hq
        have ncq : c ≠ q := fun z => by rw [← z, upd_same] at hq; cases hq
        have hD6 : upd (upd H5 c (.dK [])) q (.lst []) D = some (.lst (acc.map V.int)) := by rw [upd_ne nDq]; exact hDc
        have hc6 : upd (upd H5 c (.dK [])) q (.lst []) c = some (.dK []) := by rw [upd_ne ncq]; exact upd_same
        have S6 : Same H (upd (upd (upd H5 c (.dK [])) q (.lst [])) c (crt r 0)) → True := fun _ => trivial
        have fin : ∀ h0 : Int, 0 ≤ h0 → Q (.ref c) (upd (upd (upd H5 c (.dK [])) q (.lst [])) c (crt r h0)) := fun h0 hp => by
          refine k _ c r h0 (fun b o e => ?_) ?_ upd_same ⟨r0, r1, hp⟩
          · have e5 := S5 _ _ e
            have nbc : b ≠ c := ne_of_none e5 hc
            have e6 : upd H5 c (.dK []) b = some o := by rw [upd_ne nbc]; exact e5
            rw [upd_ne nbc, upd_ne (ne_of_none e6 hq)]
            exact e6
          · cases z : H c with
            | none => rfl
            | some o => rw [S5 _ _ z] at hc; cases hc
        refine ⟨.list (acc.map PyData.int), .list [], .lst (SqL.of hD6) (dp_ints acc), .lst (SqL.of upd_same) .nil, shaped_ints acc, by decide, ?_⟩
        cases acc with
        | nil => exact ⟨false, rfl, hc6, [(.inr "roll", .int r), (.inr "heap", .int 0)], rfl, Nat.le_of_ble_eq_true rfl, fin 0 (by decide)⟩
        | cons n rest => exact ⟨true, rfl, .ref D, rfl, D, _, 0, .int n, rfl, rfl, SqL.of hD6, atI_nat (j := 0) rfl, hc6, [(.inr "roll", .int r), (.inr "heap", .int n)], rfl, Nat.le_of_ble_eq_true rfl, fin n (pos n List.mem_cons_self)⟩

end
end K11

/-! like; texts of rows. -/
namespace K11
open PySem PySem.Spec C8 Xo Yo
open L2 hiding Fun CX0 pass0 E0
open TL (tl)
section
variable {P : Program} {w : World} {K : PySem.W.Frag} {mg : Str → Option Value} {base : Heap}
def spLike : Sp := fun vs H Q _ => ∃ (v : V) (d : PyData), vs = [v, v] ∧ Dq H v d ∧ d.hasDict = false ∧ d.showable = true ∧ d.depth ≤ 60 ∧ d.shown.length ≤ sizeLine ∧ (∀ i : Int, v = .int i → i.natAbs.log2 < 1920) ∧ Q (.bl true) H
theorem scLike : FnScope ["seen", "due"] ["seen", "due"] (fnScope sLike) := fnScope_by (by decide +kernel)
theorem ok_like {f : Addr} {fd : FuncData} (F : Fun K "_law_like" "_law_like" sLike f fd) (mR : mg "repr" = none) : FnG P w K mg base 1 f fd ["seen", "due"] spLike := by
  refine fnG F scLike (fun vs H Q E h => ?_) (fun cdv A outer s H vs Q E hG hr h => ?_)
  · obtain ⟨v, d, rfl, _⟩ := h
    rfl
  · obtain ⟨v, d, rfl, h1, h2, h3, h4, h5, h6, k⟩ := h
    refine ⟨_, pss_one (ps_ret (pe_cmpR op_eq (pe_callB (call_repV hG hr.units) rfl mR PyProof.Rows.boot_repr (pa_cons (pv 0) pa_nil)) (pe_callB (call_repV hG hr.units) rfl mR PyProof.Rows.boot_repr (pa_cons (pv 1) pa_nil)) (nomark _))), ?_⟩
    refine ⟨v, rfl, v, d, rfl, h1, h2, h3, h4, h5, h6, v, rfl, v, d, rfl, h1, h2, h3, h4, h5, h6, rfl, ?_⟩
    rw [decide_eq_true rfl]
    exact k
end
/-! ### texts of rows -/
/-- the rows, each with a line end -/
def unl (rs : List Str) : Str := Txt.join nl (rs ++ [Str.empty])
theorem tl_ext {x y : Str} (h : tl x = tl y) : x = y := TL.ext_tl h
theorem tl_unl : ∀ rs : List Str, tl (unl rs) = rs.flatMap fun r => tl r ++ [10] := by
  intro rs
  unfold unl
  rw [TL.join_eq, TL.tl_join, List.map_append, tl_nl]
  show TL.joinL [10] (rs.map tl ++ [[]]) = _
  induction rs with
  | nil => rfl
  | cons r rs ih =>
    cases rs with
    | nil =>
      show tl r ++ ([10] ++ []) = _
      simp
    | cons q rs =>
      show tl r ++ ([10] ++ TL.joinL [10] ((q :: rs).map tl ++ [[]])) = _
      rw [ih, ← List.append_assoc]
      rfl
theorem unl_snoc (rs : List Str) (r : Str) : unl rs ++ r ++ nl = unl (rs ++ [r]) := by
  refine tl_ext ?_
  rw [TL.tl_append, TL.tl_append, tl_unl, tl_unl, List.flatMap_append, tl_nl, List.append_assoc]
  simp
/-- "".join([row + "\n" ..]) -/
theorem join_nl (rs : List Str) : Txt.join Str.empty (rs.map (· ++ nl)) = unl rs := by
  refine tl_ext ?_
  rw [tl_unl, TL.join_eq, TL.tl_join, List.map_map]
  have e : ∀ rs : List Str, TL.joinL (tl Str.empty) (rs.map (tl ∘ (· ++ nl))) = rs.flatMap fun r => tl r ++ [10] := by
    intro rs
    induction rs with
    | nil => rfl
    | cons r rs ih =>
      cases rs with
      | nil =>
        show tl (r ++ nl) = _
        rw [TL.tl_append, tl_nl]
        simp
      | cons q rs =>
        show tl (r ++ nl) ++ (tl Str.empty ++ TL.joinL (tl Str.empty) ((q :: rs).map (tl ∘ (· ++ nl)))) = _
        rw [ih, List.flatMap_cons, TL.tl_append, tl_nl]
        rfl
  exact e rs
theorem parts_unl {rs : List Str} (h : ∀ r ∈ rs, 10 ∉ tl r) : Parts (unl rs) (rs ++ [Str.empty]) := by
  refine ⟨by simp, rfl, fun p hp => ?_⟩
  rcases List.mem_append.mp hp with hp | hp
  · exact h p hp
  · rw [List.mem_singleton.mp hp]
    exact List.not_mem_nil
theorem rowsP_unl (rs : List Str) : rowsP (rs ++ [Str.empty]) = rs := by
  unfold rowsP
  rw [dif_pos (by simp)]
  unfold rowsE
  rw [List.getLast_concat, if_pos rfl, List.append_nil, List.dropLast_concat, List.map_map]
  exact List.map_id rs
theorem len_unl (rs : List Str) {k : Nat} (h : ∀ r ∈ rs, r.length ≤ k) : (unl rs).length ≤ rs.length * (k + 1) := by
  have e : (unl rs).length = (tl (unl rs)).length := rfl
  rw [e, tl_unl]
  induction rs with
  | nil => simp
  | cons r rs ih =>
    rw [List.flatMap_cons, List.length_append, List.length_append, List.length_cons]
    have h1 : (tl r).length ≤ k := h r List.mem_cons_self
    have h2 := ih (fun q hq => h q (List.mem_cons_of_mem _ hq)) rfl
    have h3 : (rs.length + 1) * (k + 1) = rs.length * (k + 1) + (k + 1) := by rw [Nat.add_mul, Nat.one_mul]
    rw [List.length_cons, h3, List.length_nil]
    omega
end K11

/-! The text of a small book. -/
namespace K11
open PySem PySem.Spec C8 Xo Yo
open L2 hiding Fun CX0 pass0 E0
open TL (tl)
/-! ### a dict of texts -/
abbrev rAddS : R2 := fun x y H Q => ∃ i j, x = .str i ∧ y = .str j ∧ i.length + j.length ≤ sizeLine ∧ Q (.str (i ++ j)) H
def Tab (H : Hp) (d : Addr) (n : Nat) (g : Str → Option Str) : Prop := ∃ kvs : List (Key × V), H d = some (.dK kvs) ∧ kvs.length ≤ n ∧ ∀ k : Str, valV kvs (Sum.inr k) = (g k).map V.str
theorem tab_put {H : Hp} {d : Addr} {n : Nat} {g : Str → Option Str} (T : Tab H d n g) {k v : Str} (hn : n < 1000) : ∃ H', DPut H d (.str k) (.str v) H' ∧ Tab H' d (n + 1) (fun j => if j = k then some v else g j) ∧ But d H H' := by
  obtain ⟨kvs, e, hl, hv⟩ := T
  refine ⟨_, DPut.k (k := Sum.inr k) (v := .str v) e (by rw [sizeLine_eq]; omega), ⟨_, upd_same, by have := length_putK kvs (Sum.inr k) (V.str v); omega, fun j => ?_⟩, but_upd⟩
  rw [valV_put]
  by_cases h : j = k
  · rw [if_pos (congrArg Sum.inr h)]
    show _ = (if j = k then some v else g j).map V.str
    rw [if_pos h]
    rfl
  · rw [if_neg fun z => h (Sum.inr.inj z)]
    show _ = (if j = k then some v else g j).map V.str
    rw [if_neg h]
    exact hv j
theorem tab_get {H : Hp} {d : Addr} {n : Nat} {g : Str → Option Str} (T : Tab H d n g) {k v : Str} (h : g k = some v) : DGet H d (.str k) (some (.str v)) := by
  obtain ⟨kvs, e, _, hv⟩ := T
  have q := DGet.k (k := Sum.inr k) e
  rw [hv k, h] at q
  exact q
def s_0 : Str := ("judge bare of t with x/case v n : if same n x then yes else no/else no" : Str)
def s_bare : Str := ("/case v n : if same n x then yes else no" : Str)
def s_1 : Str := ((("judge head of t with x" : Str) ++ s_bare) ++ ("/case p a b : if head a x then yes else no" : Str))
def s_2 : Str := (s_1 ++ ("/case l [y] b : if head b x then yes else no" : Str))
def s_3 : Str := ((("judge one of t with x" : Str) ++ s_bare) ++ ("/case l [y] b : if one b x then yes else no/case p a b : " : Str))
def s_4 : Str := (s_3 ++ ("if free a x then if free b x then no else if one a x then yes else no else " : Str))
def s_5 : Str := (s_4 ++ ("if one b x then yes else no" : Str))
def s_6 : Str := ("judge lin of t/case v n : yes/case p a b : if lin a then if lin b then yes else no else no" : Str)
def s_7 : Str := (s_6 ++ ("/case l [y] b : if one b y then if lin b then yes else no else no" : Str))
def s_8 : Str := ("judge used of t/case v n : yes/case p a b : if used a then if used b then yes else no else no" : Str)
def s_9 : Str := (s_8 ++ ("/case l [y] b : if free b y then if used b then yes else no else no" : Str))
def s_10 : Str := ("judge deep of t/case v n : no/case p a b : if deep a then yes else if deep b then yes else no" : Str)
def s_11 : Str := (s_10 ++ ("/case l [y] b : yes" : Str))
def s_12 : Str := ("judge any of t with x/case v n : yes/case p a b : if any a x then if any b x then yes else no " : Str)
def s_13 : Str := (s_12 ++ ("else no" : Str))
def s_14 : Str := (s_13 ++ ("/case l [y] b : if any b x then yes else no" : Str))
def s_15 : Str := ("turner id of t to t/case v n : v n/case p a b : p id a id b/case l [y] b : l [y] id b" : Str)
def s_16 : Str := ("turner flip of t to t/case v n : v n/case p a b : p flip b flip a/case l [y] b : l [y] flip b" : Str)
def s_17 : Str := ("turner drp of t to t/case v n : v n/case p a b : p drp a drp b" : Str)
def s_18 : Str := (s_17 ++ ("/case l [y] b : if free b y then l [y] drp b else drp b" : Str))
def s_19 : Str := ("turner strip of t to t/case v n : v n/case p a b : p strip a strip b/case l [y] b : strip b" : Str)
def s_20 : Str := ("turner dup of t to t/case v n : v n/case p a b : p dup a dup a/case l [y] b : l [y] dup b" : Str)
def s_21 : Str := ("turner wrap of t to t/case v n : l [z] p v n v z/case p a b : p wrap a wrap b" : Str)
def s_22 : Str := (s_21 ++ ("/case l [y] b : l [y] wrap b" : Str))
def s_23 : Str := ("turner half of t to t/case v n : v n/case p a b : p half a half b" : Str)
def s_24 : Str := (s_23 ++ ("/case l [y] b : if head b y then l [y] half b else half b" : Str))
def g_0 : Str → Option Str := fun j => if j = ("bare" : Str) then some s_0 else none
def g_1 : Str → Option Str := fun j => if j = ("head" : Str) then some s_1 else g_0 j
def g_2 : Str → Option Str := fun j => if j = ("head" : Str) then some s_2 else g_1 j
def g_3 : Str → Option Str := fun j => if j = ("one" : Str) then some s_3 else g_2 j
def g_4 : Str → Option Str := fun j => if j = ("one" : Str) then some s_4 else g_3 j
def g_5 : Str → Option Str := fun j => if j = ("one" : Str) then some s_5 else g_4 j
def g_6 : Str → Option Str := fun j => if j = ("lin" : Str) then some s_6 else g_5 j
def g_7 : Str → Option Str := fun j => if j = ("lin" : Str) then some s_7 else g_6 j
def g_8 : Str → Option Str := fun j => if j = ("used" : Str) then some s_8 else g_7 j
def g_9 : Str → Option Str := fun j => if j = ("used" : Str) then some s_9 else g_8 j
def g_10 : Str → Option Str := fun j => if j = ("deep" : Str) then some s_10 else g_9 j
def g_11 : Str → Option Str := fun j => if j = ("deep" : Str) then some s_11 else g_10 j
def g_12 : Str → Option Str := fun j => if j = ("any" : Str) then some s_12 else g_11 j
def g_13 : Str → Option Str := fun j => if j = ("any" : Str) then some s_13 else g_12 j
def g_14 : Str → Option Str := fun j => if j = ("any" : Str) then some s_14 else g_13 j
def g_15 : Str → Option Str := fun j => if j = ("id" : Str) then some s_15 else g_14 j
def g_16 : Str → Option Str := fun j => if j = ("flip" : Str) then some s_16 else g_15 j
def g_17 : Str → Option Str := fun j => if j = ("drp" : Str) then some s_17 else g_16 j
def g_18 : Str → Option Str := fun j => if j = ("drp" : Str) then some s_18 else g_17 j
def g_19 : Str → Option Str := fun j => if j = ("strip" : Str) then some s_19 else g_18 j
def g_20 : Str → Option Str := fun j => if j = ("dup" : Str) then some s_20 else g_19 j
def g_21 : Str → Option Str := fun j => if j = ("wrap" : Str) then some s_21 else g_20 j
def g_22 : Str → Option Str := fun j => if j = ("wrap" : Str) then some s_22 else g_21 j
def g_23 : Str → Option Str := fun j => if j = ("half" : Str) then some s_23 else g_22 j
def g_24 : Str → Option Str := fun j => if j = ("half" : Str) then some s_24 else g_23 j
abbrev sl : Str := "/"
def s_front : Str := "kind t/make v of t : name/make p of t : t t/make l of t : [t]"
def s_kinds : Str := "/kind s/make nil of s :/make c of s : t s"
def frA : List Str := ["", s_kinds]
def frB : List Str := ["", "/given g", "/given g/given h"]
def txJ (j : Str) : Str := if j = "bare" then s_0 else if j = "head" then s_2 else s_5
def txT (t : Str) : Str := if t = "id" then s_15 else if t = "flip" then s_16 else s_18
def marksJ : List Str := ["bare", "head", "one"]
def marksT : List Str := ["id", "flip", "drp"]
/-- rows of few signs -/
def Pg (n k : Nat) (rs : List Str) : Prop := rs.length ≤ n ∧ ∀ r ∈ rs, 10 ∉ tl r ∧ r.length ≤ k ∧ PyData.strOk r = true
/-- the same by signs -/
def chk (l : List (List Nat)) : Bool := decide (l.length ≤ 30) && l.all fun p => decide (p.length ≤ 150) && (!p.contains 10 && p.all fun c => decide (c < 0x110000))
theorem chk_ok {rs : List Str} (h : chk (rs.map tl) = true) : Pg 30 150 rs := by
  unfold chk at h
  simp only [Bool.and_eq_true, decide_eq_true_eq, List.all_eq_true, List.length_map] at h
  refine ⟨h.1, fun r hr => ?_⟩
  obtain ⟨h1, h2, h3⟩ := h.2 (tl r) (List.mem_map.mpr ⟨r, hr, rfl⟩)
  refine ⟨fun z => ?_, h1, ?_⟩
  · have : (tl r).contains 10 = true := by simpa using z
    rw [this] at h2
    cases h2
  · unfold PyData.strOk
    rw [← Array.all_toList]
    exact List.all_eq_true.mpr fun c hc => decide_eq_true (h3 c hc)
def pageOf (a b x y : Str) : Str := Txt.join sl [s_front ++ a ++ b, x, y]
def pagesB : Bool := frA.all fun a => frB.all fun b => marksJ.all fun j => marksT.all fun t => chk (TL.spl [47] 0 [] (tl (s_front ++ a ++ b) ++ (47 :: (tl (txJ j) ++ (47 :: tl (txT t)))))) && decide ((s_front ++ a ++ b).length + (txJ j).length + (txT t).length ≤ 3000)
theorem pages_all : pagesB = true := by decide +kernel
theorem page_ok {a b j t : Str} (ha : a ∈ frA) (hb : b ∈ frB) (hj : j ∈ marksJ) (ht : t ∈ marksT) : Pg 30 150 (Txt.split (pageOf a b (txJ j) (txT t)) sl) ∧ (s_front ++ a ++ b).length + (txJ j).length + (txT t).length ≤ 3000 := by
  have h := pages_all
  unfold pagesB at h
  simp only [List.all_eq_true, Bool.and_eq_true, decide_eq_true_eq] at h
  obtain ⟨h1, h2⟩ := h a ha b hb j hj t ht
  refine ⟨chk_ok ?_, h2⟩
  rw [TL.split_spl _ sl (by decide +kernel) (TL.kind_ok (by decide +kernel))]
  have e : tl (pageOf a b (txJ j) (txT t)) = tl (s_front ++ a ++ b) ++ (47 :: (tl (txJ j) ++ (47 :: tl (txT t)))) := by
    unfold pageOf
    rw [TL.join_eq, TL.tl_join]
    rfl
  rw [e]
  exact h1
section
variable {P : Program} {w : World} {K : PySem.W.Frag} {mg : Str → Option Value} {base : Heap}
theorem lenA : ∀ a ∈ frA, a.length ≤ 100 := by decide +kernel
theorem gJ : ∀ j ∈ marksJ, g_24 j = some (txJ j) := by decide +kernel
theorem gT : ∀ j ∈ marksT, g_24 j = some (txT j) := by decide +kernel
theorem len_app (x y : Str) : (x ++ y).length = x.length + y.length := by
  have e : (tl (x ++ y)).length = (tl x).length + (tl y).length := by rw [TL.tl_append, List.length_append]
  exact e
theorem sum_le {α : Type} {f : α → Nat} {k : Nat} : ∀ xs : List α, (∀ x ∈ xs, f x ≤ k) → (xs.map f).sum ≤ xs.length * k
  | [], _ => Nat.zero_le _
  | x :: xs, h => by
    have h1 := h x List.mem_cons_self
    have h2 := sum_le xs fun y hy => h y (List.mem_cons_of_mem _ hy)
    rw [List.map_cons, List.sum_cons, List.length_cons, Nat.add_mul, Nat.one_mul]
    omega
theorem Tab.but {H H' : Hp} {c d : Addr} {n : Nat} {g : Str → Option Str} (T : Tab H d n g) (B : But c H H') (h : d ≠ c) : Tab H' d n g := by
  obtain ⟨kvs, e, r⟩ := T
  exact ⟨kvs, B _ _ h e, r⟩
theorem Tab.same {H H' : Hp} {d : Addr} {n : Nat} {g : Str → Option Str} (T : Tab H d n g) (B : Same H H') : Tab H' d n g := by
  obtain ⟨kvs, e, r⟩ := T
  exact ⟨kvs, B _ _ e, r⟩
abbrev sSmall : Stmt := top 207
def spSmall : Sp := fun vs H Q _ => ∃ (c l : Addr) (r h : Int) (j t : Str), vs = [.ref c, .ref l] ∧ H c = some (crt r h) ∧ Crt r h ∧ H l = some (.lst [.str j, .str t]) ∧ j ∈ marksJ ∧ t ∈ marksT ∧
  ∀ (H' : Hp) (r' h' : Int) (rows : List Str), But c H H' → H' c = some (crt r' h') → Crt r' h' → Pg 30 150 rows → Q (.str (unl rows)) H'
theorem scSmall : FnScope ["court", "some", "rows", "bare", "front", "page", "mark", "row"] ["court", "some"] (fnScope sSmall) := fnScope_by (by decide +kernel)
theorem ok_small {f f1 : Addr} {fd fd1 : FuncData} (F : Fun K "_law_small" "_law_small" sSmall f fd) (F1 : FnOk P w K mg base CX0 2 f1 fd1 ["court", "some"] (spOne K)) (a1 : At K mg "_law_one_of" f1) (b1 : Binds K fd1 ["court", "some"] []) : FnOk P w K mg base CX0 3 f fd ["court", "some"] spSmall := by
  refine fn0 F scSmall (fun vs H Q E h => ?_) (fun cdv A outer s H vs Q E hr h => ?_)
  · obtain ⟨c, l, r, h, j, t, rfl, _⟩ := h
    rfl
  · obtain ⟨c, l, r, h, j, t, rfl, hc, hC, hl, hj, ht, k⟩ := h
    refine ⟨_, pss_cons (ps_set (i := 2) scSmall.nd rfl (Or.inr rfl) (pe_disp (pps_cons pe_str pe_str pps_nil) (by rfl) (by rfl) (fun z => by cases z) (by decide)))
      (pss_cons (ps_set (i := 3) scSmall.nd rfl (Or.inl rfl) pe_str)
      (pss_cons (ps_dput (u1 hr) (pv 2) pe_str (pe_op op_add_str (pe_op op_add_str pe_str (pv 3)) pe_str) rfl)
      (pss_cons (ps_dput (u1 hr) (pv 2) pe_str (pe_op op_add_str (pe_dget (u1 hr) (pv 2) pe_str (fun _ _ => rfl)) pe_str) rfl)
      (pss_cons (ps_dput (u1 hr) (pv 2) pe_str (pe_op op_add_str (pe_op op_add_str pe_str (pv 3)) pe_str) rfl)
      (pss_cons (ps_dput (u1 hr) (pv 2) pe_str (pe_op op_add_str (pe_dget (u1 hr) (pv 2) pe_str (fun _ _ => rfl)) pe_str) rfl)
      (pss_cons (ps_dput (u1 hr) (pv 2) pe_str (pe_op op_add_str (pe_dget (u1 hr) (pv 2) pe_str (fun _ _ => rfl)) pe_str) rfl)
      (pss_cons (ps_dput (u1 hr) (pv 2) pe_str pe_str rfl)
      (pss_cons (ps_dput (u1 hr) (pv 2) pe_str (pe_op op_add_str (pe_dget (u1 hr) (pv 2) pe_str (fun _ _ => rfl)) pe_str) rfl)
      (pss_cons (ps_dput (u1 hr) (pv 2) pe_str pe_str rfl)
      (pss_cons (ps_dput (u1 hr) (pv 2) pe_str (pe_op op_add_str (pe_dget (u1 hr) (pv 2) pe_str (fun _ _ => rfl)) pe_str) rfl)
      (pss_cons (ps_dput (u1 hr) (pv 2) pe_str pe_str rfl)
      (pss_cons (ps_dput (u1 hr) (pv 2) pe_str (pe_op op_add_str (pe_dget (u1 hr) (pv 2) pe_str (fun _ _ => rfl)) pe_str) rfl)
      (pss_cons (ps_dput (u1 hr) (pv 2) pe_str pe_str rfl)
      (pss_cons (ps_dput (u1 hr) (pv 2) pe_str (pe_op op_add_str (pe_dget (u1 hr) (pv 2) pe_str (fun _ _ => rfl)) pe_str) rfl)
      (pss_cons (ps_dput (u1 hr) (pv 2) pe_str (pe_op op_add_str (pe_dget (u1 hr) (pv 2) pe_str (fun _ _ => rfl)) pe_str) rfl)
      (pss_cons (ps_dput (u1 hr) (pv 2) pe_str pe_str rfl)
      (pss_cons (ps_dput (u1 hr) (pv 2) pe_str pe_str rfl)
      (pss_cons (ps_dput (u1 hr) (pv 2) pe_str pe_str rfl)
      (pss_cons (ps_dput (u1 hr) (pv 2) pe_str (pe_op op_add_str (pe_dget (u1 hr) (pv 2) pe_str (fun _ _ => rfl)) pe_str) rfl)
      (pss_cons (ps_dput (u1 hr) (pv 2) pe_str pe_str rfl)
      (pss_cons (ps_dput (u1 hr) (pv 2) pe_str pe_str rfl)
      (pss_cons (ps_dput (u1 hr) (pv 2) pe_str pe_str rfl)
      (pss_cons (ps_dput (u1 hr) (pv 2) pe_str (pe_op op_add_str (pe_dget (u1 hr) (pv 2) pe_str (fun _ _ => rfl)) pe_str) rfl)
      (pss_cons (ps_dput (u1 hr) (pv 2) pe_str pe_str rfl)
      (pss_cons (ps_dput (u1 hr) (pv 2) pe_str (pe_op op_add_str (pe_dget (u1 hr) (pv 2) pe_str (fun _ _ => rfl)) pe_str) rfl)
      (pss_cons (ps_set (i := 4) scSmall.nd rfl (Or.inl rfl) pe_str)
      (pss_cons (ps_set (i := 4) scSmall.nd rfl (Or.inl rfl) (pe_op op_add_str (pv 4) (pe_call F1 hr rfl a1.m a1.k b1 .nil (pass0 (E := C8.E0)) (pa_cons (pv 0) (pa_cons (pe_lst (pa_cons pe_str (pa_cons pe_str (pa_cons pe_str pa_nil)))) pa_nil)))))
      (pss_cons (ps_set (i := 4) scSmall.nd rfl (Or.inl rfl) (pe_op op_add_str (pv 4) (pe_call F1 hr rfl a1.m a1.k b1 .nil (pass0 (E := C8.E0)) (pa_cons (pv 0) (pa_cons (pe_lst (pa_cons pe_str (pa_cons pe_str (pa_cons pe_str (pa_cons pe_str pa_nil))))) pa_nil)))))
      (pss_cons (ps_set (i := 5) scSmall.nd rfl (Or.inl rfl) (pe_join pe_str (pe_op op_cat (pe_lst (pa_cons (pv 4) pa_nil))
          (pe_lc (own := [("mark", 6)]) (g := gName 6) (tt := tYes) (te := tDGet (tVar 2) (tVar 6)) rfl scSmall.nd (pi_list (pv 1)) (blkOk_by (own := [("mark", 6)]) (N := ["court", "some", "rows", "bare", "front", "page", "mark", "row"]) (sc := fnScope sSmall) (by decide +kernel))
            (fun _ _ _ _ _ => pg_name (i := 6) scSmall.nd rfl (Or.inl rfl)) (fun _ _ _ _ _ => pts_nil) (fun _ _ _ _ _ => pe_dget (u1 hr) (pv 2) (pv 6) (fun _ _ => rfl))))))
      (pss_one (ps_ret (pe_join pe_str (pe_lc (own := [("row", 7)]) (g := gName 7) (tt := tYes) (te := tOp rAddS (tVar 7) (tC (.str "\n"))) rfl scSmall.nd (pi_list (pe_split (pv 5) pe_str)) (blkOk_by (own := [("row", 7)]) (N := ["court", "some", "rows", "bare", "front", "page", "mark", "row"]) (sc := fnScope sSmall) (by decide +kernel))
            (fun _ _ _ _ _ => pg_name (i := 7) scSmall.nd rfl (Or.inl rfl)) (fun _ _ _ _ _ => pts_nil) (fun _ _ _ _ _ => pe_op op_add_str (pv 7) pe_str)))))))))))))))))))))))))))))))))), ?_⟩
    refine fun d hd => ⟨upd_same, [(.inr "bare", .str s_0)], rfl, by decide, ?_⟩
    have ncd : c ≠ d := ne_of_none hc hd
    have nld : l ≠ d := ne_of_none hl hd
    have t0 : Tab (upd (upd H d (.dK [])) d (.dK (mergeK [] [((Sum.inr ("bare" : Str) : Key), V.str s_0)]))) d 1 g_0 := by
      refine ⟨_, upd_same, by decide, fun k => ?_⟩
      show valV (putK [] (Sum.inr ("bare" : Str)) (V.str s_0)) (Sum.inr k) = _
      rw [valV_put]
      unfold g_0
      by_cases h : k = "bare"
      · rw [if_pos (congrArg Sum.inr h), if_pos h]
        rfl
      · rw [if_neg fun z => h (Sum.inr.inj z), if_neg h]
        rfl
    have b0 : But d H (upd (upd H d (.dK [])) d (.dK (mergeK [] [((Sum.inr ("bare" : Str) : Key), V.str s_0)]))) := but_upd.trans but_upd
    generalize upd (upd H d (.dK [])) d (.dK (mergeK [] [((Sum.inr ("bare" : Str) : Key), V.str s_0)])) = H0 at t0 b0 ⊢
    obtain ⟨H1, p1, t1, b1⟩ := tab_put t0 (k := "head") (v := s_1) (by decide)
    have t1 : Tab H1 d 2 g_1 := t1
    refine ⟨_, rfl, _, _, rfl, rfl, by decide +kernel, _, _, rfl, rfl, by decide +kernel, _, rfl, d, H1, rfl, p1, ?_⟩
    obtain ⟨H2, p2, t2, b2⟩ := tab_put t1 (k := "head") (v := s_2) (by decide)
    have t2 : Tab H2 d 3 g_2 := t2
    refine ⟨_, rfl, d, _, rfl, tab_get t1 (v := s_1) (by rfl), _, _, rfl, rfl, by decide +kernel, _, rfl, d, H2, rfl, p2, ?_⟩
    obtain ⟨H3, p3, t3, b3⟩ := tab_put t2 (k := "one") (v := s_3) (by decide)
    have t3 : Tab H3 d 4 g_3 := t3
    refine ⟨_, rfl, _, _, rfl, rfl, by decide +kernel, _, _, rfl, rfl, by decide +kernel, _, rfl, d, H3, rfl, p3, ?_⟩
    obtain ⟨H4, p4, t4, b4⟩ := tab_put t3 (k := "one") (v := s_4) (by decide)
    have t4 : Tab H4 d 5 g_4 := t4
    refine ⟨_, rfl, d, _, rfl, tab_get t3 (v := s_3) (by rfl), _, _, rfl, rfl, by decide +kernel, _, rfl, d, H4, rfl, p4, ?_⟩
    obtain ⟨H5, p5, t5, b5⟩ := tab_put t4 (k := "one") (v := s_5) (by decide)
    have t5 : Tab H5 d 6 g_5 := t5
    refine ⟨_, rfl, d, _, rfl, tab_get t4 (v := s_4) (by rfl), _, _, rfl, rfl, by decide +kernel, _, rfl, d, H5, rfl, p5, ?_⟩
    obtain ⟨H6, p6, t6, b6⟩ := tab_put t5 (k := "lin") (v := s_6) (by decide)
    have t6 : Tab H6 d 7 g_6 := t6
    refine ⟨_, rfl, d, H6, rfl, p6, ?_⟩
    obtain ⟨H7, p7, t7, b7⟩ := tab_put t6 (k := "lin") (v := s_7) (by decide)
    have t7 : Tab H7 d 8 g_7 := t7
    refine ⟨_, rfl, d, _, rfl, tab_get t6 (v := s_6) (by rfl), _, _, rfl, rfl, by decide +kernel, _, rfl, d, H7, rfl, p7, ?_⟩
    obtain ⟨H8, p8, t8, b8⟩ := tab_put t7 (k := "used") (v := s_8) (by decide)
    have t8 : Tab H8 d 9 g_8 := t8
    refine ⟨_, rfl, d, H8, rfl, p8, ?_⟩
    obtain ⟨H9, p9, t9, b9⟩ := tab_put t8 (k := "used") (v := s_9) (by decide)
    have t9 : Tab H9 d 10 g_9 := t9
    refine ⟨_, rfl, d, _, rfl, tab_get t8 (v := s_8) (by rfl), _, _, rfl, rfl, by decide +kernel, _, rfl, d, H9, rfl, p9, ?_⟩
    obtain ⟨H10, p10, t10, b10⟩ := tab_put t9 (k := "deep") (v := s_10) (by decide)
    have t10 : Tab H10 d 11 g_10 := t10
    refine ⟨_, rfl, d, H10, rfl, p10, ?_⟩
    obtain ⟨H11, p11, t11, b11⟩ := tab_put t10 (k := "deep") (v := s_11) (by decide)
    have t11 : Tab H11 d 12 g_11 := t11
    refine ⟨_, rfl, d, _, rfl, tab_get t10 (v := s_10) (by rfl), _, _, rfl, rfl, by decide +kernel, _, rfl, d, H11, rfl, p11, ?_⟩
    obtain ⟨H12, p12, t12, b12⟩ := tab_put t11 (k := "any") (v := s_12) (by decide)
    have t12 : Tab H12 d 13 g_12 := t12
    refine ⟨_, rfl, d, H12, rfl, p12, ?_⟩
    obtain ⟨H13, p13, t13, b13⟩ := tab_put t12 (k := "any") (v := s_13) (by decide)
    have t13 : Tab H13 d 14 g_13 := t13
    refine ⟨_, rfl, d, _, rfl, tab_get t12 (v := s_12) (by rfl), _, _, rfl, rfl, by decide +kernel, _, rfl, d, H13, rfl, p13, ?_⟩
    obtain ⟨H14, p14, t14, b14⟩ := tab_put t13 (k := "any") (v := s_14) (by decide)
    have t14 : Tab H14 d 15 g_14 := t14
    refine ⟨_, rfl, d, _, rfl, tab_get t13 (v := s_13) (by rfl), _, _, rfl, rfl, by decide +kernel, _, rfl, d, H14, rfl, p14, ?_⟩
    obtain ⟨H15, p15, t15, b15⟩ := tab_put t14 (k := "id") (v := s_15) (by decide)
    have t15 : Tab H15 d 16 g_15 := t15
    refine ⟨_, rfl, d, H15, rfl, p15, ?_⟩
    obtain ⟨H16, p16, t16, b16⟩ := tab_put t15 (k := "flip") (v := s_16) (by decide)
    have t16 : Tab H16 d 17 g_16 := t16
    refine ⟨_, rfl, d, H16, rfl, p16, ?_⟩
    obtain ⟨H17, p17, t17, b17⟩ := tab_put t16 (k := "drp") (v := s_17) (by decide)
    have t17 : Tab H17 d 18 g_17 := t17
    refine ⟨_, rfl, d, H17, rfl, p17, ?_⟩
    obtain ⟨H18, p18, t18, b18⟩ := tab_put t17 (k := "drp") (v := s_18) (by decide)
    have t18 : Tab H18 d 19 g_18 := t18
    refine ⟨_, rfl, d, _, rfl, tab_get t17 (v := s_17) (by rfl), _, _, rfl, rfl, by decide +kernel, _, rfl, d, H18, rfl, p18, ?_⟩
    obtain ⟨H19, p19, t19, b19⟩ := tab_put t18 (k := "strip") (v := s_19) (by decide)
    have t19 : Tab H19 d 20 g_19 := t19
    refine ⟨_, rfl, d, H19, rfl, p19, ?_⟩
    obtain ⟨H20, p20, t20, b20⟩ := tab_put t19 (k := "dup") (v := s_20) (by decide)
    have t20 : Tab H20 d 21 g_20 := t20
    refine ⟨_, rfl, d, H20, rfl, p20, ?_⟩
    obtain ⟨H21, p21, t21, b21⟩ := tab_put t20 (k := "wrap") (v := s_21) (by decide)
    have t21 : Tab H21 d 22 g_21 := t21
    refine ⟨_, rfl, d, H21, rfl, p21, ?_⟩
    obtain ⟨H22, p22, t22, b22⟩ := tab_put t21 (k := "wrap") (v := s_22) (by decide)
    have t22 : Tab H22 d 23 g_22 := t22
    refine ⟨_, rfl, d, _, rfl, tab_get t21 (v := s_21) (by rfl), _, _, rfl, rfl, by decide +kernel, _, rfl, d, H22, rfl, p22, ?_⟩
    obtain ⟨H23, p23, t23, b23⟩ := tab_put t22 (k := "half") (v := s_23) (by decide)
    have t23 : Tab H23 d 24 g_23 := t23
    refine ⟨_, rfl, d, H23, rfl, p23, ?_⟩
    obtain ⟨H24, p24, t24, b24⟩ := tab_put t23 (k := "half") (v := s_24) (by decide)
    have t24 : Tab H24 d 25 g_24 := t24
    refine ⟨_, rfl, d, _, rfl, tab_get t23 (v := s_23) (by rfl), _, _, rfl, rfl, by decide +kernel, _, rfl, d, H24, rfl, p24, ?_⟩
    have a24 : But d H H24 := ((((((((((((((((((((((((b0).trans b1).trans b2).trans b3).trans b4).trans b5).trans b6).trans b7).trans b8).trans b9).trans b10).trans b11).trans b12).trans b13).trans b14).trans b15).trans b16).trans b17).trans b18).trans b19).trans b20).trans b21).trans b22).trans b23).trans b24
    have hc24 : H24 c = some (crt r h) := a24 _ _ ncd hc
    have hl24 := a24 _ _ nld hl
    refine ⟨_, rfl, .ref c, rfl, (by rw [sizeLine_eq]; show 3 ≤ _; omega), fun l1 hl1 => ?_⟩
    have S25 : Same H24 (upd H24 l1 (.lst [.str "", .str "", .str "/kind s/make nil of s :/make c of s : t s"])) := same_upd hl1
    refine ⟨c, l1, r, h, [.str "", .str "", .str "/kind s/make nil of s :/make c of s : t s"], rfl, S25 _ _ hc24, hC, upd_same, by show 0 < 3; decide, by show 3 < 1000; decide, fun H25 i v r1 h1 B25 hc25 hC25 hv => ?_⟩
    obtain ⟨a, hma, rfl⟩ : ∃ a, a ∈ frA ∧ v = .str a := by
      rcases List.mem_cons.mp (List.mem_of_getElem? hv) with rfl | hv
      · exact ⟨_, List.mem_cons_self, rfl⟩
      rcases List.mem_cons.mp hv with rfl | hv
      · exact ⟨_, List.mem_cons_self, rfl⟩
      rw [List.mem_singleton.mp hv]
      exact ⟨_, List.mem_cons_of_mem _ List.mem_cons_self, rfl⟩
    have la : a.length ≤ 100 := lenA a hma
    refine ⟨s_front, a, rfl, rfl, by have : s_front.length ≤ 100 := by decide +kernel
                                     rw [sizeLine_eq]; omega, ?_⟩
    have C25 : But c H24 H25 := (But.of_same S25).trans B25
    have t25 : Tab H25 d 25 g_24 := t24.but C25 (Ne.symm ncd)
    have hl25 := C25 _ _ (ne_of hl hc (by intro q; cases q)) hl24
    clear S25 B25 hl1
    refine ⟨_, rfl, .ref c, rfl, (by rw [sizeLine_eq]; show 4 ≤ _; omega), fun l2 hl2 => ?_⟩
    have S26 : Same H25 (upd H25 l2 (.lst [.str "", .str "", .str "/given g", .str "/given g/given h"])) := same_upd hl2
    refine ⟨c, l2, r1, h1, [.str "", .str "", .str "/given g", .str "/given g/given h"], rfl, S26 _ _ hc25, hC25, upd_same, by show 0 < 4; decide, by show 4 < 1000; decide, fun H26 i2 v r2 h2 B26 hc26 hC26 hv => ?_⟩
    obtain ⟨b, hmb, rfl⟩ : ∃ b, b ∈ frB ∧ v = .str b := by
      rcases List.mem_cons.mp (List.mem_of_getElem? hv) with rfl | hv
      · exact ⟨_, List.mem_cons_self, rfl⟩
      rcases List.mem_cons.mp hv with rfl | hv
      · exact ⟨_, List.mem_cons_self, rfl⟩
      rcases List.mem_cons.mp hv with rfl | hv
      · exact ⟨_, List.mem_cons_of_mem _ List.mem_cons_self, rfl⟩
      rw [List.mem_singleton.mp hv]
      exact ⟨_, List.mem_cons_of_mem _ (List.mem_cons_of_mem _ List.mem_cons_self), rfl⟩
    obtain ⟨pg, lpg⟩ := page_ok hma hmb hj ht
    have C26 : But c H25 H26 := (But.of_same S26).trans B26
    have t26 : Tab H26 d 25 g_24 := t25.but C26 (Ne.symm ncd)
    have hl26 := C26 _ _ (ne_of hl hc (by intro q; cases q)) hl25
    have lfa : (s_front ++ a).length + b.length = (s_front ++ a ++ b).length := (len_app _ _).symm
    refine ⟨s_front ++ a, b, rfl, rfl, by rw [sizeLine_eq, lfa]; omega, ?_⟩
    clear S26 B26 hl2
    have lf : (s_front ++ a ++ b).length ≤ 3000 := by omega
    generalize hfr : s_front ++ a ++ b = fr at lf lpg
    -- the page
    refine ⟨⟨_, rfl⟩, _, rfl, by show 1 ≤ sizeLine; rw [sizeLine_eq]; omega, fun l3 hl3 => ?_⟩
    have S27 : Same H26 (upd H26 l3 (.lst [.str fr])) := same_upd hl3
    have e27 : upd H26 l3 (.lst [.str fr]) l3 = some (.lst [.str fr]) := upd_same
    generalize upd H26 l3 (.lst [.str fr]) = H27 at S27 e27 ⊢
    have hl27 := S27 _ _ hl26
    refine ⟨_, rfl, l, rfl, ⟨_, SqL.of hl27⟩, fun D hD => ?_⟩
    refine lc_it walk_list (fun i H' => H' D = some (.lst (([.str (txJ j), .str (txT t)] : List V).take i)) ∧ Same H27 H') ⟨upd_same, same_upd hD⟩ (fun i H' _ ⟨_, S⟩ => SqL.of (S _ _ hl27)) ?_ ?_
    · rintro i v Hx Hy hi ⟨hacc, S⟩ ⟨rfl, ev⟩
      have ty : Tab Hy d 25 g_24 := t26.same (S27.trans S)
      have hi' : i < 2 := hi
      match i, hi' with
      | 0, _ =>
        cases ev
        exact ⟨rfl, _, rfl, _, rfl, d, _, rfl, tab_get ty (gJ j hj), _, hacc, by show 0 < sizeLine; rw [sizeLine_eq]; omega, upd_same, fun b o e => by rw [upd_ne (ne_of_none e hD)]; exact S _ _ e⟩
      | 1, _ =>
        cases ev
        exact ⟨rfl, _, rfl, _, rfl, d, _, rfl, tab_get ty (gT t ht), _, hacc, by show 1 < sizeLine; rw [sizeLine_eq]; omega, upd_same, fun b o e => by rw [upd_ne (ne_of_none e hD)]; exact S _ _ e⟩
    rintro H28 ⟨h28a, S28⟩
    have h28 : H28 D = some (.lst [.str (txJ j), .str (txT t)]) := h28a
    refine ⟨l3, D, _, _, rfl, rfl, S28 _ _ e27, h28, by show 1 + 2 ≤ sizeLine; rw [sizeLine_eq]; omega, fun l4 hl4 => ?_⟩
    have S29 : Same H28 (upd H28 l4 (.lst ([.str fr] ++ [.str (txJ j), .str (txT t)]))) := same_upd hl4
    refine ⟨sl, l4, [fr, txJ j, txT t], rfl, rfl, .inl (SqL.of upd_same), by show fr.length + ((txJ j).length + ((txT t).length + 0)) + 3 * 1 ≤ 16777216; omega, ?_⟩
    have pg2 : Pg 30 150 (Txt.split (Txt.join sl [fr, txJ j, txT t]) sl) := by rw [← hfr]; exact pg
    have lz : (Txt.join sl [fr, txJ j, txT t]).length + 2 ≤ sizeLine := by
      have q := StrLaws.join_length_le sl [fr, txJ j, txT t]
      rw [TL.join_eq, sizeLine_eq]
      have q2 : (([fr, txJ j, txT t].map (·.length)).sum) = fr.length + ((txJ j).length + ((txT t).length + 0)) := rfl
      have q3 : ([fr, txJ j, txT t] : List Str).length * sl.length = 3 := rfl
      omega
    generalize Txt.join sl [fr, txJ j, txT t] = z at pg2 lz ⊢
    have C29 : Same H26 (upd H28 l4 (.lst ([.str fr] ++ [.str (txJ j), .str (txT t)]))) := (S27.trans S28).trans S29
    generalize upd H28 l4 (.lst ([.str fr] ++ [.str (txJ j), .str (txT t)])) = H29 at C29 ⊢
    -- the rows
    refine ⟨⟨_, rfl⟩, _, rfl, ⟨_, rfl⟩, z, sl, rfl, rfl, by decide +kernel, lz, fun p hp => ?_⟩
    generalize Txt.split z sl = rs at pg2 ⊢
    have S30 : Same H29 (upd H29 p (.lst (rs.map V.str))) := same_upd hp
    have e30 : upd H29 p (.lst (rs.map V.str)) p = some (.lst (rs.map V.str)) := upd_same
    generalize upd H29 p (.lst (rs.map V.str)) = H30 at S30 e30 ⊢
    refine ⟨p, rfl, ⟨_, SqL.of e30⟩, fun D2 hD2 => ?_⟩
    refine lc_it walk_list (fun i H' => H' D2 = some (.lst ((rs.take i).map fun x => V.str (x ++ nl))) ∧ Same H30 H') ⟨upd_same, same_upd hD2⟩ (fun i H' _ ⟨_, S⟩ => SqL.of (S _ _ e30)) ?_ ?_
    · rintro i v Hx Hy hi ⟨hacc, S⟩ ⟨rfl, ev⟩
      rw [List.length_map] at hi
      rw [List.getElem?_map, List.getElem?_eq_getElem hi] at ev
      cases ev
      have h1 := (pg2.2 _ (List.getElem_mem hi)).2.1
      refine ⟨rfl, _, rfl, _, _, rfl, rfl, by show rs[i].length + 1 ≤ sizeLine; rw [sizeLine_eq]; omega, _, hacc, ?_, ?_, fun b o e => by rw [upd_ne (ne_of_none e hD2)]; exact S _ _ e⟩
      · rw [List.length_map, List.length_take, sizeLine_eq]
        have := pg2.1
        omega
      · rw [upd_same, List.take_add_one, List.getElem?_eq_getElem hi, List.map_append]
        rfl
    rintro H31 ⟨h31, S31⟩
    rw [List.length_map, List.take_length] at h31
    have C31 : Same H26 H31 := (C29.trans S30).trans S31
    refine ⟨Str.empty, D2, rs.map (· ++ nl), rfl, rfl, .inl (SqL.of (by rw [h31, List.map_map]; rfl)), ?_, ?_⟩
    · rw [show (Str.empty).length = 0 from rfl, Nat.mul_zero, Nat.add_zero, List.map_map]
      have := sum_le (f := (fun x : Str => x.length) ∘ (· ++ nl)) (k := 151) rs fun x hx => by
        show (x ++ nl).length ≤ 151
        rw [len_app]
        have := (pg2.2 x hx).2.1
        show x.length + 1 ≤ 151
        omega
      have h3 := pg2.1
      have h4 : rs.length * 151 ≤ 30 * 151 := Nat.mul_le_mul_right _ h3
      omega
    · rw [join_nl]
      refine k H31 r2 h2 rs (fun b o nb e => ?_) (C31 _ _ hc26) hC26 pg2
      have nbd : b ≠ d := ne_of_none e hd
      exact C31 _ _ (C26 _ _ nb (C25 _ _ nb (a24 _ _ nbd e)))
end
end K11

/-! Calls within a try: a method, a making. -/
namespace Yo
open PySem PySem.Spec L2 Xo
section
variable {X : Cx} {CX : CXT} {k : Nat} {f C : Addr} {fd : FuncData} {ps : List Str} {sp : Sp} {E : L2.St → XK} {x m : Str} {p pos apos : Pos} {e o : PySem.Expr} {es : List PySem.Expr} {ta : TE} {t : TA}
def tMethT (C : Addr) (m : Str) (sp : Sp) (E : L2.St → XK) (ta : TE) (t : TA) : TE := fun σ H Q => ta σ H fun x H1 => ∃ a dx fs, x = .ref a ∧ H1 a = some (.ins C dx fs) ∧ fs.lookup m = none ∧ t σ H1 fun vs H2 => sp (x :: vs) H2 Q (E σ)
theorem pe_methT {pl : Sem Bool} (he : PE X o ta) (c : Cls X.K C) (hm : Meth X.K C m f) (F : FnOk X.prog X.w X.K X.mg X.base CX k f fd ps sp) (hr : Room k X.A) (hb : Binds X.K fd ps []) (hx : ∀ σ, PassesAt CX X σ (E σ)) (ha : PA X (e :: es) t)
    (hst : starEach (e :: es) X.env = (false, eval e X.env) :: starEach es X.env := by rfl) (hpl : (backTo pos (starEach es X.env)).any (·.1) = false := by rfl)
    (ht : eval (.Call (.Attribute o m apos) (e :: es) [] pos) X.env = (do
      let ov ← eval o X.env
      standAt apos.atName
      let (f, first) ← holding [ov] (getMethod ov m pl)
      callWith pos f first (backTo pos (starEach (e :: es) X.env)) (backToKw pos (keywordEach [] X.env))) := by rfl) :
    PE X (.Call (.Attribute o m apos) (e :: es) [] pos) (tMethT C m sp E ta t) := by
  refine ⟨fun pins s σ H Q I h => ?_⟩
  refine PySem.W.methodCall_KW (pl := pl) (thn (he.run pins s σ H _ I h) fun u s1 ⟨x, H1, I1, rx, a, dx, fs, ex, ea, l, q⟩ => ?_) ht
  subst ex
  obtain rfl : u = Value.ref a := rx
  refine getmeth_ok I1 ea c hm l ?_
  refine PySem.W.callWith_K (first := [.ref a]) (h₀ := X.base) I.ok.mod.kin hm.kp (thn (ha.run pos pins s1 σ H1 _ I1 q) fun us s2 ⟨vs, H2, I2, r, q2⟩ => ⟨I2.kIn, ?_⟩) hst hpl
  exact run_fnS (us := .ref a :: us) (vs := .ref a :: vs) F hr hb (hx σ) I2 (.cons rfl r) q2
def tMakeT (C : Addr) (sp : Sp) (E : L2.St → XK) (t : TA) : TE := fun σ H Q => t σ H fun vs H1 => ∀ x dx, H1 x = none → H1 dx = none → dx ≠ x → sp (.ref x :: vs) (upd (upd H1 dx (.own x)) x (.ins C dx [])) (fun v H2 => v = .non ∧ Q (.ref x) H2) (E σ)
end
end Yo
namespace Yo
open PySem PySem.Spec L2 Xo
section
variable {X : Cx} {CX : CXT} {k : Nat} {f C : Addr} {fd : FuncData} {ps : List Str} {sp : Sp} {E : L2.St → XK} {x : Str} {p pos : Pos} {e : PySem.Expr} {es : List PySem.Expr} {t : TA}
theorem run_makeT {pins : List (Addr × Obj)} {σ : L2.St} {H : Hp} {s : Shared} {Q : VK} {us : List Value} {vs : List V} {E : XK} (M : Mk X.K C f) (F : FnOk X.prog X.w X.K X.mg X.base CX k f fd ps sp) (hr : Room (k + 1) X.A) (hb : Binds X.K fd ps [])
    (hx : PassesAt CX X σ E) (I : Inv X pins σ H s) (r : Vals vs us)
    (h : ∀ x dx, H x = none → H dx = none → dx ≠ x → sp (.ref x :: vs) (upd (upd H dx (.own x)) x (.ins C dx [])) (fun v H2 => v = .non ∧ Q (.ref x) H2) E) :
    wpAny (model X.prog X.w) X.A (call (.ref C) us) (EP X pins σ Q) X.xe s := by
  have hq := h (s.heap.objs.size + 1) s.heap.objs.size (I.hok.fresh (Nat.le_succ _)) (I.hok.fresh (Nat.le_refl _)) (Nat.ne_of_lt (Nat.lt_succ_self _))
  have I2 := Inv.made (C := C) I
  have r2 : Vals (V.ref (s.heap.objs.size + 1) :: vs) (Value.ref (s.heap.objs.size + 1) :: us) := .cons rfl r
  have hl : (Value.ref (s.heap.objs.size + 1) :: us).length = ps.length := by
    have e := r2.length
    rw [F.len _ _ _ _ hq] at e
    exact e.symm
  have hb2 := hb _ (Value.ref (s.heap.objs.size + 1) :: us) I2.kIn (by rw [List.append_nil]; exact hl)
  rw [List.append_nil] at hb2
  refine wpAny_call (make_map (f := f) I.kIn M.makes M.init (beq_iff_eq.mp M.fn) (codeAny_mono (F.run _ X.stack _ _ ⟨Value.ref (s.heap.objs.size + 1) :: us, []⟩ (Value.ref (s.heap.objs.size + 1) :: us) _ _ E (hr.make C us [])
    (I2.env0.make C us []) hb2 r2 hq) fun r s' hq' => ?_))
  cases r with
  | error e => exact hx pins _ _ e s' I2 hq'
  | ok fl =>
    cases fl with
    | ret u =>
      obtain ⟨v, H', I3, rv, ev, q3⟩ := I2.after hq'
      subst ev
      exact ⟨rv, ⟨V.ref (s.heap.objs.size + 1), H', I3, rfl, q3⟩⟩
    | next => exact False.elim hq'
    | brk => exact False.elim hq'
    | cont => exact False.elim hq'
theorem pe_makeT (M : Mk X.K C f) (F : FnOk X.prog X.w X.K X.mg X.base CX k f fd ps sp) (hr : Room (k + 1) X.A) (hg : Gl X x) (hm : X.mg x = some (.ref C)) (hb : Binds X.K fd ps []) (hx : ∀ σ, PassesAt CX X σ (E σ))
    (ha : PA X (e :: es) t) (hdb : (x == ("__debug__" : Str)) = false := by decide) (he : starEach (e :: es) X.env = (false, eval e X.env) :: starEach es X.env := by rfl) (hpl : (backTo pos (starEach es X.env)).any (·.1) = false := by rfl) :
    PE X (.Call (.Name x p) (e :: es) [] pos) (tMakeT C sp E t) := by
  refine ⟨fun pins s σ H Q I h => ?_⟩
  refine wpAny_Call_Name_kw (ld_glob I hg hm ?_ hdb)
  refine PySem.W.callWith_K (h₀ := X.base) I.ok.mod.kin M.kp (thn (ha.run pos pins s σ H _ I h) fun us s1 ⟨vs, H1, I1, r, q⟩ => ⟨I1.kIn, ?_⟩) he hpl
  exact run_makeT M F hr hb (hx σ) I1 r q
/-- what raises nothing passes -/
theorem passF {P : Program} {w : World} (hP : X.prog = P) (hw : X.w = w) : Passes (L2.CX P w) X (fun _ _ _ => False) := by
  subst hP
  subst hw
  intro pins σ H s e s' I h
  obtain ⟨_, _, _, _, _, _, _, _, _, _, _, _, z⟩ := h
  exact z.elim
end
end Yo
namespace K11
open PySem PySem.Spec C8 Xo Yo
open L2 hiding Fun CX0 pass0 E0
open TL (tl)
section
variable {P : Program} {w : World} {K : PySem.W.Frag} {mg : Str → Option Value} {base : Heap} {f f1 f2 f3 C CT CB CI : Addr} {fd fd1 fd2 fd3 : FuncData}
/-! ### after -/
theorem cat_some {H : Hp} {a b : Addr} {xs ys : List V} {Q : VK} (ha : H a = some (.tup xs)) (hb : H b = some (.tup ys)) (hl : xs.length + ys.length ≤ sizeLine) (k : ∀ H' p, Same H H' → H' p = some (.tup (xs ++ ys)) → Q (.ref p) H') : rCatA K (.ref a) (.ref b) H Q := by
  refine ⟨a, b, xs, ys, rfl, rfl, SqT.of ha, SqT.of hb, hl, fun e => k H b (Same.refl H) (by rw [hb, e]; rfl), fun _ e => k H a (Same.refl H) (by rw [ha, e, List.append_nil]), fun _ _ p hp => k _ p (same_upd hp) upd_same⟩
theorem cut_fromto {α : Type} (rs : List α) (g : α → V) (i j : Nat) : cutV (rs.map g) (some (i : Int)) (some (j : Int)) = ((rs.drop i).take (j - i)).map g := by
  unfold cutV
  rw [HT.sIx_nat, HT.sIx_nat, List.length_map, ← List.map_drop, ← List.map_take]
  congr 1
  by_cases h : i ≤ rs.length
  · by_cases h2 : j ≤ rs.length
    · rw [Nat.min_eq_left h, Nat.min_eq_left h2]
    · rw [Nat.min_eq_left h, Nat.min_eq_right (by omega), List.take_of_length_le (by rw [List.length_drop]; omega), List.take_of_length_le (by rw [List.length_drop]; omega)]
  · rw [Nat.min_eq_right (by omega : rs.length ≤ i), List.drop_of_length_le (by omega), List.drop_of_length_le (by omega)]
    rw [List.take_nil, List.take_nil]
theorem one_eq {α : Type} (rs : List α) (i : Nat) (t : α) : ((rs.drop i).take 1 = [t]) ↔ rs[i]? = some t := by
  by_cases h : i < rs.length
  · rw [List.drop_eq_getElem_cons h, List.take_succ_cons, List.take_zero, List.getElem?_eq_getElem h]
    exact ⟨fun z => congrArg some (List.cons.inj z).1, fun z => by rw [Option.some.inj z]⟩
  · rw [List.drop_of_length_le (by omega), List.getElem?_eq_none (by omega)]
    exact ⟨fun z => (by cases z), fun z => (by cases z)⟩
theorem one_nil {α : Type} (rs : List α) (i : Nat) : ((rs.drop i).take 1 = []) ↔ rs.length ≤ i := by
  by_cases h : i < rs.length
  · rw [List.drop_eq_getElem_cons h, List.take_succ_cons]
    exact ⟨fun z => (by cases z), fun z => absurd z (by omega)⟩
  · rw [List.drop_of_length_le (by omega)]
    exact ⟨fun _ => by omega, fun _ => rfl⟩
theorem one_rest {α : Type} (rs : List α) (i : Nat) : (rs.drop i).take 1 ++ rs.drop (i + 1) = rs.drop i := by
  rw [← List.drop_drop, List.take_append_drop]
abbrev sAfter : Stmt := top 208
def spAfter : Sp := fun vs H Q _ => ∃ (r a : Addr) (rs : List Str) (d : Dd), vs = [.ref r, .ref a] ∧ H r = some (rowsO rs) ∧ H a = some (deedO d) ∧ Sok rs ∧ d.dok ∧ rs.length ≤ 1000 ∧
  (∀ z, d.bar rs = some z → ∀ H', Same H H' → Q (.str z) H') ∧ (d.bar rs = none → ∀ H' p, Same H H' → H' p = some (rowsO (d.app rs)) → Q (.ref p) H')
theorem scAfter : FnScope ["rows", "deed", "word", "at", "ahead", "here", "rest"] ["rows", "deed"] (fnScope sAfter) := fnScope_by (by decide +kernel)
def Dd.word : Dd → Str
  | .put .. => "put"
  | .row .. => "row"
  | .out .. => "out"
def Dd.at_ : Dd → Nat
  | .put i _ => i
  | .row i _ => i
  | .out i => i
theorem cut2 (d : Dd) : cutV d.vs none (some 2) = [.str d.word, .int (d.at_ : Nat)] := by cases d <;> rfl
theorem sok_part {rs qs : List Str} (h : Sok rs) (k : ∀ r ∈ qs, r ∈ rs) : Sok qs := fun r hr => h r (k r hr)
theorem ok_after (g : G mg) (F : Fun K "_law_after" "_law_after" sAfter f fd) : FnOk P w K mg base CX0 1 f fd ["rows", "deed"] spAfter := by
  refine fn0 F scAfter (fun vs H Q E h => ?_) (fun cdv A outer s H vs Q E hr h => ?_)
  · obtain ⟨r, a, rs, d, rfl, _⟩ := h
    rfl
  · obtain ⟨r, a, rs, d, rfl, hrs, ha, sok, dok, hl, k1, k2⟩ := h
    refine ⟨_, pss_cons (ps_asg (pe_slice sl_tupA (pv 1) po_none (po_some pe_int)) (pg_tup rfl (pgs_cons (pg_name (i := 2) scAfter.nd rfl (Or.inl rfl)) (pgs_cons (pg_name (i := 3) scAfter.nd rfl (Or.inl rfl)) pgs_nil))))
      (pss_cons (ps_par3 (i := 4) (j := 5) (l := 6) rfl scAfter.nd rfl rfl rfl (by decide) (by decide) (by decide) rfl rfl rfl (pa_cons (pe_slice sl_tupA (pv 0) po_none (po_some (pv 3))) (pa_cons (pe_slice sl_tupA (pv 0) (po_some (pv 3)) (po_some (pe_op op_add (pv 3) pe_int))) (pa_cons (pe_slice sl_tupA (pv 0) (po_some (pe_op op_add (pv 3) pe_int)) po_none) pa_nil))) (by rfl))
      (pss_cons (ps_if (pt_cmpR op_eq (pv 2) pe_str (nomark _))
          (pss_cons (ps_if (pt_cmpR op_eq (pe_callB call_len_seq rfl g.len PySem.boot_len (pa_cons (pv 0) pa_nil)) pe_int (nomark _)) (pss_one (ps_ret pe_str)) pss_nil)
            (pss_one (ps_ret (pe_ifExp (pt_cmpR op_le (pv 3) (pe_callB call_len_seq rfl g.len PySem.boot_len (pa_cons (pv 0) pa_nil)) (nomark _))
              (pe_op op_catA (pe_op op_catA (pe_op op_catA (pv 4) (pe_tup (pa_cons (pe_ix ix_tup (pv 1) pe_int (fun _ _ => rfl)) pa_nil))) (pv 5)) (pv 6)) pe_str)))) pss_nil)
      (pss_cons (ps_if (pt_cmpR (op_eqD hr.units) (pv 5) (pe_tup pa_nil) (nomark _)) (pss_one (ps_ret pe_str)) pss_nil)
      (pss_cons (ps_if (pt_cmpR op_eq (pv 2) pe_str (nomark _)) (pss_one (ps_ret (pe_op op_catA (pv 4) (pv 6)))) pss_nil)
        (pss_one (ps_ret (pe_ifExp (pt_cmpR (op_eqD hr.units) (pv 5) (pe_slice sl_tupA (pv 1) (po_some pe_int) po_none) (nomark _)) pe_str
          (pe_op op_catA (pe_op op_catA (pv 4) (pe_slice sl_tupA (pv 1) (po_some pe_int) po_none)) (pv 6))))))))), ?_⟩
    refine ⟨_, rfl, 2, rfl, ?_⟩
    refine sl_some (K := K) ha fun H1 p1 S1 h1 => ?_
    rw [cut2] at h1
    refine ⟨p1, _, rfl, SqT.of h1, rfl, _, _, rfl, _, _, rfl, rfl, ?_⟩
    have hrs1 := S1 _ _ hrs
    refine ⟨_, rfl, _, rfl, d.at_, rfl, ?_⟩
    refine sl_some (K := K) hrs1 fun H2 p2 S2 h2 => ?_
    rw [cut_to] at h2
    refine ⟨_, rfl, _, rfl, d.at_, rfl, _, rfl, _, _, rfl, rfl, ((d.at_ + 1 : Nat) : Int), rfl, ?_⟩
    refine sl_some (K := K) (S2 _ _ hrs1) fun H3 p3 S3 h3 => ?_
    rw [cut_fromto, Nat.add_sub_cancel_left] at h3
    refine ⟨_, rfl, _, rfl, _, _, rfl, rfl, ((d.at_ + 1 : Nat) : Int), rfl, ?_⟩
    refine sl_from (S3 _ _ (S2 _ _ hrs1)) fun H4 p4 S4 h4 => ?_
    rw [cut_from] at h4
    refine ⟨_, _, _, rfl, ?_⟩
    have S : Same H H4 := S1.trans (S2.trans (S3.trans S4))
    have hrs4 := S _ _ hrs
    have ha4 := S _ _ ha
    have h24 := S4 _ _ (S3 _ _ h2)
    have h34 := S4 _ _ h3
    clear h1 h2 h3 hrs1 hrs ha
    have dl : ∀ (xs ys : List Str), xs.length ≤ 1000 → ys.length ≤ 1000 → (xs.map V.str).length + (ys.map V.str).length ≤ sizeLine := fun xs ys h1 h2 => by
      rw [sizeLine_eq, List.length_map, List.length_map]
      omega
    have l2 : (rs.take d.at_).length ≤ 1000 := Nat.le_trans (List.length_take_le' ..) hl
    have l3 : ((rs.drop d.at_).take 1).length ≤ 1 := by rw [List.length_take]; exact Nat.min_le_left ..
    have l4 : (rs.drop (d.at_ + 1)).length ≤ 1000 := by rw [List.length_drop]; omega
    cases d with
    | put i t =>
      simp only [Dd.at_] at h24 h34 h4 l2 l3 l4
      refine ⟨_, rfl, rfl, _, rfl, iteT ?_⟩
      refine ⟨_, rfl, r, _, rfl, .inr (SqT.of hrs4), rfl, _, rfl, ?_⟩
      rw [List.length_map]
      by_cases h60 : rs.length = 60
      · rw [h60]
        exact iteT (k1 "full" (by simp only [Dd.bar]; rw [if_pos h60]) H4 S)
      · rw [decide_eq_false (fun z => h60 (by have := V.int.inj z; omega))]
        refine iteF ?_
        refine ⟨_, rfl, _, rfl, r, _, rfl, .inr (SqT.of hrs4), _, _, rfl, rfl, _, rfl, ?_⟩
        rw [List.length_map]
        by_cases hf : i ≤ rs.length
        · rw [decide_eq_true (by show ((i : Nat) : Int) ≤ _; omega)]
          refine iteT ?_
          refine ⟨_, rfl, _, rfl, a, _, _, _, rfl, rfl, SqT.of ha4, (show atI _ 2 = some (.str t) from rfl), by rw [sizeLine_eq]; show 1 ≤ _; decide, fun q hq => ?_⟩
          have S5 : Same H4 (upd H4 q (.tup [.str t])) := same_upd hq
          have e5 : upd H4 q (.tup [.str t]) q = some (.tup ([t].map V.str)) := upd_same
          generalize upd H4 q (.tup [.str t]) = H5 at S5 e5 ⊢
          refine cat_some (S5 _ _ h24) e5 (dl _ _ l2 (by show 1 ≤ 1000; decide)) fun H6 q6 S6 h6 => ?_
          refine ⟨_, rfl, ?_⟩
          rw [← List.map_append] at h6
          refine cat_some h6 (S6 _ _ (S5 _ _ h34)) (by rw [sizeLine_eq]; simp only [List.length_map, List.length_append, List.length_cons, List.length_nil]; omega) fun H7 q7 S7 h7 => ?_
          refine ⟨_, rfl, ?_⟩
          rw [← List.map_append] at h7
          refine cat_some h7 (S7 _ _ (S6 _ _ (S5 _ _ h4))) (by rw [sizeLine_eq]; simp only [List.length_map, List.length_append, List.length_cons, List.length_nil]; omega) fun H8 q8 S8 h8 => ?_
          refine k2 (by simp only [Dd.bar]; rw [if_neg h60, if_neg (by omega)]) H8 q8 (S.trans (S5.trans (S6.trans (S7.trans S8)))) ?_
          rw [h8, ← List.map_append, List.append_assoc, one_rest, List.append_assoc]
          rfl
        · rw [decide_eq_false (by show ¬ ((i : Nat) : Int) ≤ _; omega)]
          exact iteF (k1 "far" (by simp only [Dd.bar]; rw [if_neg h60, if_pos (by omega)]) H4 S)
    | row i t =>
      simp only [Dd.at_] at h24 h34 h4 l2 l3 l4
      have dk : PyData.strOk t = true := dok
      refine ⟨_, rfl, rfl, _, rfl, iteF ?_⟩
      refine ⟨_, rfl, by rw [sizeLine_eq]; exact Nat.zero_le _, fun q hq => ?_⟩
      have S5 : Same H4 (upd H4 q (.tup [])) := same_upd hq
      have e5 : upd H4 q (.tup []) q = some (rowsO []) := upd_same
      generalize upd H4 q (.tup []) = H5 at S5 e5 ⊢
      refine ⟨_, _, dp_rows (S5 _ _ h34), dp_rows e5, rowsD_shaped (sok_part sok fun x hx => List.mem_of_mem_drop (List.mem_of_mem_take hx)), rowsD_shaped (fun _ h => absurd h List.not_mem_nil), _, rfl, ?_⟩
      rw [rowsD_eqv]
      by_cases h0 : rs.length ≤ i
      · rw [decide_eq_true ((one_nil rs i).mpr h0)]
        exact iteT (k1 "none" (by simp only [Dd.bar]; rw [if_pos h0]) H5 (S.trans S5))
      · rw [decide_eq_false (fun z => h0 ((one_nil rs i).mp z))]
        refine iteF ⟨_, rfl, rfl, _, rfl, iteF ?_⟩
        refine ⟨_, rfl, _, rfl, 2, rfl, ?_⟩
        refine sl_from (S5 _ _ ha4) fun H6 q6 S6 h6 => ?_
        have e6 : H6 q6 = some (rowsO [t]) := h6
        refine ⟨_, _, dp_rows (S6 _ _ (S5 _ _ h34)), dp_rows e6, rowsD_shaped (sok_part sok fun x hx => List.mem_of_mem_drop (List.mem_of_mem_take hx)), rowsD_shaped (fun x h => by rw [List.mem_singleton.mp h]; exact dk), _, rfl, ?_⟩
        rw [rowsD_eqv]
        by_cases hs : rs[i]? = some t
        · rw [decide_eq_true ((one_eq rs i t).mpr hs)]
          exact iteT (k1 "same" (by simp only [Dd.bar]; rw [if_neg h0, if_pos hs]) H6 (S.trans (S5.trans S6)))
        · rw [decide_eq_false (fun z => hs ((one_eq rs i t).mp z))]
          refine iteF ⟨_, rfl, _, rfl, 2, rfl, ?_⟩
          refine sl_from (S6 _ _ (S5 _ _ ha4)) fun H7 q7 S7 h7 => ?_
          have e7 : H7 q7 = some (rowsO [t]) := h7
          refine cat_some (S7 _ _ (S6 _ _ (S5 _ _ h24))) e7 (dl _ _ l2 (by show 1 ≤ 1000; decide)) fun H8 q8 S8 h8 => ?_
          rw [← List.map_append] at h8
          refine ⟨_, rfl, ?_⟩
          refine cat_some h8 (S8 _ _ (S7 _ _ (S6 _ _ (S5 _ _ h4)))) (by rw [sizeLine_eq]; simp only [List.length_map, List.length_append, List.length_cons, List.length_nil]; omega) fun H9 q9 S9 h9 => ?_
          refine k2 (by simp only [Dd.bar]; rw [if_neg h0, if_neg hs]) H9 q9 (S.trans (S5.trans (S6.trans (S7.trans (S8.trans S9))))) ?_
          rw [h9, ← List.map_append, List.append_assoc]
          rfl
    | out i =>
      simp only [Dd.at_] at h24 h34 h4 l2 l3 l4
      refine ⟨_, rfl, rfl, _, rfl, iteF ?_⟩
      refine ⟨_, rfl, by rw [sizeLine_eq]; exact Nat.zero_le _, fun q hq => ?_⟩
      have S5 : Same H4 (upd H4 q (.tup [])) := same_upd hq
      have e5 : upd H4 q (.tup []) q = some (rowsO []) := upd_same
      generalize upd H4 q (.tup []) = H5 at S5 e5 ⊢
      refine ⟨_, _, dp_rows (S5 _ _ h34), dp_rows e5, rowsD_shaped (sok_part sok fun x hx => List.mem_of_mem_drop (List.mem_of_mem_take hx)), rowsD_shaped (fun _ h => absurd h List.not_mem_nil), _, rfl, ?_⟩
      rw [rowsD_eqv]
      by_cases h0 : rs.length ≤ i
      · rw [decide_eq_true ((one_nil rs i).mpr h0)]
        exact iteT (k1 "none" (by simp only [Dd.bar]; rw [if_pos h0]) H5 (S.trans S5))
      · rw [decide_eq_false (fun z => h0 ((one_nil rs i).mp z))]
        refine iteF ⟨_, rfl, rfl, _, rfl, iteT ?_⟩
        refine ⟨_, rfl, _, rfl, ?_⟩
        refine cat_some (S5 _ _ h24) (S5 _ _ h4) (dl _ _ l2 l4) fun H6 q6 S6 h6 => ?_
        refine k2 (by simp only [Dd.bar]; rw [if_neg h0]) H6 q6 (S.trans (S5.trans S6)) ?_
        rw [h6, ← List.map_append]
        rfl
end
end K11

/-! due of, deed, said of. -/
namespace K11
open PySem PySem.Spec C8 Xo Yo
open L2 hiding Fun CX0 pass0 E0
open TL (tl)
section
variable {P : Program} {w : World} {K : PySem.W.Frag} {mg : Str → Option Value} {base : Heap} {f f1 f2 f3 C CT CB CI : Addr} {fd fd1 fd2 fd3 : FuncData}
abbrev sDue : Stmt := top 211
def barT : Str := "barred "
def spDue : Sp := fun vs H Q _ => (∃ (a : Addr) (xs : List V), vs = [.ref a] ∧ H a = some (.tup xs) ∧ Q (.str "done") H) ∨ (∃ z : Str, vs = [.str z] ∧ z.length ≤ 1000 ∧ Q (.str (barT ++ z)) H)
theorem scDue : FnScope ["after"] ["after"] (fnScope sDue) := fnScope_by (by decide +kernel)
theorem ok_due (g : G mg) (F : Fun K "_law_due_of" "_law_due_of" sDue f fd) : FnOk P w K mg base CX0 1 f fd ["after"] spDue := by
  refine fn0 F scDue (fun vs H Q E h => ?_) (fun cdv A outer s H vs Q E hr h => ?_)
  · rcases h with ⟨a, xs, rfl, _⟩ | ⟨z, rfl, _⟩ <;> rfl
  · refine ⟨_, pss_one (ps_ret (pe_ifExp (pt_val (pe_callB call_isi (by rfl) g.isi PyProof.Rows.boot_isinstance (pa_cons (pv 0) (pa_cons (pe_bltn (v := .ty "tuple") (by rfl) g.tuple PyProof.Rows.boot_tuple rfl) pa_nil)))) pe_str (pe_op op_add_str pe_str (pv 0)))), ?_⟩
    rcases h with ⟨a, xs, rfl, ha, k⟩ | ⟨z, rfl, hz, k⟩
    · refine ⟨_, rfl, .ref a, .ty "tuple", .type "tuple", .type "tuple", true, rfl, .ty "tuple", .base (.tup ha), kit_ty (by decide +kernel), true, rfl, ?_⟩
      exact iteT k
    · refine ⟨_, rfl, .str z, .ty "tuple", .type "str", .type "tuple", false, rfl, .ty "tuple", .base (.str z), kit_ty (by decide +kernel), false, rfl, ?_⟩
      refine iteF ⟨_, rfl, _, _, rfl, rfl, ?_, k⟩
      rw [sizeLine_eq]
      show 7 + z.length ≤ _
      omega

/-! ### a deed -/
abbrev sDeed : Stmt := top 210
def Dd.of (ts : List Str) : Dd → Prop
  | .put _ t => t ∈ ts
  | .row _ t => t ∈ ts
  | .out _ => True
def spDeed : Sp := fun vs H Q _ => ∃ (c r l : Addr) (ro he : Int) (rs ts : List Str), vs = [.ref c, .ref r, .ref l] ∧ H c = some (crt ro he) ∧ Crt ro he ∧ H r = some (rowsO rs) ∧ H l = some (.lst (ts.map V.str)) ∧ rs.length ≤ 1000 ∧ 0 < ts.length ∧ ts.length < 1000 ∧
  ∀ (H' : Hp) (a : Addr) (d : Dd) (ro' he' : Int), But c H H' → H' c = some (crt ro' he') → Crt ro' he' → H' a = some (deedO d) → d.of ts → Q (.ref a) H'
theorem scDeed : FnScope ["court", "rows", "texts", "at", "word"] ["court", "rows", "texts"] (fnScope sDeed) := fnScope_by (by decide +kernel)
theorem ok_deed (g : G mg) (F : Fun K "_law_deed" "_law_deed" sDeed f fd) (F1 : FnOk P w K mg base CX0 1 f1 fd1 ["court", "many"] spCall) (a1 : At K mg "_law_call" f1) (b1 : Binds K fd1 ["court", "many"] [])
    (F2 : FnOk P w K mg base CX0 2 f2 fd2 ["court", "some"] (spOne K)) (a2 : At K mg "_law_one_of" f2) (b2 : Binds K fd2 ["court", "some"] []) : FnOk P w K mg base CX0 3 f fd ["court", "rows", "texts"] spDeed := by
  refine fn0 F scDeed (fun vs H Q E h => ?_) (fun cdv A outer s H vs Q E hr h => ?_)
  · obtain ⟨c, r, l, _, _, _, _, rfl, _⟩ := h
    rfl
  · obtain ⟨c, r, l, ro, he, rs, ts, rfl, hc, hC, hrs, hl, l1, l2, l3, k⟩ := h
    refine ⟨_, pss_cons (ps_set (i := 3) scDeed.nd rfl (Or.inl rfl) (pe_call F2 hr rfl a2.m a2.k b2 .nil (pass0 (E := C8.E0)) (pa_cons (pv 0) (pa_cons (pe_op op_cat (pe_op op_rep (pe_lst (pa_cons (pe_call F1 (hr.mono (by decide)) rfl a1.m a1.k b1 .nil (pass0 (E := C8.E0)) (pa_cons (pv 0) (pa_cons (pe_op op_add (pe_callB call_len_seq rfl g.len PySem.boot_len (pa_cons (pv 1) pa_nil)) pe_int) pa_nil))) pa_nil)) pe_int) (pe_lst (pa_cons (pe_op op_add (pe_callB call_len_seq rfl g.len PySem.boot_len (pa_cons (pv 1) pa_nil)) pe_int) pa_nil))) pa_nil))))
      (pss_cons (ps_set (i := 4) scDeed.nd rfl (Or.inl rfl) (pe_call F2 hr rfl a2.m a2.k b2 .nil (pass0 (E := C8.E0)) (pa_cons (pv 0) (pa_cons (pe_lst (pa_cons pe_str (pa_cons pe_str (pa_cons pe_str (pa_cons pe_str (pa_cons pe_str pa_nil)))))) pa_nil))))
        (pss_one (ps_ret (pe_ifExp (pt_cmpR op_eq (pv 4) pe_str (nomark _)) (pe_tup (pa_cons (pv 4) (pa_cons (pv 3) pa_nil)))
          (pe_tup (pa_cons (pv 4) (pa_cons (pv 3) (pa_cons (pe_call F2 hr rfl a2.m a2.k b2 .nil (pass0 (E := C8.E0)) (pa_cons (pv 0) (pa_cons (pv 2) pa_nil))) pa_nil)))))))), ?_⟩
    refine ⟨_, rfl, _, rfl, _, rfl, r, _, rfl, .inr (SqT.of hrs), _, _, rfl, rfl, c, ro, he, _, rfl, hc, hC, ?_, ?_, fun H1 v ro1 he1 B1 hc1 hC1 v0 v1 => ?_⟩
    · omega
    · rw [List.length_map]; omega
    have nrc : r ≠ c := ne_of hrs hc (by intro q; cases q)
    have nlc : l ≠ c := ne_of hl hc (by intro q; cases q)
    obtain ⟨i, rfl⟩ : ∃ i : Nat, v = i := ⟨v.toNat, by omega⟩
    refine ⟨by rw [sizeLine_eq]; show 1 ≤ _; decide, fun p1 hp1 => ?_⟩
    have S2 : Same H1 (upd H1 p1 (.lst [.int (i : Nat)])) := same_upd hp1
    have e2 : upd H1 p1 (.lst [.int (i : Nat)]) p1 = some (.lst [.int (i : Nat)]) := upd_same
    generalize upd H1 p1 (.lst [.int (i : Nat)]) = H2 at S2 e2 ⊢
    refine ⟨_, _, _, rfl, rfl, e2, by decide, by decide, by rw [sizeLine_eq]; show 1 * 9 ≤ _; decide, fun p2 hp2 => ?_⟩
    generalize hH3 : upd H2 p2 (HO.lst _) = H3
    have S3 : Same H2 H3 := by rw [← hH3]; exact same_upd hp2
    have e3 : H3 p2 = some (.lst [.int i, .int i, .int i, .int i, .int i, .int i, .int i, .int i, .int i]) := by rw [← hH3]; exact upd_same
    refine ⟨_, rfl, r, _, rfl, .inr (SqT.of (S3 _ _ (S2 _ _ (B1 _ _ nrc hrs)))), _, _, rfl, rfl, by rw [sizeLine_eq]; show 1 ≤ _; decide, fun p4 hp4 => ?_⟩
    have e4 : upd H3 p4 (.lst [V.int ((rs.map V.str).length + 6)]) p4 = some (.lst [V.int ((rs.map V.str).length + 6)]) := upd_same
    have S4 : Same H3 (upd H3 p4 (.lst [V.int ((rs.map V.str).length + 6)])) := same_upd hp4
    generalize upd H3 p4 (.lst [V.int ((rs.map V.str).length + 6)]) = H4 at S4 e4 ⊢
    refine ⟨_, _, _, _, rfl, rfl, S4 _ _ e3, e4, by rw [sizeLine_eq]; show 9 + 1 ≤ _; decide, fun p5 hp5 => ?_⟩
    have S5 : Same H4 _ := same_upd (o := .lst ([V.int i, .int i, .int i, .int i, .int i, .int i, .int i, .int i, .int i] ++ [V.int ((rs.map V.str).length + 6)])) hp5
    have e5 : upd H4 p5 (.lst ([V.int i, .int i, .int i, .int i, .int i, .int i, .int i, .int i, .int i] ++ [V.int ((rs.map V.str).length + 6)])) p5 = _ := upd_same
    generalize upd H4 p5 (.lst ([V.int i, .int i, .int i, .int i, .int i, .int i, .int i, .int i, .int i] ++ [V.int ((rs.map V.str).length + 6)])) = H5 at S5 e5 ⊢
    have B5 : But c H H5 := (((B1.trans (But.of_same S2)).trans (But.of_same S3)).trans (But.of_same S4)).trans (But.of_same S5)
    have hc5 := S5 _ _ (S4 _ _ (S3 _ _ (S2 _ _ hc1)))
    refine ⟨c, p5, ro1, he1, _, rfl, hc5, hC1, e5, by show 0 < 10; decide, by show 10 < 1000; decide, fun H6 j v ro6 he6 B6 hc6 hC6 hv => ?_⟩
    have hat : ∃ n : Nat, v = .int n := by
      have hm := List.mem_of_getElem? hv
      simp only [List.mem_append, List.mem_cons, List.not_mem_nil, or_false] at hm
      rcases hm with hm | hm
      · exact ⟨i, by rcases hm with h | h | h | h | h | h | h | h | h <;> exact h⟩
      · exact ⟨(rs.map V.str).length + 6, hm⟩
    obtain ⟨n, rfl⟩ := hat
    refine ⟨_, rfl, by rw [sizeLine_eq]; show 5 ≤ _; decide, fun p7 hp7 => ?_⟩
    have S7 : Same H6 (upd H6 p7 (.lst [.str "row", .str "put", .str "out", .str "put", .str "row"])) := same_upd hp7
    have e7 : upd H6 p7 (.lst [.str "row", .str "put", .str "out", .str "put", .str "row"]) p7 = some (.lst [.str "row", .str "put", .str "out", .str "put", .str "row"]) := upd_same
    generalize upd H6 p7 (.lst [.str "row", .str "put", .str "out", .str "put", .str "row"]) = H7 at S7 e7 ⊢
    refine ⟨c, p7, ro6, he6, _, rfl, S7 _ _ hc6, hC6, e7, by decide, by decide, fun H8 j2 v2 ro8 he8 B8 hc8 hC8 hv2 => ?_⟩
    have B : But c H H8 := ((B5.trans B6).trans (But.of_same S7)).trans B8
    have hw : v2 = .str "row" ∨ v2 = .str "put" ∨ v2 = .str "out" := by
      have hm := List.mem_of_getElem? hv2
      simp only [List.mem_cons, List.not_mem_nil, or_false] at hm
      rcases hm with h | h | h | h | h
      · exact .inl h
      · exact .inr (.inl h)
      · exact .inr (.inr h)
      · exact .inr (.inl h)
      · exact .inl h
    have fin : ∀ (z : Str) (mk : Str → Dd), (∀ t, deedO (mk t) = .tup [.str z, .int n, .str t]) → (∀ t, t ∈ ts → (mk t).of ts) → ∃ (x : V), ([some (V.ref c), some (.ref r), some (.ref l), some (.int n), some (.str z)] : L2.St)[0]? = some (some x) ∧ True := fun z mk _ _ => ⟨_, rfl, trivial⟩
    have go : ∀ (z : Str) (mk : Str → Dd), (∀ t, deedO (mk t) = .tup [.str z, .int n, .str t]) → (∀ t, t ∈ ts → (mk t).of ts) → spOne K [.ref c, .ref l] H8 (fun x Hx => 3 ≤ sizeLine ∧ ∀ p, Hx p = none → Q (.ref p) (upd Hx p (.tup [.str z, .int n, x]))) C8.E0 := fun z mk h1 h2 => by
      refine ⟨c, l, ro8, he8, _, rfl, hc8, hC8, B _ _ nlc hl, by rw [List.length_map]; exact l2, by rw [List.length_map]; exact l3, fun H9 j3 v3 ro9 he9 B9 hc9 hC9 hv3 => ⟨by rw [sizeLine_eq]; decide, fun p hp => ?_⟩⟩
      obtain ⟨t, ht, rfl⟩ := List.mem_map.mp (List.mem_of_getElem? hv3)
      refine k _ p (mk t) ro9 he9 ((B.trans B9).trans (But.of_same (same_upd hp))) (same_upd hp _ _ hc9) hC9 ?_ (h2 t ht)
      rw [upd_same, h1]
    rcases hw with rfl | rfl | rfl
    · refine ⟨_, rfl, rfl, _, rfl, iteF ?_⟩
      exact ⟨_, rfl, _, rfl, _, rfl, _, rfl, go "row" (Dd.row n) (fun _ => rfl) fun _ h => h⟩
    · refine ⟨_, rfl, rfl, _, rfl, iteF ?_⟩
      exact ⟨_, rfl, _, rfl, _, rfl, _, rfl, go "put" (Dd.put n) (fun _ => rfl) fun _ h => h⟩
    · refine ⟨_, rfl, rfl, _, rfl, iteT ?_⟩
      refine ⟨_, rfl, _, rfl, by rw [sizeLine_eq]; show 2 ≤ _; decide, fun p hp => ?_⟩
      exact k _ p (.out n) ro8 he8 (B.trans (But.of_same (same_upd hp))) (same_upd hp _ _ hc8) hC8 upd_same trivial

/-! ### said of -/
abbrev sSaid : Stmt := top 209
def spSaid (C : Addr) : Sp := fun vs H Q _ => ∃ (b a : Addr) (beg rs : List Str) (ds : List Dd) (ps : List (List Str)) (d : Dd), vs = [.ref b, .ref a] ∧ DeskAt C H b beg rs ds ps ∧ H a = some (deedO d) ∧ d.ok ∧ rs.length ≤ 1000 ∧ ds.length ≤ 1000 ∧ ps.length ≤ 1000 ∧
  (∀ z, d.bar rs = some z → ∀ H', Same H H' → Q (.str (barT ++ z)) H') ∧
  (d.bar rs = none → ∀ H', But b H H' → DeskAt C H' b beg (d.app rs) (ds ++ [d]) (ps ++ [rs]) → Q (.str "done") H')
theorem scSaid : FnScope ["desk", "deed", "e"] ["desk", "deed"] (fnScope sSaid) := fnScope_by (by decide +kernel)
theorem bar_len {d : Dd} {rs : List Str} {z : Str} (h : d.bar rs = some z) : z.length ≤ 1000 := by
  have : z = "full" ∨ z = "far" ∨ z = "none" ∨ z = "same" := by
    cases d with
    | put i t =>
      simp only [Dd.bar] at h
      split at h
      · exact .inl (Option.some.inj h).symm
      · split at h
        · exact .inr (.inl (Option.some.inj h).symm)
        · cases h
    | row i t =>
      simp only [Dd.bar] at h
      split at h
      · exact .inr (.inr (.inl (Option.some.inj h).symm))
      · split at h
        · exact .inr (.inr (.inr (Option.some.inj h).symm))
        · cases h
    | out i =>
      simp only [Dd.bar] at h
      split at h
      · exact .inr (.inr (.inl (Option.some.inj h).symm))
      · cases h
  rcases this with rfl | rfl | rfl | rfl <;> decide
theorem ok_said (T : DkC K C) (B : ErC P w K mg "Barred" "reason" CB) (xB : PySem.W.exmOne K (.ref CB) (.ref CB) = some true) (mI : mg "InvalidDeed" = some (.ref CI)) (F : Fun K "_law_said_of" "_law_said_of" sSaid f fd)
    (F1 : FnOk P w K mg base (L2.CX P w) 4 f1 fd1 ["self", "deed"] (spDo C CB)) (h1 : Meth K C "do" f1) (b1 : Binds K fd1 ["self", "deed"] []) : FnOk P w K mg base CX0 5 f fd ["desk", "deed"] (spSaid C) := by
  refine fn0 F scSaid (fun vs H Q E h => ?_) (fun cdv A outer s H vs Q E hr h => ?_)
  · obtain ⟨b, a, _, _, _, _, _, rfl, _⟩ := h
    rfl
  · obtain ⟨b, a, beg, rs, ds, ps, d, rfl, hD, ha, hok, l1, l2, l3, k1, k2⟩ := h
    refine ⟨_, pss_cons (ps_try_manyAs (l := [(.ref CB, 2, _), (.ref CI, 2, _)]) rfl rfl scSaid.nd takes0
        (fun W pn xe tk hx => pss_one (ps_expr (pe_methT (E := fun σ => WE W σ) (pv 0) T.cl h1 F1 hr b1 (fun σ => passAt tk σ) (pa_cons (pv 1) pa_nil))))
        (.cons rfl rfl ⟨rfl, by decide, .inl B.gC⟩ (fun a' oe cls d' pn hz hf => pss_one (ps_ret (pe_op op_add_str pe_str (pe_xf B.xf B.no hz hf (pv 2)))))
          (.cons rfl rfl ⟨rfl, by decide, .inl mI⟩ (fun a' oe cls d' pn hz hf => pss_never) .nil)))
      (pss_one (ps_ret pe_str)), ?_⟩
    have hb := hD
    obtain ⟨dx, r0, r, dd, p, das, pas, e1, _⟩ := hb
    refine ⟨_, rfl, b, dx, _, rfl, e1, rfl, _, rfl, b, a, beg, rs, ds, ps, d, rfl, hD, ha, hok, l1, l2, l3, fun z hz H1 e S1 he => ?_, fun hn H1 B1 hD1 => ?_⟩
    · refine ⟨true, xB, fun _ a' ha' => ?_, fun z => by cases z⟩
      refine ⟨_, rfl, rfl, rfl, e, _, .str z, rfl, he, rfl, ?_⟩
      refine ⟨_, _, rfl, rfl, by rw [sizeLine_eq]; have := bar_len hz; show 7 + z.length ≤ _; omega, k1 z hz H1 S1⟩
    · exact k2 hn H1 B1 hD1
end
end K11

/-! The text of a small book with asks. -/
namespace K11
open PySem PySem.Spec C8 Xo Yo
open L2 hiding Fun CX0 pass0 E0
open TL (tl)
section
variable {P : Program} {w : World} {K : PySem.W.Frag} {mg : Str → Option Value} {base : Heap} {f f1 f2 f3 C CT CB CI : Addr} {fd fd1 fd2 fd3 : FuncData}
/-- a row of few signs -/
def rowB (r : Str) : Bool := decide (10 ∉ tl r) && (decide (r.length ≤ 150) && PyData.strOk r)
theorem pg_snoc {n : Nat} {rs : List Str} {r : Str} (h : Pg n 150 rs) (hr : rowB r = true) : Pg (n + 1) 150 (rs ++ [r]) := by
  unfold rowB at hr
  simp only [Bool.and_eq_true, decide_eq_true_eq] at hr
  refine ⟨by rw [List.length_append]; exact Nat.succ_le_succ h.1, fun x hx => ?_⟩
  rcases List.mem_append.mp hx with hx | hx
  · exact h.2 x hx
  · rw [List.mem_singleton.mp hx]
    exact hr
def namesA : List Str := ["y", "z", "a"]
def treesA : List Str := ["v y", "p v y v z", "l [y] v y", "l [z] p v y v z", "p l [y] v y v y", "l [y] l [y] p v y v z"]
def askA (j n t : Str) : Str := "ask " ++ j ++ " " ++ n ++ " : " ++ t
def askR (t : Str) : Str := "ask right " ++ t
def askL (j : Str) : Str := "ask alike " ++ j ++ " " ++ j
theorem asks_ok : (marksJ.all fun j => rowB (askL j) && namesA.all fun n => treesA.all fun t => rowB (askA j n t)) = true := by decide +kernel
theorem askR_ok : (marksT.all fun t => rowB (askR t)) = true := by decide +kernel
theorem askA_ok {j n t : Str} (hj : j ∈ marksJ) (hn : n ∈ namesA) (ht : t ∈ treesA) : rowB (askA j n t) = true := by
  have h := asks_ok
  simp only [List.all_eq_true, Bool.and_eq_true] at h
  exact (h j hj).2 n hn t ht
theorem askL_ok {j : Str} (hj : j ∈ marksJ) : rowB (askL j) = true := by
  have h := asks_ok
  simp only [List.all_eq_true, Bool.and_eq_true] at h
  exact (h j hj).1
theorem askRt_ok {t : Str} (ht : t ∈ marksT) : rowB (askR t) = true := by
  have h := askR_ok
  simp only [List.all_eq_true] at h
  exact h t ht
theorem len_pg {n : Nat} {rs : List Str} (h : Pg n 150 rs) : (unl rs).length ≤ n * 151 := Nat.le_trans (len_unl rs fun r hr => (h.2 r hr).2.1) (Nat.mul_le_mul_right _ h.1)
theorem app_assoc (x y z : Str) : x ++ y ++ z = x ++ (y ++ z) := tl_ext (by rw [TL.tl_append, TL.tl_append, TL.tl_append, TL.tl_append, List.append_assoc])
theorem unl_ask (rs : List Str) (j n t : Str) : unl rs ++ "ask " ++ j ++ " " ++ n ++ " : " ++ t ++ "\n" = unl (rs ++ [askA j n t]) := by
  rw [← unl_snoc]
  unfold askA
  simp only [app_assoc]
theorem shortJ {j : Str} (h : j ∈ marksJ) : j.length ≤ 10 := by
  have z : (marksJ.all fun j => decide (j.length ≤ 10)) = true := by decide +kernel
  simp only [List.all_eq_true, decide_eq_true_eq] at z
  exact z j h
theorem shortT {j : Str} (h : j ∈ marksT) : j.length ≤ 10 := by
  have z : (marksT.all fun j => decide (j.length ≤ 10)) = true := by decide +kernel
  simp only [List.all_eq_true, decide_eq_true_eq] at z
  exact z j h
theorem shortN {j : Str} (h : j ∈ namesA) : j.length ≤ 10 := by
  have z : (namesA.all fun j => decide (j.length ≤ 10)) = true := by decide +kernel
  simp only [List.all_eq_true, decide_eq_true_eq] at z
  exact z j h
theorem shortR {j : Str} (h : j ∈ treesA) : j.length ≤ 30 := by
  have z : (treesA.all fun j => decide (j.length ≤ 30)) = true := by decide +kernel
  simp only [List.all_eq_true, decide_eq_true_eq] at z
  exact z j h
theorem mem_str {ts : List Str} {i : Nat} {v : V} (h : (ts.map V.str)[i]? = some v) : ∃ t, v = .str t ∧ t ∈ ts := by
  obtain ⟨t, ht, rfl⟩ := List.mem_map.mp (List.mem_of_getElem? h)
  exact ⟨t, rfl, ht⟩
abbrev sAsks : Stmt := top 212
def spAsks : Sp := fun vs H Q _ => ∃ (c : Addr) (r h : Int), vs = [.ref c] ∧ H c = some (crt r h) ∧ Crt r h ∧
  ∀ (H' : Hp) (r' h' : Int) (rows : List Str), But c H H' → H' c = some (crt r' h') → Crt r' h' → Pg 40 150 rows → Q (.str (unl rows)) H'
theorem scAsks : FnScope ["court", "judge", "turner", "page", "trees", "lap", "name"] ["court"] (fnScope sAsks) := fnScope_by (by decide +kernel)
theorem ok_asks (g : G mg) (F : Fun K "_law_small_asks" "_law_small_asks" sAsks f fd) (F1 : FnOk P w K mg base CX0 2 f1 fd1 ["court", "some"] (spOne K)) (a1 : At K mg "_law_one_of" f1) (b1 : Binds K fd1 ["court", "some"] [])
    (F2 : FnOk P w K mg base CX0 3 f2 fd2 ["court", "some"] spSmall) (a2 : At K mg "_law_small" f2) (b2 : Binds K fd2 ["court", "some"] []) : FnOk P w K mg base CX0 4 f fd ["court"] spAsks := by
  refine fn0 F scAsks (fun vs H Q E h => ?_) (fun cdv A outer s H vs Q E hr h => ?_)
  · obtain ⟨c, r, h, rfl, _⟩ := h
    rfl
  · obtain ⟨c, r, h, rfl, hc, hC, k⟩ := h
    refine ⟨_, pss_cons (ps_par (i := 1) (j := 2) rfl scAsks.nd rfl rfl (by decide) rfl rfl (pa_cons (pe_call F1 (hr.mono (by decide)) rfl a1.m a1.k b1 .nil (pass0 (E := C8.E0)) (pa_cons (pv 0) (pa_cons (pe_lst (pa_cons pe_str (pa_cons pe_str (pa_cons pe_str pa_nil)))) pa_nil)))
          (pa_cons (pe_call F1 (hr.mono (by decide)) rfl a1.m a1.k b1 .nil (pass0 (E := C8.E0)) (pa_cons (pv 0) (pa_cons (pe_lst (pa_cons pe_str (pa_cons pe_str (pa_cons pe_str pa_nil)))) pa_nil))) pa_nil)) (by rfl))
      (pss_cons (ps_set (i := 3) scAsks.nd rfl (Or.inl rfl) (pe_call F2 hr rfl a2.m a2.k b2 .nil (pass0 (E := C8.E0)) (pa_cons (pv 0) (pa_cons (pe_lst (pa_cons (pv 1) (pa_cons (pv 2) pa_nil))) pa_nil))))
      (pss_cons (ps_set (i := 4) scAsks.nd rfl (Or.inl rfl) (pe_lst (pa_cons pe_str (pa_cons pe_str (pa_cons pe_str (pa_cons pe_str (pa_cons pe_str (pa_cons pe_str pa_nil))))))))
      (pss_cons (ps_for PassesOwn.never rfl (pi_range1 (by rfl) g.range (pa_cons pe_int pa_nil)) (pg_name (i := 5) scAsks.nd rfl (Or.inl rfl))
          (pss_cons (ps_set (i := 6) scAsks.nd rfl (Or.inl rfl) (pe_call F1 (hr.mono (by decide)) rfl a1.m a1.k b1 .nil (pass0 (E := C8.E0)) (pa_cons (pv 0) (pa_cons (pe_lst (pa_cons pe_str (pa_cons pe_str (pa_cons pe_str pa_nil)))) pa_nil))))
            (pss_one (ps_set (i := 3) scAsks.nd rfl (Or.inl rfl) (pe_op op_add_str (pe_op op_add_str (pe_op op_add_str (pe_op op_add_str (pe_op op_add_str (pe_op op_add_str (pe_op op_add_str (pv 3) pe_str) (pv 1)) pe_str) (pv 6)) pe_str)
              (pe_call F1 (hr.mono (by decide)) rfl a1.m a1.k b1 .nil (pass0 (E := C8.E0)) (pa_cons (pv 0) (pa_cons (pv 4) pa_nil)))) pe_str)))))
        (pss_one (ps_ret (pe_op op_add_str (pe_op op_add_str (pv 3) (pe_call F1 (hr.mono (by decide)) rfl a1.m a1.k b1 .nil (pass0 (E := C8.E0)) (pa_cons (pv 0) (pa_cons (pe_lst (pa_cons (pe_op op_add_str pe_str (pv 2)) (pa_cons (pe_op op_add_str (pe_op op_add_str (pe_op op_add_str pe_str (pv 1)) pe_str) (pv 1)) pa_nil))) pa_nil)))) pe_str)))))), ?_⟩
    refine ⟨_, rfl, by rw [sizeLine_eq]; show 3 ≤ _; decide, fun p1 hp1 => ?_⟩
    generalize hH1 : upd H p1 (HO.lst _) = H1
    have S1 : Same H H1 := by rw [← hH1]; exact same_upd hp1
    have e1 : H1 p1 = some (.lst (marksJ.map V.str)) := by rw [← hH1]; exact upd_same
    refine ⟨c, p1, r, h, _, rfl, S1 _ _ hc, hC, e1, by decide, by decide, fun H2 i2 v2 r2 h2 B2 hc2 hC2 hv2 => ?_⟩
    obtain ⟨j, rfl, hj⟩ := mem_str hv2
    refine ⟨_, rfl, by rw [sizeLine_eq]; show 3 ≤ _; decide, fun p3 hp3 => ?_⟩
    generalize hH3 : upd H2 p3 (HO.lst _) = H3
    have S3 : Same H2 H3 := by rw [← hH3]; exact same_upd hp3
    have e3 : H3 p3 = some (.lst (marksT.map V.str)) := by rw [← hH3]; exact upd_same
    refine ⟨c, p3, r2, h2, _, rfl, S3 _ _ hc2, hC2, e3, by decide, by decide, fun H4 i4 v4 r4 h4 B4 hc4 hC4 hv4 => ?_⟩
    obtain ⟨t, rfl, ht⟩ := mem_str hv4
    refine ⟨_, _, rfl, ?_⟩
    refine ⟨_, rfl, _, rfl, _, rfl, by rw [sizeLine_eq]; show 2 ≤ _; decide, fun p5 hp5 => ?_⟩
    generalize hH5 : upd H4 p5 (HO.lst _) = H5
    have S5 : Same H4 H5 := by rw [← hH5]; exact same_upd hp5
    have e5 : H5 p5 = some (.lst [.str j, .str t]) := by rw [← hH5]; exact upd_same
    refine ⟨c, p5, r4, h4, j, t, rfl, S5 _ _ hc4, hC4, e5, hj, ht, fun H6 r6 h6 rows B6 hc6 hC6 pg => ?_⟩
    refine ⟨by rw [sizeLine_eq]; show 6 ≤ _; decide, fun p7 hp7 => ?_⟩
    generalize hH7 : upd H6 p7 (HO.lst _) = H7
    have S7 : Same H6 H7 := by rw [← hH7]; exact same_upd hp7
    have e7 : H7 p7 = some (.lst (treesA.map V.str)) := by rw [← hH7]; exact upd_same
    have B7 : But c H H7 := ((((((But.of_same S1).trans B2).trans (But.of_same S3)).trans B4).trans (But.of_same S5)).trans B6).trans (But.of_same S7)
    have hc7 := S7 _ _ hc6
    have n7 : p7 ≠ c := ne_of e7 hc7 (by intro q; cases q)
    have hj1 := shortJ hj
    have ht1 := shortT ht
    refine ⟨2, rfl, by decide, by decide, for_it walk_range (fun i σ H' => ∃ (rows : List Str) (r h : Int) (v5 v6 : Option V), σ = [some (.ref c), some (.str j), some (.str t), some (.str (unl rows)), some (.ref p7), v5, v6] ∧ Pg (30 + i) 150 rows ∧ But c H7 H' ∧ H' c = some (crt r h) ∧ Crt r h)
      ⟨rows, r6, h6, none, none, rfl, pg, But.refl, hc7, hC6⟩ (fun _ _ _ _ _ => trivial) ?_ ?_⟩
    · rintro i v σ H8 H9 hi ⟨rows, r8, h8, v5, v6, rfl, pg, B, hc8, hC8⟩ ⟨rfl, rfl⟩
      have hi2 : i < 2 := hi
      refine ⟨_, rfl, by rw [sizeLine_eq]; show 3 ≤ _; decide, fun p9 hp9 => ?_⟩
      generalize hH10 : upd H9 p9 (HO.lst _) = H10
      have S10 : Same H9 H10 := by rw [← hH10]; exact same_upd hp9
      have e10 : H10 p9 = some (.lst (namesA.map V.str)) := by rw [← hH10]; exact upd_same
      refine ⟨c, p9, r8, h8, _, rfl, S10 _ _ hc8, hC8, e10, by decide, by decide, fun H11 i11 v11 r11 h11 B11 hc11 hC11 hv11 => ?_⟩
      obtain ⟨n, rfl, hn⟩ := mem_str hv11
      have lp := len_pg pg
      have hn1 := shortN hn
      have l0 : (30 + i) * 151 ≤ 32 * 151 := Nat.mul_le_mul_right _ (by omega)
      have B11' : But c H7 H11 := (B.trans (But.of_same S10)).trans B11
      refine ⟨_, rfl, _, _, rfl, rfl, ?_, _, rfl, _, _, rfl, rfl, ?_, _, _, rfl, rfl, ?_, _, rfl, _, _, rfl, rfl, ?_, _, _, rfl, rfl, ?_, _, rfl, _, rfl, c, p7, r11, h11, _, rfl, hc11, hC11, B11' _ _ n7 e7, by decide, by decide, fun H12 i12 v12 r12 h12 B12 hc12 hC12 hv12 => ?_⟩
      · rw [sizeLine_eq]; show (unl rows).length + 4 ≤ _; omega
      · simp only [len_app]; rw [sizeLine_eq]; show (unl rows).length + 4 + j.length ≤ _; omega
      · simp only [len_app]; rw [sizeLine_eq]; show (unl rows).length + 4 + j.length + 1 ≤ _; omega
      · simp only [len_app]; rw [sizeLine_eq]; show (unl rows).length + 4 + j.length + 1 + n.length ≤ _; omega
      · simp only [len_app]; rw [sizeLine_eq]; show (unl rows).length + 4 + j.length + 1 + n.length + 3 ≤ _; omega
      obtain ⟨tr, rfl, htr⟩ := mem_str hv12
      have htr1 := shortR htr
      refine ⟨_, _, rfl, rfl, ?_, _, _, rfl, rfl, ?_, ?_⟩
      · simp only [len_app]; rw [sizeLine_eq]; show (unl rows).length + 4 + j.length + 1 + n.length + 3 + tr.length ≤ _; omega
      · simp only [len_app]; rw [sizeLine_eq]; show (unl rows).length + 4 + j.length + 1 + n.length + 3 + tr.length + 1 ≤ _; omega
      exact ⟨rows ++ [askA j n tr], r12, h12, some (.int (0 + i)), some (.str n), (by rw [← unl_ask]; rfl), pg_snoc pg (askA_ok hj hn htr), B11'.trans B12, hc12, hC12⟩
    · rintro σ H8 ⟨rows, r8, h8, v5, v6, rfl, pg, B, hc8, hC8⟩
      have lp := len_pg pg
      have l0 : (30 + (2 : Int).toNat) * 151 ≤ 32 * 151 := by decide
      refine ⟨_, rfl, _, rfl, _, rfl, _, _, rfl, rfl, ?_, _, rfl, _, _, rfl, rfl, ?_, _, _, rfl, rfl, ?_, _, rfl, _, _, rfl, rfl, ?_, by rw [sizeLine_eq]; show 2 ≤ _; decide, fun p9 hp9 => ?_⟩
      · rw [sizeLine_eq]; show 10 + t.length ≤ _; omega
      · rw [sizeLine_eq]; show 10 + j.length ≤ _; omega
      · simp only [len_app]; rw [sizeLine_eq]; show 10 + j.length + 1 ≤ _; omega
      · simp only [len_app]; rw [sizeLine_eq]; show 10 + j.length + 1 + j.length ≤ _; omega
      generalize hH10 : upd H8 p9 (HO.lst _) = H10
      have S10 : Same H8 H10 := by rw [← hH10]; exact same_upd hp9
      have e10 : H10 p9 = some (.lst ([askR t, askL j].map V.str)) := by rw [← hH10]; exact upd_same
      refine ⟨c, p9, r8, h8, _, rfl, S10 _ _ hc8, hC8, e10, by show 0 < 2; decide, by show 2 < 1000; decide, fun H11 i11 v11 r11 h11 B11 hc11 hC11 hv11 => ?_⟩
      obtain ⟨z, rfl, hz⟩ := mem_str hv11
      have zB : rowB z = true := by
        simp only [List.mem_cons, List.not_mem_nil, or_false] at hz
        rcases hz with rfl | rfl
        · exact askRt_ok ht
        · exact askL_ok hj
      have zl : z.length ≤ 150 := by
        have q := zB
        unfold rowB at q
        simp only [Bool.and_eq_true, decide_eq_true_eq] at q
        exact q.2.1
      refine ⟨_, _, rfl, rfl, ?_, _, _, rfl, rfl, ?_, ?_⟩
      · rw [sizeLine_eq]; omega
      · simp only [len_app]; rw [sizeLine_eq]; show (unl rows).length + z.length + 1 ≤ _; omega
      · rw [show unl rows ++ z ++ ("\n" : Str) = unl (rows ++ [z]) from unl_snoc rows z]
        have pg2 := pg_snoc pg zB
        refine k H11 r11 h11 _ ((B7.trans (B.trans (But.of_same S10))).trans B11) hc11 hC11 ⟨Nat.le_trans pg2.1 (by decide), pg2.2⟩
end
end K11

/-! What was done to a desk; the world of the law of one desk. -/
namespace K11
open PySem PySem.Spec C8 Xo Yo
open L2 hiding Fun CX0 pass0 E0
open TL (tl)
def Dd.fine : Dd → Prop
  | .put _ t => rowB t = true
  | .row _ t => rowB t = true
  | .out _ => True
theorem rowB_ok {t : Str} (h : rowB t = true) : 10 ∉ tl t ∧ t.length ≤ 150 ∧ PyData.strOk t = true := by
  unfold rowB at h
  simp only [Bool.and_eq_true, decide_eq_true_eq] at h
  exact h
theorem rowB_isRow {t : Str} (h : rowB t = true) : isRow t = true ∧ t.length ≤ sizeLine := by
  have q := rowB_ok h
  refine ⟨?_, by rw [sizeLine_eq]; omega⟩
  unfold isRow
  rw [decide_eq_true (by omega : t.length ≤ 2000), decide_eq_false q.1]
  rfl
theorem Dd.fine_ok {d : Dd} (h : d.fine) : d.ok := by
  cases d with
  | put i t => exact rowB_isRow h
  | row i t => exact rowB_isRow h
  | out i => trivial
theorem Dd.fine_dok {d : Dd} (h : d.fine) : d.dok := by
  cases d with
  | put i t => exact (rowB_ok h).2.2
  | row i t => exact (rowB_ok h).2.2
  | out i => trivial
theorem Dd.of_fine {d : Dd} {ts : List Str} (h : d.of ts) (k : ∀ t ∈ ts, rowB t = true) : d.fine := by
  cases d with
  | put i t => exact k t h
  | row i t => exact k t h
  | out i => trivial
def RowsB (rs : List Str) : Prop := ∀ r ∈ rs, rowB r = true
theorem RowsB.sok {rs : List Str} (h : RowsB rs) : Sok rs := fun r hr => (rowB_ok (h r hr)).2.2
theorem RowsB.app {rs : List Str} {d : Dd} (h : RowsB rs) (k : d.fine) : RowsB (d.app rs) := by
  intro r hr
  cases d with
  | put i t =>
    rcases List.mem_append.mp hr with hr | hr
    · exact h r (List.mem_of_mem_take hr)
    · rcases List.mem_cons.mp hr with hr | hr
      · rw [hr]; exact k
      · exact h r (List.mem_of_mem_drop hr)
  | row i t =>
    rcases List.mem_append.mp hr with hr | hr
    · exact h r (List.mem_of_mem_take hr)
    · rcases List.mem_cons.mp hr with hr | hr
      · rw [hr]; exact k
      · exact h r (List.mem_of_mem_drop hr)
  | out i =>
    rcases List.mem_append.mp hr with hr | hr
    · exact h r (List.mem_of_mem_take hr)
    · exact h r (List.mem_of_mem_drop hr)
theorem app_len (d : Dd) (rs : List Str) : (d.app rs).length ≤ rs.length + 1 := by
  cases d with
  | put i t =>
    show (rs.take i ++ (t :: rs.drop i)).length ≤ _
    rw [List.length_append, List.length_cons, List.length_take, List.length_drop]
    omega
  | row i t =>
    show (rs.take i ++ (t :: rs.drop (i + 1))).length ≤ _
    rw [List.length_append, List.length_cons, List.length_take, List.length_drop]
    omega
  | out i =>
    show (rs.take i ++ rs.drop (i + 1)).length ≤ _
    rw [List.length_append, List.length_take, List.length_drop]
    omega
inductive Rep (fst : List Str) : List Dd → List (List Str) → List Str → Prop
  | nil : Rep fst [] [] fst
  | snoc {ds : List Dd} {ps : List (List Str)} {rs : List Str} {d : Dd} : Rep fst ds ps rs → d.fine → d.bar rs = none → Rep fst (ds ++ [d]) (ps ++ [rs]) (d.app rs)
section
variable {fst rs q p : List Str} {ds : List Dd} {ps : List (List Str)} {d : Dd}
theorem Rep.inv (h : Rep fst ds ps q) : (ds = [] ∧ ps = [] ∧ q = fst) ∨ ∃ ds' d ps' p, ds = ds' ++ [d] ∧ ps = ps' ++ [p] ∧ Rep fst ds' ps' p ∧ d.fine ∧ d.bar p = none ∧ q = d.app p := by
  cases h with
  | nil => exact .inl ⟨rfl, rfl, rfl⟩
  | snoc h1 h2 h3 => exact .inr ⟨_, _, _, _, rfl, rfl, h1, h2, h3, rfl⟩
theorem Rep.back (h : Rep fst (ds ++ [d]) (ps ++ [p]) q) : Rep fst ds ps p ∧ d.fine ∧ d.bar p = none ∧ q = d.app p := by
  rcases h.inv with ⟨e, _⟩ | ⟨ds', d', ps', p', e1, e2, h1, h2, h3, h4⟩
  · simp at e
  · obtain ⟨rfl, e⟩ := List.append_inj' e1 rfl
    cases e
    obtain ⟨rfl, e⟩ := List.append_inj' e2 rfl
    cases e
    exact ⟨h1, h2, h3, h4⟩
theorem Rep.len (h : Rep fst ds ps q) : ds.length = ps.length := by
  induction h with
  | nil => rfl
  | snoc h1 h2 h3 ih => rw [List.length_append, List.length_append, ih]; rfl
theorem Rep.rows (hf : RowsB fst) (h : Rep fst ds ps q) : RowsB q ∧ q.length ≤ fst.length + ds.length := by
  induction h with
  | nil => exact ⟨hf, Nat.le_refl _⟩
  | @snoc ds ps rs d h1 h2 h3 ih =>
    refine ⟨ih.1.app h2, ?_⟩
    have := app_len d rs
    rw [List.length_append, List.length_singleton]
    omega
theorem Rep.fine (h : Rep fst ds ps q) : ∀ d ∈ ds, d.fine := by
  induction h with
  | nil => exact fun _ h => absurd h List.not_mem_nil
  | snoc h1 h2 h3 ih =>
    intro d hd
    rcases List.mem_append.mp hd with hd | hd
    · exact ih d hd
    · rw [List.mem_singleton.mp hd]
      exact h2
theorem Rep.psB (hf : RowsB fst) (h : Rep fst ds ps q) : ∀ p ∈ ps, RowsB p := by
  induction h with
  | nil => exact fun _ h => absurd h List.not_mem_nil
  | snoc h1 h2 h3 ih =>
    intro p hp
    rcases List.mem_append.mp hp with hp | hp
    · exact ih p hp
    · rw [List.mem_singleton.mp hp]
      exact (h1.rows hf).1
theorem Rep.dok (h : Rep fst ds ps q) : Dok ds := fun d hd => Dd.fine_dok (h.fine d hd)
theorem Rep.take (h : Rep fst ds ps q) : ∀ i, ∃ z, Rep fst (ds.take i) (ps.take i) z := by
  induction h with
  | nil => exact fun i => ⟨fst, by rw [List.take_nil, List.take_nil]; exact .nil⟩
  | @snoc ds ps rs d h1 h2 h3 ih =>
    intro i
    by_cases hi : i ≤ ds.length
    · rw [List.take_append_of_le_length hi, List.take_append_of_le_length (by rw [← h1.len]; exact hi)]
      exact ih i
    · rw [List.take_of_length_le (by rw [List.length_append, List.length_singleton]; omega), List.take_of_length_le (by rw [List.length_append, List.length_singleton, ← h1.len]; omega)]
      exact ⟨_, h1.snoc h2 h3⟩
theorem Rep.det (h : Rep fst ds ps q) : ∀ {z}, Rep fst ds ps z → q = z := by
  intro z k
  rcases h.inv with ⟨e1, e2, e3⟩ | ⟨ds', d', ps', p', e1, e2, h1, h2, h3, h4⟩
  · rcases k.inv with ⟨_, _, f⟩ | ⟨_, _, _, _, f, _⟩
    · rw [e3, f]
    · rw [e1] at f
      simp at f
  · subst e1
    subst e2
    rw [h4, k.back.2.2.2]
/-- one step of the twin -/
theorem Rep.step (h : Rep fst ds ps q) {i : Nat} {z : List Str} (k : Rep fst (ds.take i) (ps.take i) z) {d : Dd} (hd : ds[i]? = some d) : d.fine ∧ d.bar z = none ∧ Rep fst (ds.take (i + 1)) (ps.take (i + 1)) (d.app z) ∧ ds.take (i + 1) = ds.take i ++ [d] ∧ ps.take (i + 1) = ps.take i ++ [z] := by
  have hi : i < ds.length := (List.getElem?_eq_some_iff.mp hd).1
  have hp : i < ps.length := by rw [← h.len]; exact hi
  obtain ⟨y, hy⟩ := h.take (i + 1)
  have e1 : ds.take (i + 1) = ds.take i ++ [d] := by
    rw [List.take_add_one, hd]
    rfl
  have e2 : ps.take (i + 1) = ps.take i ++ [ps[i]] := by
    rw [List.take_add_one, List.getElem?_eq_getElem hp]
    rfl
  rw [e1, e2] at hy
  obtain ⟨h1, h2, h3, h4⟩ := hy.back
  have e3 := h1.det k
  rw [e3] at h3 e2
  rw [e1, e2]
  exact ⟨h2, h3, k.snoc h2 h3, rfl, rfl⟩
end
/-! ### the world -/
theorem DeskAt.ins {C : Addr} {H : Hp} {b : Addr} {beg rs : List Str} {ds : List Dd} {ps : List (List Str)} (h : DeskAt C H b beg rs ds ps) : ∃ dx fs, H b = some (.ins C dx fs) := by
  obtain ⟨dx, r0, r, d, p, das, pas, h1, _⟩ := h
  exact ⟨dx, _, h1⟩
theorem DeskAt.same {C : Addr} {H H' : Hp} {b : Addr} {beg rs : List Str} {ds : List Dd} {ps : List (List Str)} (h : DeskAt C H b beg rs ds ps) (S : Same H H') : DeskAt C H' b beg rs ds ps := by
  obtain ⟨dx, r0, r, d, p, das, pas, h1, h2, h3, h4, h5, h6, h7⟩ := h
  exact ⟨dx, r0, r, d, p, das, pas, S _ _ h1, S _ _ h2, S _ _ h3, S _ _ h4, h5.same S, S _ _ h6, h7.same S⟩
structure Wd (C c b t fr ra ba : Addr) (fst rs : List Str) (ds : List Dd) (ps : List (List Str)) (tq : List Str) (td : List Dd) (tp : List (List Str)) (qs : List Str) (bs : List (List Str)) (H : Hp) : Prop where
  nbt : b ≠ t
  ct : ∃ r h, H c = some (crt r h) ∧ Crt r h
  db : DeskAt C H b fst rs ds ps
  dt : DeskAt C H t fst tq td tp
  fr : H fr = some (rowsO fst)
  ra : H ra = some (rowsO qs)
  ba : ∃ bas : List Addr, H ba = some (.lst (bas.map V.ref)) ∧ AllAt rowsO H bas bs
section
variable {C c b t fr ra ba : Addr} {fst rs tq qs rs' : List Str} {ds td ds' : List Dd} {ps tp bs ps' : List (List Str)} {H H' : Hp}
theorem Wd.same (h : Wd C c b t fr ra ba fst rs ds ps tq td tp qs bs H) (S : Same H H') : Wd C c b t fr ra ba fst rs ds ps tq td tp qs bs H' := by
  obtain ⟨x, y, h1, h2⟩ := h.ct
  obtain ⟨bas, h3, h4⟩ := h.ba
  exact ⟨h.nbt, ⟨x, y, S _ _ h1, h2⟩, h.db.same S, h.dt.same S, S _ _ h.fr, S _ _ h.ra, bas, S _ _ h3, h4.same S⟩
theorem Wd.butc (h : Wd C c b t fr ra ba fst rs ds ps tq td tp qs bs H) (S : But c H H') {r y : Int} (e : H' c = some (crt r y)) (k : Crt r y) : Wd C c b t fr ra ba fst rs ds ps tq td tp qs bs H' := by
  obtain ⟨x, z, h1, _⟩ := h.ct
  have nt : ∀ {q : Addr} {o : HO}, H q = some o → (∀ kv, o ≠ .dK kv) → q ≠ c := fun {q o} e n z => by
    rw [z, h1] at e
    exact n _ (Option.some.inj e).symm
  have hc : ∀ xs, H c ≠ some (.tup xs) := fun xs z => by rw [h1] at z; cases z
  obtain ⟨bas, h3, h4⟩ := h.ba
  obtain ⟨_, _, hb⟩ := h.db.ins
  obtain ⟨_, _, ht⟩ := h.dt.ins
  exact ⟨h.nbt, ⟨r, y, e, k⟩, h.db.keep S (nt hb (by intro _ q; cases q)) hc, h.dt.keep S (nt ht (by intro _ q; cases q)) hc, S _ _ (nt h.fr (by intro _ q; cases q)) h.fr, S _ _ (nt h.ra (by intro _ q; cases q)) h.ra, bas,
    S _ _ (nt h3 (by intro _ q; cases q)) h3, h4.but S fun x => hc _⟩
theorem Wd.butb (h : Wd C c b t fr ra ba fst rs ds ps tq td tp qs bs H) (S : But b H H') (e : DeskAt C H' b fst rs' ds' ps') : Wd C c b t fr ra ba fst rs' ds' ps' tq td tp qs bs H' := by
  obtain ⟨_, _, h1⟩ := h.db.ins
  have nt : ∀ {q : Addr} {o : HO}, H q = some o → (∀ C dx fs, o ≠ .ins C dx fs) → q ≠ b := fun {q o} e n z => by
    rw [z, h1] at e
    exact n _ _ _ (Option.some.inj e).symm
  have hc : ∀ xs, H b ≠ some (.tup xs) := fun xs z => by rw [h1] at z; cases z
  obtain ⟨bas, h3, h4⟩ := h.ba
  obtain ⟨x, y, h5, h6⟩ := h.ct
  exact ⟨h.nbt, ⟨x, y, S _ _ (nt h5 (by intro _ _ _ q; cases q)) h5, h6⟩, e, h.dt.keep S (Ne.symm h.nbt) hc, S _ _ (nt h.fr (by intro _ _ _ q; cases q)) h.fr, S _ _ (nt h.ra (by intro _ _ _ q; cases q)) h.ra, bas,
    S _ _ (nt h3 (by intro _ _ _ q; cases q)) h3, h4.but S fun x => hc _⟩
theorem Wd.butt (h : Wd C c b t fr ra ba fst rs ds ps tq td tp qs bs H) (S : But t H H') (e : DeskAt C H' t fst rs' ds' ps') : Wd C c b t fr ra ba fst rs ds ps rs' ds' ps' qs bs H' := by
  obtain ⟨_, _, h1⟩ := h.dt.ins
  have nt : ∀ {q : Addr} {o : HO}, H q = some o → (∀ C dx fs, o ≠ .ins C dx fs) → q ≠ t := fun {q o} e n z => by
    rw [z, h1] at e
    exact n _ _ _ (Option.some.inj e).symm
  have hc : ∀ xs, H t ≠ some (.tup xs) := fun xs z => by rw [h1] at z; cases z
  obtain ⟨bas, h3, h4⟩ := h.ba
  obtain ⟨x, y, h5, h6⟩ := h.ct
  exact ⟨h.nbt, ⟨x, y, S _ _ (nt h5 (by intro _ _ _ q; cases q)) h5, h6⟩, h.db.keep S h.nbt hc, e, S _ _ (nt h.fr (by intro _ _ _ q; cases q)) h.fr, S _ _ (nt h.ra (by intro _ _ _ q; cases q)) h.ra, bas,
    S _ _ (nt h3 (by intro _ _ _ q; cases q)) h3, h4.but S fun x => hc _⟩
end
end K11

/-! Small readings for the law of one desk. -/
namespace K11
open PySem PySem.Spec C8 Xo Yo
open L2 hiding Fun CX0 pass0 E0
open TL (tl)
/-- what is known of the types that == of desks is asked of -/
structure DkE (K : PySem.W.Frag) (C : Addr) : Prop where
  self : PySem.W.notFirst K C (.ref C) = true
  ty : ∀ n ∈ (["NoneType", "str", "tuple", "int", "list"] : List String), PySem.W.notFirst K C (.type n) = true ∧ PySem.W.kitOne K (.type n) (.ref C) = some false
theorem seq_mid {t1 t2 : TS} {D : Ends} {σ : L2.St} {H : Hp} (Mid : L2.St → Hp → Prop) (h2 : ∀ σ' H', Mid σ' H' → t2 D σ' H') (h1 : (∀ σ' H', Mid σ' H' → t2 D σ' H') → t1 { D with nx := t2 D } σ H) : tSeq t1 t2 D σ H := h1 h2
/-! ### lists of rows -/
def rowsLD (ps : List (List Str)) : PyData := .list (ps.map rowsD)
theorem rowsL_shaped {ps : List (List Str)} (h : ∀ p ∈ ps, Sok p) : SeqAt.shaped (rowsLD ps) = true := by
  have q := shaped_map (f := rowsD) (k := 1) (fun rs => by
    show PyData.depth (.tuple (rs.map PyData.str)) ≤ 1
    simp only [PyData.depth]
    have := depthAll_map (f := PyData.str) (k := 0) (fun x => by simp only [PyData.depth]; exact Nat.le_refl _) rs
    omega) (by decide) ps fun p hp => by
      have := rowsD_shaped (h p hp)
      unfold SeqAt.shaped at this
      exact (Bool.and_eq_true_iff.mp this).1
  unfold SeqAt.shaped at q ⊢
  unfold rowsLD
  simp only [PyData.canLay0, PyData.depth] at q ⊢
  exact q
theorem rowsL_nil (ps : List (List Str)) : PyData.eqv (rowsLD ps) (.list []) = decide (ps = []) := by
  cases ps with
  | nil => rfl
  | cons p ps =>
    rw [decide_eq_false (by intro z; cases z)]
    unfold rowsLD
    simp only [PyData.eqv]
    rfl
theorem dp_back {K : PySem.W.Frag} {H : Hp} {a : Addr} {as : List Addr} {ps : List (List Str)} (h : H a = some (.lst (as.map V.ref))) (k : AllAt rowsO H as ps) : Dp K H (.ref a) (rowsLD ps) := .lst (SqL.of h) (dp_all (fun _ _ => dp_rows) k)
section
variable {K : PySem.W.Frag} {σ : L2.St} {H : Hp} {ba b t : Addr} {bas : List Addr} {bs : List (List Str)} {Q : VK}
theorem back_ne (h6 : σ[6]? = some (some (.ref ba))) (hba : ∃ bas : List Addr, H ba = some (.lst (bas.map V.ref)) ∧ AllAt rowsO H bas bs) (hB : ∀ p ∈ bs, RowsB p) (k : ∀ H', Same H H' → Q (.bl (!decide (bs = []))) H') : tOp (rNeD K) (tVar 6) (tLst tNil) σ H Q := by
  obtain ⟨bas, h1, h2⟩ := hba
  refine ⟨_, h6, by rw [sizeLine_eq]; exact Nat.zero_le _, fun p hp => ?_⟩
  have S := same_upd (o := .lst []) hp
  refine ⟨rowsLD bs, .list [], dp_back (S _ _ h1) (h2.same S), .lst (SqL.of upd_same) .nil, rowsL_shaped fun p hp => (hB p hp).sok, by decide +kernel, ?_⟩
  rw [rowsL_nil]
  exact k _ S
theorem back_eq (h6 : σ[6]? = some (some (.ref ba))) (hba : ∃ bas : List Addr, H ba = some (.lst (bas.map V.ref)) ∧ AllAt rowsO H bas bs) (hB : ∀ p ∈ bs, RowsB p) (k : ∀ H', Same H H' → Q (.bl (decide (bs = []))) H') : tOp (rEqD K) (tVar 6) (tLst tNil) σ H Q := by
  obtain ⟨bas, h1, h2⟩ := hba
  refine ⟨_, h6, by rw [sizeLine_eq]; exact Nat.zero_le _, fun p hp => ?_⟩
  have S := same_upd (o := .lst []) hp
  refine ⟨rowsLD bs, .list [], dp_back (S _ _ h1) (h2.same S), .lst (SqL.of upd_same) .nil, rowsL_shaped fun p hp => (hB p hp).sok, by decide +kernel, ?_⟩
  rw [rowsL_nil]
  exact k _ S
variable {C : Addr} {beg rs beg2 tq : List Str} {ds td : List Dd} {ps tp : List (List Str)}
theorem ty_desk (T : DkC K C) (D : DeskAt C H t beg2 tq td tp) : TyX K H (.ref t) (.ref C) := by
  obtain ⟨dx, fs, h⟩ := D.ins
  exact .base (.ins h T.cl T.ha T.hn T.ht T.hm)
theorem eq_desks (T : DkC K C) (T3 : DkE K C) (Db : DeskAt C H b beg rs ds ps) (Dt : DeskAt C H t beg2 tq td tp) (s1 : Sok beg) (d1 : Dok ds) (s2 : Sok beg2) (d2 : Dok td) (k : Q (.bl (decide (beg = beg2) && decide (ds = td))) H) : rEqO K C (spEq K C) (.ref b) (.ref t) H Q := by
  obtain ⟨dx, fs, h⟩ := Db.ins
  exact ⟨b, dx, fs, .ref C, rfl, h, ty_desk T Dt, T3.self, b, .ref t, beg, rs, ds, ps, rfl, Db, s1, d1, .inl ⟨t, beg2, tq, td, tp, rfl, Dt, s2, d2, _, rfl, k⟩⟩
theorem ne_desks (T : DkC K C) (Db : DeskAt C H b beg rs ds ps) (Dt : DeskAt C H t beg2 tq td tp) (s1 : Sok beg) (d1 : Dok ds) (s2 : Sok beg2) (d2 : Dok td) (k : Q (.bl (!(decide (beg = beg2) && decide (ds = td)))) H) : rNeO C (spEq K C) (.ref b) (.ref t) H Q := by
  obtain ⟨dx, fs, h⟩ := Db.ins
  obtain ⟨dx2, gs, h2⟩ := Dt.ins
  exact ⟨b, t, dx, dx2, fs, gs, rfl, rfl, h, h2, b, .ref t, beg, rs, ds, ps, rfl, Db, s1, d1, .inl ⟨t, beg2, tq, td, tp, rfl, Dt, s2, d2, _, rfl, k⟩⟩
theorem eq_other (T3 : DkE K C) (Db : DeskAt C H b beg rs ds ps) (s1 : Sok beg) (d1 : Dok ds) {y : V} (n : String) (hn : n ∈ (["NoneType", "str", "tuple", "int", "list"] : List String)) (ty : TyX K H y (.type n)) (k : Q (.bl false) H) : rEqO K C (spEq K C) (.ref b) y H Q := by
  obtain ⟨dx, fs, h⟩ := Db.ins
  exact ⟨b, dx, fs, .type n, rfl, h, ty, (T3.ty n hn).1, b, y, beg, rs, ds, ps, rfl, Db, s1, d1, .inr ⟨_, ty, (T3.ty n hn).2, _, rfl, k⟩⟩
end
theorem bar_mem {d : Dd} {rs : List Str} {z : Str} (h : d.bar rs = some z) : z = "full" ∨ z = "far" ∨ z = "none" ∨ z = "same" := by
  cases d with
  | put i t =>
    simp only [Dd.bar] at h
    split at h
    · exact .inl (Option.some.inj h).symm
    · split at h
      · exact .inr (.inl (Option.some.inj h).symm)
      · cases h
  | row i t =>
    simp only [Dd.bar] at h
    split at h
    · exact .inr (.inr (.inl (Option.some.inj h).symm))
    · split at h
      · exact .inr (.inr (.inr (Option.some.inj h).symm))
      · cases h
  | out i =>
    simp only [Dd.bar] at h
    split at h
    · exact .inr (.inr (.inl (Option.some.inj h).symm))
    · cases h
def LikeS (z : Str) : Prop := (PyData.str z).showable = true ∧ (PyData.str z).depth ≤ 60 ∧ (PyData.str z).shown.length ≤ sizeLine ∧ ∀ i : Int, V.str z = .int i → i.natAbs.log2 < 1920
theorem like_of {z : Str} (h1 : (PyData.str z).showable = true) (h2 : (PyData.str z).shown.length ≤ sizeLine) : LikeS z := ⟨h1, by simp only [PyData.depth]; decide, h2, fun i e => by cases e⟩
theorem like_done : LikeS "done" := like_of (by decide +kernel) (by rw [sizeLine_eq]; decide +kernel)
theorem like_bar {d : Dd} {rs : List Str} {z : Str} (h : d.bar rs = some z) : LikeS (barT ++ z) := by
  rcases bar_mem h with rfl | rfl | rfl | rfl
  all_goals exact like_of (by decide +kernel) (by rw [sizeLine_eq]; decide +kernel)
theorem But.fresh {c b : Addr} {H H' : Hp} {o : HO} (B : But c H H') (hc : H' c = some o) (hb : H' b = none) : H b = none := by
  cases e : H b with
  | none => rfl
  | some u =>
    by_cases hbc : b = c
    · rw [hbc, hc] at hb; cases hb
    · rw [B _ _ hbc e] at hb; cases hb
theorem But.new {c b : Addr} {H H' H'' : Hp} (B : But c H H') (hb : H b = none) (B2 : But b H' H'') : But c H H'' := fun a o n e => B2 _ _ (ne_of_none e hb) (B _ _ n e)
theorem parts_good {rows : List Str} (pg : Pg 40 150 rows) : Parts (unl rows) (rows ++ [Str.empty]) ∧ (unl rows).length + 2 ≤ sizeLine ∧ (rows ++ [Str.empty]).length + 1 ≤ sizeLine ∧ Good (rows ++ [Str.empty]) ∧ RowsB rows := by
  have h1 := pg.1
  have lp := len_pg pg
  refine ⟨parts_unl fun r hr => (pg.2 r hr).1, by rw [sizeLine_eq]; omega, ?_, ?_, ?_⟩
  · rw [sizeLine_eq, List.length_append, List.length_singleton]
    omega
  · unfold Good
    rw [rowsP_unl]
    exact ⟨by omega, fun r hr => by have := (pg.2 r hr).2.1; omega⟩
  · intro r hr
    obtain ⟨a, b, c⟩ := pg.2 r hr
    unfold rowB
    rw [decide_eq_true a, decide_eq_true b, c]
    rfl
end K11

/-! The law of one desk. -/
namespace Yo
open PySem PySem.Spec L2 Xo
theorem passAtF {P : Program} {w : World} {X : Cx} (hP : X.prog = P) (hw : X.w = w) (σ : L2.St) : PassesAt (L2.CX P w) X σ (fun _ _ _ => False) := fun pins H s e s' I h => passF hP hw pins σ H s e s' I h
theorem op_eqO_ {P : Program} {w : World} {K : PySem.W.Frag} {mg : Str → Option Value} {base : Heap} {X : Cx} {k : Nat} {C f : Addr} {fd : FuncData} {ps : List Str} {sp : Sp} (h1 : X.prog = P) (h2 : X.w = w) (h3 : X.K = K) (h4 : X.mg = mg) (h5 : X.base = base)
    (T : OwnEq K C f) (F : FnOk P w K mg base C8.CX0 k f fd ps sp) (hr : Room k X.A) (hb : Binds K fd ps []) : OpR X (compareOp .Eq) (rEqO K C sp) := by
  subst h1
  subst h2
  subst h3
  subst h4
  subst h5
  exact op_eqO T F hr hb
end Yo
namespace K11
open PySem PySem.Spec C8 Xo Yo
open L2 hiding Fun CX0 pass0 E0
open TL (tl)
section
variable {P : Program} {w : World} {K : PySem.W.Frag} {mg : Str → Option Value} {base : Heap} {C CT CB : Addr}
abbrev sIsOne : Stmt := top 213
def spIsOne : Sp := fun vs H Q _ => ∃ (c : Addr) (r h : Int), vs = [.ref c] ∧ H c = some (crt r h) ∧ Crt r h ∧ ∀ H' : Hp, But c H H' → Q (.bl true) H'
abbrev NIs : List Str := ["court", "page", "bench", "twin", "first_rows", "rows", "back", "lap", "deed", "after", "likes", "old", "own"]
theorem scIsOne : FnScope NIs ["court"] (fnScope sIsOne) := fnScope_by (by decide +kernel)
theorem ok_isOne {f fI fU fE fL fA fC fD fAf fS fDu : Addr} {fd dI dU dE dL dA dC dD dAf dS dDu : FuncData} (g : G mg) (T : DkC K C) (T2 : OwnEq K C fE) (T3 : DkE K C) (M : Mk K C fI) (gC : mg "Desk" = some (.ref C)) (F : Fun K "_law_is_one" "_law_is_one" sIsOne f fd)
    (I1 : FnOk P w K mg base (L2.CX P w) 4 fI dI ["self", "text"] (spInit K C CT)) (bI : Binds K dI ["self", "text"] [])
    (U1 : FnOk P w K mg base CX0 1 fU dU ["self"] (spUndo C)) (hU : Meth K C "undo" fU) (bU : Binds K dU ["self"] [])
    (E1 : FnOk P w K mg base CX0 1 fE dE ["self", "other"] (spEq K C)) (bE : Binds K dE ["self", "other"] [])
    (L1 : FnG P w K mg base 1 fL dL ["seen", "due"] spLike) (aL : At K mg "_law_like" fL) (bL : Binds K dL ["seen", "due"] [])
    (A1 : FnOk P w K mg base CX0 4 fA dA ["court"] spAsks) (aA : At K mg "_law_small_asks" fA) (bA : Binds K dA ["court"] [])
    (C1 : FnOk P w K mg base CX0 1 fC dC ["court", "many"] spCall) (aC : At K mg "_law_call" fC) (bC : Binds K dC ["court", "many"] [])
    (D1 : FnOk P w K mg base CX0 3 fD dD ["court", "rows", "texts"] spDeed) (aD : At K mg "_law_deed" fD) (bD : Binds K dD ["court", "rows", "texts"] [])
    (Af : FnOk P w K mg base CX0 1 fAf dAf ["rows", "deed"] spAfter) (aAf : At K mg "_law_after" fAf) (bAf : Binds K dAf ["rows", "deed"] [])
    (S1 : FnOk P w K mg base CX0 5 fS dS ["desk", "deed"] (spSaid C)) (aS : At K mg "_law_said_of" fS) (bS : Binds K dS ["desk", "deed"] [])
    (Du : FnOk P w K mg base CX0 1 fDu dDu ["after"] spDue) (aDu : At K mg "_law_due_of" fDu) (bDu : Binds K dDu ["after"] []) :
    FnG P w K mg base 6 f fd ["court"] spIsOne := by
  refine fnG F scIsOne (fun vs H Q E h => ?_) (fun cdv A outer s H vs Q E hG hr h => ?_)
  · obtain ⟨c, r, h, rfl, _⟩ := h
    rfl
  · obtain ⟨c, r, h, rfl, hc, hC, k⟩ := h
    refine ⟨_, pss_cons (ps_set (i := 1) scIsOne.nd rfl (Or.inl rfl) (pe_call A1 (hr.mono (by decide)) rfl aA.m aA.k bA .nil (pass0 (E := C8.E0)) (pa_cons (pv 0) pa_nil)))
      (pss_cons (ps_asg (pe_tup (pa_cons (pe_makeT (E := fun _ _ _ _ => False) M I1 hr rfl gC bI (passAtF rfl rfl) (pa_cons (pv 1) pa_nil)) (pa_cons (pe_makeT (E := fun _ _ _ _ => False) M I1 hr rfl gC bI (passAtF rfl rfl) (pa_cons (pv 1) pa_nil))
          (pa_cons (pe_tupleOf (by rfl) g.tuple (pe_slice sl_list (pe_split (pv 1) pe_str) po_none (po_some (pe_un un_neg pe_int)))) pa_nil))))
          (pg_tup rfl (pgs_cons (pg_name (i := 2) scIsOne.nd rfl (Or.inr rfl)) (pgs_cons (pg_name (i := 3) scIsOne.nd rfl (Or.inl rfl)) (pgs_cons (pg_name (i := 4) scIsOne.nd rfl (Or.inl rfl)) pgs_nil)))))
      (pss_cons (ps_par (i := 5) (j := 6) rfl scIsOne.nd rfl rfl (by decide) rfl rfl (pa_cons (pv 4) (pa_cons (pe_lst pa_nil) pa_nil)) (by rfl))
      (pss_cons (ps_for PassesOwn.never rfl (pi_range1 (by rfl) g.range (pa_cons pe_int pa_nil)) (pg_name (i := 7) scIsOne.nd rfl (Or.inl rfl))
          (pss_cons (ps_if (pt_cmpR op_lt (pe_call C1 (hr.mono (by decide)) rfl aC.m aC.k bC .nil (pass0 (E := C8.E0)) (pa_cons (pv 0) (pa_cons pe_int pa_nil))) pe_int (nomark _))
              (pss_cons (ps_if (pt_cmpR op_ne (pe_meth0 (pv 2) T.cl hU U1 (hr.mono (by decide)) bU .nil (pass0 (E := C8.E0))) (pe_cmpR (op_neD hr.units) (pv 6) (pe_lst pa_nil) (nomark _)) (nomark _)) (pss_one (ps_ret pe_bl)) pss_nil)
                (pss_one (ps_asg (pe_ifExp (pt_cmpR (op_neD hr.units) (pv 6) (pe_lst pa_nil) (nomark _)) (pe_tup (pa_cons (pe_ix ix_list (pv 6) (pe_un un_neg pe_int) (fun _ _ => rfl)) (pa_cons (pe_slice sl_list (pv 6) po_none (po_some (pe_un un_neg pe_int))) pa_nil))) (pe_tup (pa_cons (pv 5) (pa_cons (pv 6) pa_nil))))
                  (pg_tup rfl (pgs_cons (pg_name (i := 5) scIsOne.nd rfl (Or.inl rfl)) (pgs_cons (pg_name (i := 6) scIsOne.nd rfl (Or.inl rfl)) pgs_nil))))))
              (pss_cons (ps_set (i := 8) scIsOne.nd rfl (Or.inl rfl) (pe_call D1 (hr.mono (by decide)) rfl aD.m aD.k bD .nil (pass0 (E := C8.E0)) (pa_cons (pv 0) (pa_cons (pv 5) (pa_cons (pe_op op_cat (pe_callTy call_list_of rfl g.list PyProof.Rows.boot_list (pa_cons (pv 4) pa_nil)) (pe_lst (pa_cons pe_str (pa_cons pe_str pa_nil)))) pa_nil)))))
              (pss_cons (ps_set (i := 9) scIsOne.nd rfl (Or.inl rfl) (pe_call Af (hr.mono (by decide)) rfl aAf.m aAf.k bAf .nil (pass0 (E := C8.E0)) (pa_cons (pv 5) (pa_cons (pv 8) pa_nil))))
              (pss_cons (ps_if (pt_not (pt_val (pe_callG L1 hG (hr.mono (by decide)) rfl aL.m aL.k bL (pa_cons (pe_call S1 (hr.mono (by decide)) rfl aS.m aS.k bS .nil (pass0 (E := C8.E0)) (pa_cons (pv 2) (pa_cons (pv 8) pa_nil))) (pa_cons (pe_call Du (hr.mono (by decide)) rfl aDu.m aDu.k bDu .nil (pass0 (E := C8.E0)) (pa_cons (pv 9) pa_nil)) pa_nil))))) (pss_one (ps_ret pe_bl)) pss_nil)
              (pss_one (ps_if (pt_val (pe_callB call_isi (by rfl) g.isi PyProof.Rows.boot_isinstance (pa_cons (pv 9) (pa_cons (pe_bltn (v := .ty "tuple") (by rfl) g.tuple PyProof.Rows.boot_tuple rfl) pa_nil))))
                (pss_one (ps_par (i := 5) (j := 6) rfl scIsOne.nd rfl rfl (by decide) rfl rfl (pa_cons (pv 9) (pa_cons (pe_op op_cat (pv 6) (pe_lst (pa_cons (pv 5) pa_nil))) pa_nil)) (by rfl))) pss_nil))))))
          (pss_one (ps_if (PW.pt (pw_or (pt_cmpR (op_neD hr.units) (pe_fld (pv 2) rfl) (pv 5) (nomark _)) (pw_or1 (pt_cmpR op_ne (pe_callB call_len_seq rfl g.len PySem.boot_len (pa_cons (pe_fld (pv 2) rfl) pa_nil)) (pe_callB call_len_seq rfl g.len PySem.boot_len (pa_cons (pv 6) pa_nil)) (nomark _))))) (pss_one (ps_ret pe_bl)) pss_nil))))
      (pss_cons (ps_if (PW.pt (pw_or (pt_cmpR op_ne (pe_cmpR (op_eqO T2 E1 (hr.mono (by decide)) bE) (pv 2) (pv 3) (nomark _)) (pe_cmpR (op_eqD hr.units) (pv 6) (pe_lst pa_nil) (nomark _)) (nomark _))
          (pw_or1 (pt_cmpR op_ne (pe_cmpR (op_neO T2 E1 (hr.mono (by decide)) bE) (pv 2) (pv 3) (nomark _)) (pe_cmpR (op_neD hr.units) (pv 6) (pe_lst pa_nil) (nomark _)) (nomark _))))) (pss_one (ps_ret pe_bl)) pss_nil)
      (pss_cons (ps_for PassesOwn.never rfl (pi_tup (pe_fld (pv 2) rfl)) (pg_name (i := 8) scIsOne.nd rfl (Or.inl rfl))
          (pss_one (ps_if (pt_cmpR op_ne (pe_call S1 (hr.mono (by decide)) rfl aS.m aS.k bS .nil (pass0 (E := C8.E0)) (pa_cons (pv 3) (pa_cons (pv 8) pa_nil))) pe_str (nomark _)) (pss_one (ps_ret pe_bl)) pss_nil)))
      (pss_cons (ps_setLc (i := 10) (own := [("own", 12)]) (g := gName 12) (tt := tYes) rfl scIsOne.nd rfl rfl (sw_true rfl rfl rfl (by decide +kernel)) (pi_tup (pe_tup (pa_cons pe_non (pa_cons (pv 1) (pa_cons (pe_fld (pv 2) rfl) (pa_cons pe_int (pa_cons (pe_tup (pa_cons (pv 2) pa_nil)) (pa_cons (pe_lst (pa_cons (pv 2) (pa_cons (pv 3) pa_nil))) pa_nil))))))))
          (blkOk_by (own := [("own", 12)]) (N := NIs) (sc := fnScope sIsOne) (by decide +kernel)) (fun _ _ _ _ _ => pg_name (i := 12) scIsOne.nd rfl (Or.inl rfl))
          (fun _ _ _ _ _ => pts_nil) (fun _ _ _ _ _ => pe_cmpR (op_eqO_ rfl rfl rfl rfl rfl T2 E1 (hr.mono (by decide)) bE) (pv 2) (pv 12) (nomark _)))
      (pss_cons (ps_if (PW.pt (pw_or (pt_not (pt_cmpR (op_eqO T2 E1 (hr.mono (by decide)) bE) (pv 2) (pv 3) (nomark _))) (pw_or (pt_cmpR (op_neO T2 E1 (hr.mono (by decide)) bE) (pv 2) (pv 3) (nomark _)) (pw_or1 (pt_cmpR op_in_seq pe_bl (pv 10) rfl))))) (pss_one (ps_ret pe_bl)) pss_nil)
      (pss_cons (ps_for PassesOwn.never rfl (pi_list (pe_revL (pv 6))) (pg_name (i := 11) scIsOne.nd rfl (Or.inl rfl))
          (pss_one (ps_if (PW.pt (pw_or (pt_cmpR op_notBl (pe_meth0 (pv 2) T.cl hU U1 (hr.mono (by decide)) bU .nil (pass0 (E := C8.E0))) pe_bl (nomark _)) (pw_or1 (pt_cmpR (op_neD hr.units) (pe_fld (pv 2) rfl) (pv 11) (nomark _))))) (pss_one (ps_ret pe_bl)) pss_nil)))
      (pss_cons (ps_if (PW.pt (pw_or (pt_cmpR op_notBl (pe_meth0 (pv 2) T.cl hU U1 (hr.mono (by decide)) bU .nil (pass0 (E := C8.E0))) pe_bl (nomark _)) (pw_or1 (pt_cmpR (op_neD hr.units) (pe_fld (pv 2) rfl) (pv 4) (nomark _))))) (pss_one (ps_ret pe_bl)) pss_nil)
      (pss_one (ps_ret (pe_and (pe_cmpR (op_eqO T2 E1 (hr.mono (by decide)) bE) (pv 2) (pe_makeT (E := fun _ _ _ _ => False) M I1 hr rfl gC bI (passAtF rfl rfl) (pa_cons (pv 1) pa_nil)) (nomark _))
        (pe_one (pe_cmpR op_eq (pe_cmpR (op_eqO T2 E1 (hr.mono (by decide)) bE) (pv 2) (pv 3) (nomark _)) (pe_cmpR (op_eqD hr.units) (pv 6) (pe_lst pa_nil) (nomark _)) (nomark _))))))))))))))), ?_⟩
    refine ⟨_, rfl, c, r, h, rfl, hc, hC, fun H1 r1 h1 rows B1 hc1 hC1 pg => ?_⟩
    obtain ⟨pts, lz, lp, gd, rb⟩ := parts_good pg
    have lrows := pg.1
    clear hc hC
    -- the desks and the rows
    refine ⟨_, rfl, fun b dx nb ndx nbd => ⟨b, dx, upd_same, .inl ⟨unl rows, _, rfl, pts, lz, lp, fun _ H2 B2 D2 => ⟨rfl, ?_⟩, fun ng => absurd gd ng⟩⟩⟩
    have S2 : Same H1 H2 := fun a o e => B2 _ _ (ne_of_none e nb) (by rw [upd_ne (ne_of_none e nb), upd_ne (ne_of_none e ndx)]; exact e)
    refine ⟨_, rfl, fun t dt nt ndt ntd => ⟨t, dt, upd_same, .inl ⟨unl rows, _, rfl, pts, lz, lp, fun _ H3 B3 D3 => ⟨rfl, ?_⟩, fun ng => absurd gd ng⟩⟩⟩
    have S3 : Same H2 H3 := fun a o e => B3 _ _ (ne_of_none e nt) (by rw [upd_ne (ne_of_none e nt), upd_ne (ne_of_none e ndt)]; exact e)
    have nbt : b ≠ t := by
      obtain ⟨_, _, e⟩ := D2.ins
      exact ne_of_none e nt
    rw [rowsP_unl] at D2 D3
    have fb : H b = none := B1.fresh hc1 nb
    have ft : H t = none := (B1.trans (But.of_same S2)).fresh (S2 _ _ hc1) nt
    refine ⟨_, rfl, ⟨_, rfl⟩, unl rows, nl, rfl, rfl, by decide +kernel, lz, fun p hp => ⟨1, rfl, -1, rfl, p, _, rfl, SqL.of upd_same, fun p2 hp2 => ?_⟩⟩
    rw [pts.split]
    rw [pts.split] at hp2
    have S4 : Same H3 _ := same_upd (o := .lst ((rows ++ [Str.empty]).map V.str)) hp
    generalize upd H3 p (.lst ((rows ++ [Str.empty]).map V.str)) = H4 at S4 hp2 ⊢
    rw [cutV_last]
    refine .inl ⟨p2, _, rfl, SqL.of upd_same, fun fr hfr => ?_⟩
    have S5 : Same H4 _ := same_upd (o := .lst (rows.map V.str)) hp2
    generalize upd H4 p2 (.lst (rows.map V.str)) = H5 at S5 hfr ⊢
    generalize hH6 : upd H5 fr (HO.tup _) = H6
    have S6 : Same H5 H6 := by rw [← hH6]; exact same_upd hfr
    have e6 : H6 fr = some (rowsO rows) := by rw [← hH6]; exact upd_same
    refine ⟨by rw [sizeLine_eq]; show 3 ≤ _; decide, fun p3 hp3 => ?_⟩
    generalize hH7 : upd H6 p3 (HO.tup _) = H7
    have S7 : Same H6 H7 := by rw [← hH7]; exact same_upd hp3
    have e7 : H7 p3 = some (.tup [V.ref b, V.ref t, V.ref fr]) := by rw [← hH7]; exact upd_same
    refine ⟨p3, _, rfl, SqT.of e7, rfl, _, _, rfl, _, _, rfl, _, _, rfl, rfl, ?_⟩
    refine ⟨_, rfl, by rw [sizeLine_eq]; exact Nat.zero_le _, fun ba0 hba0 => ?_⟩
    generalize hH8 : upd H7 ba0 (HO.lst _) = H8
    have S8 : Same H7 H8 := by rw [← hH8]; exact same_upd hba0
    have e8 : H8 ba0 = some (.lst ([].map V.ref)) := by rw [← hH8]; exact upd_same
    have S38 : Same H3 H8 := S4.trans (S5.trans (S6.trans (S7.trans S8)))
    have B8 : But c H H8 := ((B1.trans (But.of_same S2)).trans (But.of_same S3)).trans (But.of_same S38)
    have W8 : Wd C c b t fr fr ba0 rows rows [] [] rows [] [] rows [] H8 := ⟨nbt, ⟨r1, h1, S38 _ _ (S3 _ _ (S2 _ _ hc1)), hC1⟩, D2.same (S3.trans S38), D3.same S38, S8 _ _ (S7 _ _ e6), S8 _ _ (S7 _ _ e6), [], e8, AllAt.nil⟩
    clear S2 S3 S4 S5 S6 S7 S8 S38 e6 e7 e8 hH6 hH7 hH8 D2 D3 hp3 hba0 hfr hp2 hp B2 B3
    refine ⟨_, _, rfl, ?_⟩
    refine ⟨12, rfl, by decide, by decide, for_it walk_range (fun i σ H' => ∃ (ra ba : Addr) (v7 v8 v9 : Option V) (rs : List Str) (ds : List Dd) (ps : List (List Str)), σ = [some (.ref c), some (.str (unl rows)), some (.ref b), some (.ref t), some (.ref fr), some (.ref ra), some (.ref ba), v7, v8, v9, none, none, none] ∧
        Wd C c b t fr ra ba rows rs ds ps rows [] [] rs ps H' ∧ Rep rows ds ps rs ∧ ds.length ≤ i ∧ But c H H') ⟨fr, ba0, none, none, none, rows, [], [], rfl, W8, .nil, Nat.le_refl _, B8⟩ (fun _ _ _ _ _ => trivial) ?_ ?_⟩
    · rintro i v σ H9 _ hi ⟨ra, ba, v7, v8, v9, rs, ds, ps, rfl, W, R, hn, B⟩ ⟨rfl, rfl⟩
      have hi2 : i < 12 := hi
      show tSeq _ _ _ _ _
      refine seq_mid (fun σ H' => ∃ (ra ba : Addr) (v7 v8 v9 : Option V) (rs : List Str) (ds : List Dd) (ps : List (List Str)), σ = [some (.ref c), some (.str (unl rows)), some (.ref b), some (.ref t), some (.ref fr), some (.ref ra), some (.ref ba), v7, v8, v9, none, none, none] ∧
        Wd C c b t fr ra ba rows rs ds ps rows [] [] rs ps H' ∧ Rep rows ds ps rs ∧ ds.length ≤ i + 1 ∧ But c H H') ?_ (fun tl => ?_)
      · -- the tests behind each turn
        rintro σ H' ⟨ra, ba, v7, v8, v9, rs, ds, ps, rfl, W, R, hn, B⟩
        obtain ⟨dx, r0, rr, dd, pp, das, pas, q1, q2, q3, q4, q5, q6, q7⟩ := W.db
        obtain ⟨bas, a1, a2⟩ := W.ba
        have sk := ((R.rows rb).1).sok
        refine ⟨_, rfl, b, C, dx, _, .ref rr, rfl, q1, T.cl, T.nR, rfl, _, rfl, _, _, dp_rows q3, dp_rows W.ra, rowsD_shaped sk, rowsD_shaped sk, _, rfl, ?_⟩
        rw [rowsD_eqv, decide_eq_true rfl]
        refine iteF ⟨_, rfl, b, C, dx, _, .ref dd, rfl, q1, T.cl, T.nD, rfl, dd, _, rfl, .inr (SqT.of q4), _, rfl, ba, _, rfl, .inl (SqL.of a1), rfl, _, rfl, ?_⟩
        have el : (das.map V.ref).length = (bas.map V.ref).length := by rw [List.length_map, List.length_map, q5.1, a2.1, R.len]
        rw [el, decide_eq_true rfl]
        exact iteF ⟨ra, ba, v7, v8, v9, rs, ds, ps, rfl, W, R, hn, B⟩
      obtain ⟨ro, he, hc9, hC9⟩ := W.ct
      refine ⟨_, rfl, c, ro, he, 7, rfl, hc9, hC9, by decide, by decide, fun H10 v r10 h10 B10 hc10 hC10 v0 v1 => ?_⟩
      have W10 := W.butc B10 hc10 hC10
      have Bx := B.trans B10
      have lenR := R.len
      have rq := R.rows rb
      have fq := R.fine
      have pq := R.psB rb
      clear W B B10 hc9 hC9
      refine ⟨v, 2, rfl, rfl, _, rfl, ite2 (fun _ => ?_) (fun _ => ?_)⟩
      · -- taking back
        obtain ⟨dx, r0, rr, dd, pp, das, pas, q1, q2, q3, q4, q5, q6, q7⟩ := id W10.db
        refine ⟨_, rfl, b, dx, _, rfl, q1, rfl, b, rows, rs, ds, ps, rfl, W10.db, lenR, R.dok, fun hd H11 S11 => ?_, fun ds' d ps' pr hd hp H11 B11 D11 => ?_⟩
        · subst hd
          have hp : ps = [] := List.length_eq_zero_iff.mp lenR.symm
          subst hp
          have W11 := W10.same S11
          refine back_ne rfl W11.ba pq fun H12 S12 => ?_
          have W12 := W11.same S12
          rw [decide_eq_true rfl]
          refine ⟨rfl, _, rfl, iteF ?_⟩
          refine back_ne rfl W12.ba pq fun H13 S13 => ?_
          have W13 := W12.same S13
          rw [decide_eq_true rfl]
          refine ⟨_, rfl, iteF ⟨_, rfl, _, rfl, by rw [sizeLine_eq]; show 2 ≤ _; decide, fun p hp => ?_⟩⟩
          generalize hH14 : upd H13 p (HO.tup _) = H14
          have S14 : Same H13 H14 := by rw [← hH14]; exact same_upd hp
          have e14 : H14 p = some (.tup [V.ref ra, V.ref ba]) := by rw [← hH14]; exact upd_same
          refine ⟨p, _, rfl, SqT.of e14, rfl, _, _, rfl, _, _, rfl, rfl, ?_⟩
          exact tl _ _ ⟨ra, ba, some (.int (0 + i)), v8, v9, rs, [], [], rfl, W13.same S14, R, Nat.zero_le _, Bx.trans ((((But.of_same S11).trans (But.of_same S12)).trans (But.of_same S13)).trans (But.of_same S14))⟩
        · subst hd
          subst hp
          have W11 := W10.butb B11 D11
          refine back_ne rfl W11.ba pq fun H12 S12 => ?_
          have W12 := W11.same S12
          have nn : ¬ (ps' ++ [pr] = []) := by simp
          rw [decide_eq_false nn]
          refine ⟨rfl, _, rfl, iteF ?_⟩
          refine back_ne rfl W12.ba pq fun H13 S13 => ?_
          have W13 := W12.same S13
          rw [decide_eq_false nn]
          obtain ⟨bas, a1, a2⟩ := W13.ba
          obtain ⟨bas', pa, rfl, a3, a4⟩ := a2.snoc
          have f1 : atI ((bas' ++ [pa]).map V.ref) (-1) = some (.ref pa) := by
            rw [List.map_append]
            exact atI_last _ _
          refine ⟨_, rfl, iteT ⟨_, rfl, 1, rfl, ba, _, _, _, rfl, rfl, SqL.of a1, f1, _, rfl, 1, rfl, -1, rfl, ba, _, rfl, SqL.of a1, fun p hp => ?_⟩⟩
          rw [cutV_last]
          generalize hH14 : upd H13 p (HO.lst _) = H14
          have S14 : Same H13 H14 := by rw [← hH14]; exact same_upd hp
          have e14 : H14 p = some (.lst (bas'.map V.ref)) := by rw [← hH14]; exact upd_same
          refine ⟨by rw [sizeLine_eq]; show 2 ≤ _; decide, fun p2 hp2 => ?_⟩
          generalize hH15 : upd H14 p2 (HO.tup _) = H15
          have S15 : Same H14 H15 := by rw [← hH15]; exact same_upd hp2
          have e15 : H15 p2 = some (.tup [V.ref pa, V.ref p]) := by rw [← hH15]; exact upd_same
          refine ⟨p2, _, rfl, SqT.of e15, rfl, _, _, rfl, _, _, rfl, rfl, ?_⟩
          have W15 := W13.same (S14.trans S15)
          have S13x : Same H13 H15 := S14.trans S15
          exact tl _ _ ⟨pa, p, some (.int (0 + i)), v8, v9, pr, ds', ps', rfl, ⟨W15.nbt, W15.ct, W15.db, W15.dt, W15.fr, S13x _ _ a4, bas', S15 _ _ e14, a3.same S13x⟩, R.back.1, by rw [List.length_append, List.length_singleton] at hn; omega,
            (Bx.new fb B11).trans ((But.of_same S12).trans ((But.of_same S13).trans (But.of_same S13x)))⟩
      · -- a deed
        refine ⟨_, rfl, _, rfl, _, rfl, fr, _, rfl, .inr (SqT.of W10.fr), fun l hl => ?_⟩
        generalize hH11 : upd H10 l (HO.lst _) = H11
        have S11 : Same H10 H11 := by rw [← hH11]; exact same_upd hl
        have e11 : H11 l = some (.lst (rows.map V.str)) := by rw [← hH11]; exact upd_same
        refine ⟨by rw [sizeLine_eq]; show 2 ≤ _; decide, fun l2 hl2 => ?_⟩
        generalize hH12 : upd H11 l2 (HO.lst _) = H12
        have S12 : Same H11 H12 := by rw [← hH12]; exact same_upd hl2
        have e12 : H12 l2 = some (.lst ([("kind zz" : Str), "of"].map V.str)) := by rw [← hH12]; exact upd_same
        refine ⟨l, l2, _, _, rfl, rfl, S12 _ _ e11, e12, by rw [sizeLine_eq, List.length_map, List.length_map]; show rows.length + 2 ≤ _; omega, fun q hq => ?_⟩
        generalize hH13 : upd H12 q (HO.lst _) = H13
        have S13 : Same H12 H13 := by rw [← hH13]; exact same_upd hq
        have e13 : H13 q = some (.lst ((rows ++ [("kind zz" : Str), "of"]).map V.str)) := by rw [← hH13, List.map_append]; exact upd_same
        have tsB : ∀ t ∈ rows ++ [("kind zz" : Str), "of"], rowB t = true := by
          intro t ht
          rcases List.mem_append.mp ht with ht | ht
          · exact rb t ht
          · have z : ([("kind zz" : Str), "of"].all rowB) = true := by decide +kernel
            exact List.all_eq_true.mp z t ht
        have tsL : (rows ++ [("kind zz" : Str), "of"]).length = rows.length + 2 := by rw [List.length_append]; rfl
        generalize rows ++ [("kind zz" : Str), "of"] = ts at e13 tsB tsL
        have W13 := ((W10.same S11).same S12).same S13
        have l1 : rs.length ≤ 1000 := by have := rq.2; omega
        have l2' : ds.length ≤ 1000 := by omega
        have l3' : ps.length ≤ 1000 := by omega
        refine ⟨c, ra, q, r10, h10, rs, ts, rfl, S13 _ _ (S12 _ _ (S11 _ _ hc10)), hC10, W13.ra, e13, l1, by omega, by omega, fun H14 a d r14 h14 B14 hc14 hC14 ha hof => ?_⟩
        have df := Dd.of_fine hof tsB
        have W14 := W13.butc B14 hc14 hC14
        have Bz : But c H H14 := ((Bx.trans (But.of_same S11)).trans ((But.of_same S12).trans (But.of_same S13))).trans B14
        refine ⟨_, rfl, _, rfl, ra, a, rs, d, rfl, W14.ra, ha, rq.1.sok, Dd.fine_dok df, l1, fun z hz H15 S15 => ?_, fun hz H15 p S15 hp => ?_⟩
        · have W15 := W14.same S15
          refine ⟨_, rfl, _, rfl, b, a, rows, rs, ds, ps, d, rfl, W15.db, S15 _ _ ha, Dd.fine_ok df, l1, l2', l3', fun z2 hz2 H16 S16 => ?_, fun hz2 => by rw [hz] at hz2; cases hz2⟩
          obtain rfl : z = z2 := by rw [hz] at hz2; exact Option.some.inj hz2
          have W16 := W15.same S16
          refine ⟨_, rfl, .inr ⟨z, rfl, bar_len hz, _, _, rfl, .str _, rfl, (like_bar hz).1, (like_bar hz).2.1, (like_bar hz).2.2.1, (like_bar hz).2.2.2, true, rfl, iteF ?_⟩⟩
          refine ⟨_, rfl, .str z, .ty "tuple", .type "str", .type "tuple", false, rfl, .ty "tuple", .base (.str z), kit_ty (by decide +kernel), false, rfl, iteF ?_⟩
          exact tl _ _ ⟨ra, ba, some (.int (0 + i)), some (.ref a), some (.str z), rs, ds, ps, rfl, W16, R, by omega, Bz.trans ((But.of_same S15).trans (But.of_same S16))⟩
        · have W15 := W14.same S15
          refine ⟨_, rfl, _, rfl, b, a, rows, rs, ds, ps, d, rfl, W15.db, S15 _ _ ha, Dd.fine_ok df, l1, l2', l3', fun z2 hz2 => (by rw [hz] at hz2; cases hz2), fun _ H16 B16 D16 => ?_⟩
          have W16 := W15.butb B16 D16
          have hp16 : H16 p = some (rowsO (d.app rs)) := by
            obtain ⟨_, _, e⟩ := W15.db.ins
            exact B16 _ _ (ne_of hp e (by intro q; cases q)) hp
          refine ⟨_, rfl, .inl ⟨p, _, rfl, hp16, _, _, rfl, .str _, rfl, like_done.1, like_done.2.1, like_done.2.2.1, like_done.2.2.2, true, rfl, iteF ?_⟩⟩
          refine ⟨_, rfl, .ref p, .ty "tuple", .type "tuple", .type "tuple", true, rfl, .ty "tuple", .base (.tup hp16), kit_ty (by decide +kernel), true, rfl, iteT ?_⟩
          obtain ⟨bas, a1, a2⟩ := W16.ba
          refine ⟨_, rfl, _, rfl, _, rfl, by rw [sizeLine_eq]; show 1 ≤ _; decide, fun p3 hp3 => ?_⟩
          generalize hH17 : upd H16 p3 (HO.lst _) = H17
          have S17 : Same H16 H17 := by rw [← hH17]; exact same_upd hp3
          have e17 : H17 p3 = some (.lst [.ref ra]) := by rw [← hH17]; exact upd_same
          refine ⟨ba, p3, _, _, rfl, rfl, S17 _ _ a1, e17, by rw [sizeLine_eq, List.length_map, a2.1]; show ps.length + 1 ≤ _; omega, fun p4 hp4 => ?_⟩
          generalize hH18 : upd H17 p4 (HO.lst _) = H18
          have S18 : Same H17 H18 := by rw [← hH18]; exact same_upd hp4
          have e18 : H18 p4 = some (.lst ((bas ++ [ra]).map V.ref)) := by rw [← hH18, List.map_append]; exact upd_same
          have W18 := W16.same (S17.trans S18)
          have S1x : Same H16 H18 := S17.trans S18
          refine ⟨_, _, rfl, tl _ _ ⟨p, p4, some (.int (0 + i)), some (.ref a), some (.ref p), d.app rs, ds ++ [d], ps ++ [rs], rfl, ⟨W18.nbt, W18.ct, W18.db, W18.dt, W18.fr, S1x _ _ hp16, bas ++ [ra], e18, (a2.same S1x).app (AllAt.one (S1x _ _ W16.ra))⟩,
            R.snoc df hz, by rw [List.length_append, List.length_singleton]; omega, ((Bz.trans (But.of_same S15)).new fb B16).trans (But.of_same S1x)⟩⟩
    · rintro σ H9 ⟨ra, ba, v7, v8, v9, rs, ds, ps, rfl, W9, R, hn, B9⟩
      have hn : ds.length ≤ 12 := hn
      have lenR := R.len
      have sk := rb.sok
      have pq := R.psB rb
      have rq := R.rows rb
      have dk := R.dok
      have d0 : Dok [] := fun _ h => absurd h List.not_mem_nil
      have ee : decide (ds = []) = decide (ps = []) := by
        by_cases hd : ds = []
        · rw [decide_eq_true hd, decide_eq_true (List.length_eq_zero_iff.mp (by rw [← lenR, hd]; rfl))]
        · rw [decide_eq_false hd, decide_eq_false fun z => hd (List.length_eq_zero_iff.mp (by rw [lenR, z]; rfl))]
      -- the first comparisons
      refine ⟨_, rfl, _, rfl, eq_desks T T3 W9.db W9.dt sk dk sk d0 ?_⟩
      refine back_eq rfl W9.ba pq fun H10 S10 => ?_
      have W10 := W9.same S10
      rw [decide_eq_true (rfl : rows = rows), Bool.true_and, ee]
      refine ⟨by rfl, _, rfl, ?_⟩
      rw [decide_eq_true rfl]
      refine iteF ⟨_, rfl, _, rfl, ne_desks T W10.db W10.dt sk dk sk d0 ?_⟩
      refine back_ne rfl W10.ba pq fun H11 S11 => ?_
      have W11 := W10.same S11
      rw [decide_eq_true (rfl : rows = rows), Bool.true_and, ee]
      refine ⟨by rfl, _, rfl, ?_⟩
      rw [decide_eq_true rfl]
      refine iteF ?_
      have B11 : But c H H11 := B9.trans ((But.of_same S10).trans (But.of_same S11))
      clear W9 W10 S10 S11 B9
      -- the twin is brought there
      obtain ⟨dx, r0, rr, dd, pp, das, pas, q1, q2, q3, q4, q5, q6, q7⟩ := id W11.db
      have tt : H11 t ≠ none := by
        obtain ⟨_, _, e⟩ := W11.dt.ins
        rw [e]
        exact Option.some_ne_none _
      have notT : ∀ {q : Addr} {xs : List V}, H11 q = some (.tup xs) → q ≠ t := fun {q xs} e z => by
        obtain ⟨_, _, e2⟩ := W11.dt.ins
        rw [z, e2] at e
        cases e
      refine ⟨_, rfl, b, C, dx, _, .ref dd, rfl, q1, T.cl, T.nD, rfl, dd, rfl, ⟨_, SqT.of q4⟩, for_it walk_tup (fun i σ H' => ∃ (v8 : Option V) (z : List Str), σ = [some (.ref c), some (.str (unl rows)), some (.ref b), some (.ref t), some (.ref fr), some (.ref ra), some (.ref ba), v7, v8, v9, none, none, none] ∧
        Wd C c b t fr ra ba rows rs ds ps z (ds.take i) (ps.take i) rs ps H' ∧ Rep rows (ds.take i) (ps.take i) z ∧ But t H11 H') ⟨v8, rows, rfl, W11, .nil, But.refl⟩ (fun i σ H' _ ⟨_, _, _, _, _, Bt⟩ => SqT.of (Bt _ _ (notT q4) q4)) ?_ ?_⟩
      · rintro i v σ H12 _ hi ⟨v8, z, rfl, W12, Rz, Bt⟩ ⟨rfl, ev⟩
        rw [List.length_map, q5.1] at hi
        rw [List.getElem?_map] at ev
        obtain ⟨da, hda, hdd⟩ := q5.at_ (List.getElem?_eq_getElem hi)
        rw [hda] at ev
        cases ev
        obtain ⟨f1, f2, f3, f4, f5⟩ := R.step Rz (List.getElem?_eq_getElem hi)
        have lz := (Rz.rows rb).2
        have li : (ds.take i).length ≤ 12 := Nat.le_trans (List.length_take_le' ..) hn
        refine ⟨_, rfl, _, rfl, t, da, rows, z, ds.take i, ps.take i, ds[i], rfl, W12.dt, Bt _ _ (notT hdd) hdd, Dd.fine_ok f1, by omega, by omega, by rw [← Rz.len]; omega, fun x hx => (by rw [f2] at hx; cases hx), fun _ H13 B13 D13 => ?_⟩
        refine ⟨rfl, _, rfl, iteF ?_⟩
        rw [← f4, ← f5] at D13
        exact ⟨some (.ref da), _, rfl, W12.butt B13 D13, f3, Bt.trans B13⟩
      · rintro σ H12 ⟨v8, z, rfl, W12, Rz, Bt⟩
        rw [List.length_map, q5.1] at W12 Rz
        rw [List.take_of_length_le (Nat.le_refl _), List.take_of_length_le (by rw [lenR]; exact Nat.le_refl _)] at W12 Rz
        have B12 : But c H H12 := B11.new ft Bt
        clear q1 q2 q3 q4 q5 q6 q7 Bt W11 B11 tt notT
        -- likes
        obtain ⟨dx, r0, rr, dd, pp, das, pas, q1, q2, q3, q4, q5, q6, q7⟩ := id W12.db
        refine ⟨_, rfl, _, rfl, b, C, dx, _, .ref rr, rfl, q1, T.cl, T.nR, rfl, _, rfl, by rw [sizeLine_eq]; show 1 ≤ _; decide, fun p1 hp1 => ?_⟩
        generalize hH13 : upd H12 p1 (HO.tup _) = H13
        have S13 : Same H12 H13 := by rw [← hH13]; exact same_upd hp1
        have e13 : H13 p1 = some (.tup [.ref b]) := by rw [← hH13]; exact upd_same
        refine ⟨_, rfl, _, rfl, by rw [sizeLine_eq]; show 2 ≤ _; decide, fun p2 hp2 => ?_⟩
        generalize hH14 : upd H13 p2 (HO.lst _) = H14
        have S14 : Same H13 H14 := by rw [← hH14]; exact same_upd hp2
        have e14 : H14 p2 = some (.lst [.ref b, .ref t]) := by rw [← hH14]; exact upd_same
        refine ⟨by rw [sizeLine_eq]; show 6 ≤ _; decide, fun p3 hp3 => ?_⟩
        generalize hH15 : upd H14 p3 (HO.tup _) = H15
        have S15 : Same H14 H15 := by rw [← hH15]; exact same_upd hp3
        have e15 : H15 p3 = some (.tup [.non, .str (unl rows), .ref rr, .int 4, .ref p1, .ref p2]) := by rw [← hH15]; exact upd_same
        have S35 : Same H13 H15 := S14.trans S15
        have W15 := W12.same (S13.trans S35)
        have e15r : H15 rr = some (rowsO rs) := S35 _ _ (S13 _ _ q3)
        have e15a := S35 _ _ e13
        have e15b := S15 _ _ e14
        refine ⟨p3, rfl, ⟨_, SqT.of e15⟩, fun D hD => ?_⟩
        refine lc_it walk_tup (fun i H' => H' D = some (.lst (List.replicate i (.bl false))) ∧ Same H15 H') ⟨upd_same, same_upd hD⟩ (fun i H' _ ⟨_, S⟩ => SqT.of (S _ _ e15)) ?_ ?_
        · rintro i v Hy Hx hi ⟨hacc, S⟩ ⟨rfl, ev⟩
          have Wx := W15.same S
          have fin : ∀ {y : V} (n : String), n ∈ (["NoneType", "str", "tuple", "int", "list"] : List String) → TyX K Hx y (.type n) → rEqO K C (spEq K C) (.ref b) y Hx (fun y H4 => ∃ acc, H4 D = some (.lst acc) ∧ acc.length < sizeLine ∧ (upd H4 D (.lst (acc ++ [y])) D = some (.lst (List.replicate (i + 1) (.bl false))) ∧ Same H15 (upd H4 D (.lst (acc ++ [y]))))) := fun {y} n hn ty =>
            eq_other T3 Wx.db sk dk n hn ty ⟨_, hacc, by rw [List.length_replicate, sizeLine_eq]; have : i < 6 := hi; omega, by rw [upd_same, ← List.replicate_succ'], fun a o e => by rw [upd_ne (ne_of_none e hD)]; exact S _ _ e⟩
          match i, hi with
          | 0, _ =>
            cases ev
            exact ⟨rfl, _, rfl, _, rfl, fin "NoneType" (by decide) (.base .non)⟩
          | 1, _ =>
            cases ev
            exact ⟨rfl, _, rfl, _, rfl, fin "str" (by decide) (.base (.str _))⟩
          | 2, _ =>
            cases ev
            exact ⟨rfl, _, rfl, _, rfl, fin "tuple" (by decide) (.base (.tup (S _ _ e15r)))⟩
          | 3, _ =>
            cases ev
            exact ⟨rfl, _, rfl, _, rfl, fin "int" (by decide) (.base (.int _))⟩
          | 4, _ =>
            cases ev
            exact ⟨rfl, _, rfl, _, rfl, fin "tuple" (by decide) (.base (.tup (S _ _ e15a)))⟩
          | 5, _ =>
            cases ev
            exact ⟨rfl, _, rfl, _, rfl, fin "list" (by decide) (.base (.lst (S _ _ e15b)))⟩
        · rintro H16 ⟨hacc, S16⟩
          have W16 := W15.same S16
          have hacc : H16 D = some (.lst (List.replicate 6 (.bl false))) := hacc
          have B16 : But c H H16 := B12.trans (But.of_same (S13.trans (S35.trans S16)))
          clear q1 q2 q3 q4 q5 q6 q7 W12 W15 S16 e15 e15r e15a e15b S35 S13 S14 S15 hH13 hH14 hH15 e13 e14 B12
          -- the same again
          refine ⟨_, rfl, _, rfl, eq_desks T T3 W16.db W16.dt sk dk sk dk ⟨_, rfl, ?_⟩⟩
          rw [decide_eq_true (rfl : rows = rows), decide_eq_true (rfl : ds = ds)]
          refine iteF ⟨_, rfl, _, rfl, ne_desks T W16.db W16.dt sk dk sk dk ⟨_, rfl, ?_⟩⟩
          rw [decide_eq_true (rfl : rows = rows), decide_eq_true (rfl : ds = ds)]
          refine iteF ⟨_, rfl, D, _, rfl, .inl (SqL.of hacc), rfl, rfl, _, rfl, iteF ?_⟩
          -- taken back, all
          obtain ⟨bas, a1, a2⟩ := W16.ba
          refine ⟨_, rfl, ba, _, rfl, SqL.of a1, fun pr hpr => ?_⟩
          generalize hH17 : upd H16 pr (HO.lst _) = H17
          have S17 : Same H16 H17 := by rw [← hH17]; exact same_upd hpr
          have e17 : H17 pr = some (.lst (bas.map V.ref).reverse) := by rw [← hH17]; exact upd_same
          have W17 := W16.same S17
          have B17 : But c H H17 := B16.trans (But.of_same S17)
          have a3 := a2.same S17
          have notB : ∀ {q : Addr} {o : HO}, H17 q = some o → (∀ C dx fs, o ≠ .ins C dx fs) → q ≠ b := fun {q o} e n z => by
            obtain ⟨_, _, e2⟩ := W17.db.ins
            rw [z, e2] at e
            exact n _ _ _ (Option.some.inj e).symm
          refine ⟨pr, rfl, ⟨_, SqL.of e17⟩, for_it walk_list (fun i σ H' => ∃ (v11 : Option V) (y : List Str), σ = [some (.ref c), some (.str (unl rows)), some (.ref b), some (.ref t), some (.ref fr), some (.ref ra), some (.ref ba), v7, v8, v9, some (.ref D), v11, none] ∧
            Wd C c b t fr ra ba rows y (ds.take (ds.length - i)) (ps.take (ds.length - i)) z ds ps rs ps H' ∧ Rep rows (ds.take (ds.length - i)) (ps.take (ds.length - i)) y ∧ But b H17 H') ⟨none, rs, rfl, ?_, ?_, But.refl⟩ (fun i σ H' _ ⟨_, _, _, _, _, Bt⟩ => SqL.of (Bt _ _ (notB e17 (by intro _ _ _ q; cases q)) e17)) ?_ ?_⟩
          · rw [Nat.sub_zero, List.take_of_length_le (Nat.le_refl _), List.take_of_length_le (by rw [lenR]; exact Nat.le_refl _)]
            exact W17
          · rw [Nat.sub_zero, List.take_of_length_le (Nat.le_refl _), List.take_of_length_le (by rw [lenR]; exact Nat.le_refl _)]
            exact R
          · rintro i v σ Hx Hy hi ⟨v11, y, rfl, Wx, Ry, Bx⟩ ⟨rfl, ev⟩
            rw [List.length_reverse, List.length_map, a2.1] at hi
            have hj : ps.length - 1 - i < ps.length := by omega
            obtain ⟨oa, hoa, hoo⟩ := a3.at_ (List.getElem?_eq_getElem hj)
            rw [List.getElem?_reverse (by rw [List.length_map, a2.1]; exact hi), List.length_map, a2.1, List.getElem?_map, hoa] at ev
            cases ev
            have hjd : ps.length - 1 - i < ds.length := by omega
            have et : ds.length - i = (ps.length - 1 - i) + 1 := by omega
            have et2 : ds.length - (i + 1) = ps.length - 1 - i := by omega
            rw [et] at Wx Ry
            rw [et2]
            have t1 : ds.take (ps.length - 1 - i + 1) = ds.take (ps.length - 1 - i) ++ [ds[ps.length - 1 - i]] := by
              rw [List.take_add_one, List.getElem?_eq_getElem hjd]
              rfl
            have t2 : ps.take (ps.length - 1 - i + 1) = ps.take (ps.length - 1 - i) ++ [ps[ps.length - 1 - i]] := by
              rw [List.take_add_one, List.getElem?_eq_getElem hj]
              rfl
            obtain ⟨dx, r0, rr, dd, pp, das, pas, q1, _⟩ := id Wx.db
            refine ⟨_, rfl, b, dx, _, rfl, q1, rfl, b, rows, y, _, _, rfl, Wx.db, Ry.len, Ry.dok, fun hd => ?_, fun ds' d ps' pr' hd hp H20 B20 D20 => ?_⟩
            · rw [t1] at hd
              exact absurd (congrArg List.length hd) (by rw [List.length_append]; exact Nat.succ_ne_zero _)
            · rw [t1] at hd
              rw [t2] at hp
              obtain ⟨rfl, e1⟩ := List.append_inj' hd rfl
              cases e1
              obtain ⟨rfl, e2⟩ := List.append_inj' hp rfl
              cases e2
              rw [t1, t2] at Ry
              have R2 := Ry.back.1
              have W20 := Wx.butb B20 D20
              refine ⟨true, true, rfl, rfl, _, rfl, iteF ?_⟩
              obtain ⟨dx2, r02, rr2, dd2, pp2, das2, pas2, z1, z2, z3, _⟩ := id W20.db
              have ho : Hy oa = some (rowsO ps[ps.length - 1 - i]) := Bx _ _ (notB hoo (by intro _ _ _ q; cases q)) hoo
              have ho2 : H20 oa = some (rowsO ps[ps.length - 1 - i]) := B20 _ _ (notB hoo (by intro _ _ _ q; cases q)) ho
              have sq := (R2.rows rb).1.sok
              refine ⟨_, rfl, b, C, dx2, _, .ref rr2, rfl, z1, T.cl, T.nR, rfl, _, rfl, _, _, dp_rows z3, dp_rows ho2, rowsD_shaped sq, rowsD_shaped sq, _, rfl, ?_⟩
              rw [rowsD_eqv, decide_eq_true rfl]
              exact iteF ⟨some (.ref oa), _, rfl, W20, R2, Bx.trans B20⟩
          · rintro σ H18 ⟨v11, y, rfl, W18, Ry, Bx⟩
            rw [List.length_reverse, List.length_map, a2.1, ← lenR, Nat.sub_self, List.take_zero, List.take_zero] at W18 Ry
            have ey : y = rows := by
              rcases Ry.inv with ⟨_, _, e⟩ | ⟨_, _, _, _, e, _⟩
              · exact e
              · simp at e
            subst ey
            have B18 : But c H H18 := B17.new fb Bx
            obtain ⟨dx, r0, rr, dd, pp, das, pas, q1, _⟩ := id W18.db
            refine ⟨_, rfl, b, dx, _, rfl, q1, rfl, b, y, y, [], [], rfl, W18.db, rfl, d0, fun _ H19 S19 => ?_, fun ds' d ps' pr' hd => by simp at hd⟩
            have W19 := W18.same S19
            refine ⟨false, false, rfl, rfl, _, rfl, iteF ?_⟩
            obtain ⟨dx2, r02, rr2, dd2, pp2, das2, pas2, z1, z2, z3, _⟩ := id W19.db
            refine ⟨_, rfl, b, C, dx2, _, .ref rr2, rfl, z1, T.cl, T.nR, rfl, _, rfl, _, _, dp_rows z3, dp_rows W19.fr, rowsD_shaped sk, rowsD_shaped sk, _, rfl, ?_⟩
            rw [rowsD_eqv, decide_eq_true rfl]
            refine iteF ?_
            -- a new one
            refine ⟨_, rfl, _, rfl, fun x dxx nx ndx nxd => ⟨x, dxx, upd_same, .inl ⟨unl y, _, rfl, pts, lz, lp, fun _ H20 B20 D20 => ⟨rfl, ?_⟩, fun ng => absurd gd ng⟩⟩⟩
            have S20 : Same H19 H20 := fun a o e => B20 _ _ (ne_of_none e nx) (by rw [upd_ne (ne_of_none e nx), upd_ne (ne_of_none e ndx)]; exact e)
            have W20 := W19.same S20
            rw [rowsP_unl] at D20
            refine eq_desks T T3 W20.db D20 sk d0 sk d0 ⟨_, rfl, ?_⟩
            rw [decide_eq_true (rfl : y = y)]
            refine iteT ⟨_, rfl, _, rfl, eq_desks T T3 W20.db W20.dt sk d0 sk dk ?_⟩
            refine back_eq rfl W20.ba pq fun H21 S21 => ?_
            have e0 : decide (([] : List Dd) = ds) = decide (ps = []) := by
              rw [← ee]
              by_cases hd : ds = []
              · rw [decide_eq_true hd, decide_eq_true hd.symm]
              · rw [decide_eq_false hd, decide_eq_false fun z => hd z.symm]
            rw [decide_eq_true (rfl : y = y), Bool.true_and, e0]
            refine ⟨by rfl, ?_⟩
            rw [decide_eq_true rfl]
            exact k _ (((B18.trans (But.of_same S19)).trans (But.of_same S20)).trans (But.of_same S21))
end
end K11

/-! The law by hand. -/
namespace Yo
open PySem PySem.Spec L2 Xo
section
theorem pe_makeT_ {P : Program} {w : World} {K : PySem.W.Frag} {mg : Str → Option Value} {base : Heap} {X : Cx} {CX : CXT} {k : Nat} {f C : Addr} {fd : FuncData} {ps : List Str} {sp : Sp} {E : L2.St → XK} {x : Str} {p pos : Pos} {e : PySem.Expr} {es : List PySem.Expr} {t : TA}
    (h1 : X.prog = P) (h2 : X.w = w) (h3 : X.K = K) (h4 : X.mg = mg) (h5 : X.base = base) (M : Mk K C f) (F : FnOk P w K mg base CX k f fd ps sp) (hr : Room (k + 1) X.A) (hg : Gl X x) (hm : mg x = some (.ref C)) (hb : Binds K fd ps []) (hx : ∀ σ, PassesAt CX X σ (E σ))
    (ha : PA X (e :: es) t) (hdb : (x == ("__debug__" : Str)) = false := by decide) (he : starEach (e :: es) X.env = (false, eval e X.env) :: starEach es X.env := by rfl) (hpl : (backTo pos (starEach es X.env)).any (·.1) = false := by rfl) :
    PE X (.Call (.Name x p) (e :: es) [] pos) (tMakeT C sp E t) := by
  subst h1
  subst h2
  subst h3
  subst h4
  subst h5
  exact pe_makeT M F hr hg hm hb hx ha hdb he hpl
/-- defs promised within an except suite, where nothing is being shown -/
structure FnGH (P : Program) (w : World) (K : PySem.W.Frag) (mg : Str → Option Value) (base : Heap) (k : Nat) (f : Addr) (fd : FuncData) (ps : List Str) (sp : Sp) : Prop where
  len : ∀ vs H Q E, sp vs H Q E → vs.length = ps.length
  run : ∀ (A : Around) (outer : List Env) (s : Shared) (H : Hp) (args : Args) (us : List Value) (vs : List V) (Q : VK) (E : XK) (p : Addr × Obj), A.guards = some [] → L2H.RoomH k A → L2H.PinOk outer H s p → Env0 P w K mg base A outer s H → BindsTo s fd args (ps.zip us) → Vals vs us → sp vs H Q E →
    codeAny (model P w) A (.call (.ref f) args) (CR C8.CX0 outer P w H s Q E) s
theorem fnGH {P : Program} {w : World} {K : PySem.W.Frag} {mg : Str → Option Value} {base : Heap} {k : Nat} {x qual : Str} {st : Stmt} {f : Addr} {fd : FuncData} {N ps : List Str} {sp : Sp} (F : C8.Fun K x qual st f fd) (S : FnScope N ps (C8.fnScope st)) (len : ∀ vs H Q E, sp vs H Q E → vs.length = ps.length)
    (hbody : ∀ (cdv : Value) (A : Around) (outer : List Env) (s : Shared) (H : Hp) (vs : List V) (Q : VK) (E : XK) (p : Addr × Obj), A.guards = some [] → L2H.RoomH k (A.deeper (PyProof.Rows.envOfC qual (C8.fnScope st) s.heap.objs.size f cdv)) → sp vs H Q E →
      ∃ t, PSs (L2H.cxH C8.CX0 P w K mg base N qual (C8.fnScope st) f cdv A outer s H E p) (C8.fnBody st) t ∧ t { nx := fun _ H' => Q .non H', rt := Q } (L2.start N vs) H) : FnGH P w K mg base (k + 1) f fd ps sp := by
  refine ⟨len, fun A outer s H args us vs Q E p hG hr hpin e0 hb r hsp => ?_⟩
  obtain ⟨oc, od, dV, kV, doc, pm, an, cdv, ct, osl, rfl, lk, hcd⟩ := F.ex
  have hl := len _ _ _ _ hsp
  have up : ∀ b o, base.get? b = some o → s.heap.get? b = some o := fun b o e => (e0.bs b o e).1
  have KX : K.In s.heap := e0.mod.kin.keeps up
  have hkind : ∀ y ∈ ps.zip us, (C8.fnScope st).names.lookup y.1 = some .local ∨ ((C8.fnScope st).names.lookup y.1 = some .cell ∧ ((cellsFrom (s.heap.objs.size + 1) (C8.fnScope st).names []).lookup y.1).isSome = true) := fun ⟨n, v⟩ hy => by
    rcases S.par n (List.of_mem_zip hy).1 with q | q
    · exact .inl q
    · exact .inr ⟨q, PySem.W.cellsFrom_some _ _ _ (.inl q)⟩
  refine codeAny_call_function hr.depth (KX _ _ lk) rfl S.co S.gen rfl (PySem.W.codeRec_of KX hcd) (hb _ _ _ _ ?_)
  refine wpAny_newFunctionEnv_cells S.kind hkind fun env he s1 x => ?_
  subst he
  refine ⟨(e0.mod.nolimit.keeps up).keeps x.toInCall.keep, codeAny_func ?_⟩
  obtain ⟨t, ht, hq⟩ := hbody cdv A outer s H vs Q E p hG (hr.deeper _) hsp
  have I := L2H.inv_startH (CX := C8.CX0) (E := E) S hpin e0 hl r x
  refine wpAny_mono (ht.run [] s1 (L2.start N vs) H _ I hq) (fun fl s' hs => ?_) fun e s' hs => hs
  cases fl with
  | ret u =>
    obtain ⟨v, σ', H', J, rv, q⟩ := hs
    exact ⟨v, H', J.os, J.bare, J.base, J.hok, rv, q⟩
  | next =>
    obtain ⟨σ', H', J, q⟩ := hs
    exact ⟨V.non, H', J.os, J.bare, J.base, J.hok, rfl, q⟩
  | brk =>
    obtain ⟨_, _, _, q⟩ := hs
    exact False.elim q
  | cont =>
    obtain ⟨_, _, _, q⟩ := hs
    exact False.elim q
theorem pe_callGH {P : Program} {w : World} {K : PySem.W.Frag} {mg : Str → Option Value} {base : Heap} {X : Cx} {k : Nat} {f : Addr} {fd : FuncData} {ps : List Str} {sp : Sp} {x : Str} {p pos : Pos} {e : PySem.Expr} {es : List PySem.Expr} {t : TA} {pin : Addr × Obj}
    (h1 : X.prog = P) (h2 : X.w = w) (h3 : X.K = K) (h4 : X.mg = mg) (h5 : X.base = base) (F : FnGH P w K mg base k f fd ps sp) (hG : X.A.guards = some []) (hr : L2H.RoomH k X.A) (hp : pin ∈ X.pn) (hg : Gl X x) (hm : mg x = some (.ref f)) (hk : PySem.W.keepIn K (.ref f) = true) (hb : Binds K fd ps [])
    (ha : PA X (e :: es) t) (hdb : (x == ("__debug__" : Str)) = false := by decide) (he : starEach (e :: es) X.env = (false, eval e X.env) :: starEach es X.env := by rfl) (hpl : (backTo pos (starEach es X.env)).any (·.1) = false := by rfl) :
    PE X (.Call (.Name x p) (e :: es) [] pos) (tCall sp [] C8.E0 t) := by
  subst h1
  subst h2
  subst h3
  subst h4
  subst h5
  refine ⟨fun pins s σ H Q I h => ?_⟩
  refine wpAny_Call_Name_kw (ld_glob I hg hm ?_ hdb)
  refine PySem.W.callWith_K (h₀ := X.base) I.ok.mod.kin hk (thn (ha.run pos pins s σ H _ I h) fun us s1 ⟨vs, H1, I1, r, q'⟩ => ⟨I1.kIn, ?_⟩) he hpl
  have q : sp vs H1 Q C8.E0 := by
    have z : sp (vs ++ []) H1 Q C8.E0 := q'
    rw [List.append_nil] at z
    exact z
  show wpAny _ _ (call (.ref f) us) _ _ s1
  have hl : (us ++ ([] : List Value)).length = ps.length := by rw [List.append_nil, ← r.length]; exact F.len _ _ _ _ q
  have hb' := hb s1 us I1.kIn hl
  rw [List.append_nil] at hb'
  have P1 := I1.pin pin (List.mem_append_left _ hp)
  have hpin : L2H.PinOk X.stack H1 s1 pin := ⟨P1.1, P1.2.1, fun hm => (List.mem_cons.mp (I1.stkSub pin.1 hm)).elim P1.2.2.1 P1.2.2.2.1, P1.2.2.2.2⟩
  refine wpAny_call (codeAny_mono (F.run X.A X.stack s1 H1 ⟨us, []⟩ us vs Q _ pin hG hr hpin I1.env0 hb' r q) fun r s' hq => ?_)
  cases r with
  | error e => exact hq.elim
  | ok fl =>
    cases fl with
    | ret u => exact I1.after hq
    | next => exact False.elim hq
    | brk => exact False.elim hq
    | cont => exact False.elim hq
end
end Yo
namespace K11
open PySem PySem.Spec C8 Xo Yo
open L2 hiding Fun CX0 pass0 E0
theorem ok_likeH {P : Program} {w : World} {K : PySem.W.Frag} {mg : Str → Option Value} {base : Heap} {f : Addr} {fd : FuncData} (F : Fun K "_law_like" "_law_like" sLike f fd) (mR : mg "repr" = none) : FnGH P w K mg base 1 f fd ["seen", "due"] spLike := by
  refine fnGH F scLike (fun vs H Q E h => ?_) (fun cdv A outer s H vs Q E p hG hr h => ?_)
  · obtain ⟨v, d, rfl, _⟩ := h
    rfl
  · obtain ⟨v, d, rfl, h1, h2, h3, h4, h5, h6, k⟩ := h
    have hu : (A.deeper (PyProof.Rows.envOfC "_law_like" (fnScope sLike) s.heap.objs.size f cdv)).units + 64 < cLine := by have := hr.un; omega
    refine ⟨_, pss_one (ps_ret (pe_cmpR op_eq (pe_callB (call_repV hG hu) rfl mR PyProof.Rows.boot_repr (pa_cons (pv 0) pa_nil)) (pe_callB (call_repV hG hu) rfl mR PyProof.Rows.boot_repr (pa_cons (pv 1) pa_nil)) (nomark _))), ?_⟩
    refine ⟨v, rfl, v, d, rfl, h1, h2, h3, h4, h5, h6, v, rfl, v, d, rfl, h1, h2, h3, h4, h5, h6, rfl, ?_⟩
    rw [decide_eq_true rfl]
    exact k
end K11
namespace K11
open PySem PySem.Spec C8 Xo Yo
open L2 hiding Fun CX0 pass0 E0
open TL (tl)
/-! ### texts over and over -/
theorem reps (c : Array Nat) : ∀ (k : Nat) (acc : Array Nat), ((List.replicate k c).foldl (· ++ ·) acc).toList = acc.toList ++ (List.replicate k c.toList).flatten
  | 0, acc => by simp
  | k + 1, acc => by
    rw [List.replicate_succ, List.foldl_cons, reps c k, List.replicate_succ, List.flatten_cons, Array.toList_append, List.append_assoc]
theorem tl_mul {x : Str} {n : Nat} (hn : 2 ≤ n) (hx : x.length ≠ 0) : tl (Txt.mul x (n : Nat)) = (List.replicate n (tl x)).flatten := by
  unfold Txt.mul
  rw [if_neg (by omega), if_neg (by
    intro z
    rcases Bool.or_eq_true_iff.mp z with z | z
    · have := beq_iff_eq.mp z
      omega
    · exact hx (beq_iff_eq.mp z))]
  show ((List.replicate ((n : Nat) : Int).toNat x.cps).foldl (· ++ ·) #[]).toList = _
  rw [reps, Int.toNat_natCast]
  rfl
theorem flat_one (a n : Nat) : (List.replicate n [a]).flatten = List.replicate n a := by
  induction n with
  | zero => rfl
  | succ n ih => rw [List.replicate_succ, List.flatten_cons, ih, List.replicate_succ]; rfl
theorem tl_x : tl ("x" : Str) = [120] := by decide +kernel
theorem mul_x {n : Nat} (hn : 2 ≤ n) : tl (Txt.mul "x" (n : Nat)) = List.replicate n 120 := by
  rw [tl_mul hn (by decide +kernel), tl_x, flat_one]
theorem mul_xn {n : Nat} (hn : 2 ≤ n) : Txt.mul "x\n" (n : Nat) = unl (List.replicate n "x") := by
  refine tl_ext ?_
  rw [tl_mul hn (by decide +kernel), tl_unl]
  clear hn
  induction n with
  | zero => rfl
  | succ n ih => rw [List.replicate_succ, List.flatten_cons, ih, List.replicate_succ, List.flatMap_cons]; rfl
theorem two_rows (m : Str) : ("y\n" : Str) ++ m ++ "\n" = unl ["y", m] := by
  refine tl_ext ?_
  rw [tl_unl, TL.tl_append, TL.tl_append]
  have e1 : tl ("y\n" : Str) = tl ("y" : Str) ++ [10] := by decide +kernel
  rw [e1, tl_nl]
  simp
theorem len_x {n : Nat} (hn : 2 ≤ n) : (Txt.mul "x" (n : Nat)).length = n := by
  show (tl (Txt.mul "x" (n : Nat))).length = n
  rw [mul_x hn, List.length_replicate]
theorem no_x {n : Nat} (hn : 2 ≤ n) : 10 ∉ tl (Txt.mul "x" (n : Nat)) := by
  rw [mul_x hn]
  intro z
  have := List.eq_of_mem_replicate z
  omega
theorem str_ok {x : Str} (h : ∀ c ∈ tl x, c < 0x110000) : PyData.strOk x = true := by
  unfold PyData.strOk
  refine Array.all_eq_true_iff_forall_mem.mpr fun c hc => ?_
  exact decide_eq_true (h c (Array.mem_toList_iff.mpr hc))
theorem lay_str {x : Str} (h : ∀ c ∈ tl x, c < 0x110000) (hl : x.length ≤ 2 ^ 20) : LikeS x := by
  have q : PyData.layable0 (.str x) = true := by
    unfold PyData.layable0
    simp only [PyData.canLay0, PyData.depth, PyData.weight]
    rw [str_ok h]
    have : x.cps.size ≤ 2 ^ 20 := hl
    simp [this]
  have r := PySem.Flt.repr_room q
  exact like_of rfl (by show (reprText x).length ≤ _; omega)
end K11

/-! The law by hand. -/
namespace K11
open PySem PySem.Spec C8 Xo Yo
open L2 hiding Fun CX0 pass0 E0
open TL (tl)
section
variable {P : Program} {w : World} {K : PySem.W.Frag} {mg : Str → Option Value} {base : Heap} {C CT CB : Addr}
theorem unl_one (s : Str) : s ++ "\n" = unl [s] := by
  refine tl_ext ?_
  rw [tl_unl, TL.tl_append]
  have e : tl ("\n" : Str) = [10] := by decide +kernel
  rw [e]
  simp
theorem DeskAt.other {C b c : Addr} {H H' : Hp} {beg rs beg2 rs2 : List Str} {ds ds2 : List Dd} {ps ps2 : List (List Str)} (h : DeskAt C H b beg rs ds ps) (hc : DeskAt C H c beg2 rs2 ds2 ps2) (S : But c H H') (n : b ≠ c) : DeskAt C H' b beg rs ds ps := by
  obtain ⟨_, _, e⟩ := hc.ins
  exact h.keep S n fun xs z => by rw [e] at z; cases z
theorem same_new {H H' H'' : Hp} {b : Addr} (S : Same H H') (n : H b = none) (B : But b H' H'') : Same H H'' := fun a o e => B _ _ (ne_of_none e n) (S _ _ e)
theorem same_made {H1 H2 : Hp} {b dx C : Addr} (nb : H1 b = none) (ndx : H1 dx = none) (B : But b (upd (upd H1 dx (.own b)) b (.ins C dx [])) H2) : Same H1 H2 := fun a o e => B _ _ (ne_of_none e nb) (by rw [upd_ne (ne_of_none e nb), upd_ne (ne_of_none e ndx)]; exact e)
theorem fresh_same {H H' : Hp} {b : Addr} (S : Same H H') (n : H' b = none) : H b = none := by
  cases e : H b with
  | none => rfl
  | some o => rw [S _ _ e] at n; cases n
def sgs : List Str := ["x", "y", "z", "x"]
theorem sgs_ok : ∀ s ∈ sgs, Pg 40 150 [s] := by
  have h : sgs.all (fun s => rowB s) = true := by decide +kernel
  intro s hs
  have q := rowB_ok (List.all_eq_true.mp h s hs)
  exact ⟨by show 1 ≤ 40; decide, fun r hr => by rw [List.mem_singleton.mp hr]; exact q⟩
theorem nobar {d : Dd} {rs : List Str} {z : Str} {p : Prop} (h : d.bar rs = none) (k : d.bar rs = some z) : p := by
  rw [h] at k
  cases k
theorem tl_unl_ok {rs : List Str} (h : ∀ r ∈ rs, ∀ c ∈ tl r, c < 0x110000) : ∀ c ∈ tl (unl rs), c < 0x110000 := by
  intro c hc
  rw [tl_unl] at hc
  obtain ⟨r, hr, hc⟩ := List.mem_flatMap.mp hc
  rcases List.mem_append.mp hc with hc | hc
  · exact h r hr c hc
  · rw [List.mem_singleton.mp hc]
    decide
theorem parts_one {z : Str} (h : 10 ∉ tl z) : Parts z [z] := by
  refine ⟨by simp, ?_, fun p hp => by rw [List.mem_singleton.mp hp]; exact h⟩
  refine tl_ext ?_
  rw [TL.join_eq, TL.tl_join]
  rfl
theorem rowsP_one {z : Str} (h : z.length ≠ 0) : rowsP [z] = [z] := by
  unfold rowsP
  rw [dif_pos (by simp)]
  unfold rowsE
  have e : ¬ ([z].getLast (by simp) = Str.empty) := fun q => h (by rw [show z = Str.empty from q]; rfl)
  rw [if_neg e]
  rfl
abbrev tsE (K : PySem.W.Frag) (CT : Addr) : Addr → Value → Option Addr → TS := fun a' cls d' => tDrop (tBM K "list" rAppend (tVar 5) (tCons (tCall spLike [] C8.E0 (tCons (tXf a' cls d' CT "given" (tVar 7)) (tCons (tVar 6) tNil))) tNil))
abbrev tbE (K : PySem.W.Frag) (C CT : Addr) : TS := fun D σ H => tDrop (tMakeT C (spInit K C CT) (fun σ => WE (wManyAs K (fun _ _ _ _ => False) D [(.ref CT, 7, tsE K CT)]) σ) (tCons (tVar 6) tNil)) D σ H
abbrev sHand : Stmt := top 214
def spHand : Sp := fun vs H Q _ => vs = [] ∧ ∀ H' : Hp, Same H H' → Q (.bl true) H'
theorem _root_.L2H.RoomH.mark {k : Nat} {A : Around} (r : L2H.RoomH k A) (v : Option Value) : L2H.RoomH k (A.mark v) := ⟨r.dp, r.un⟩
abbrev NHa : List Str := ["one", "two", "three", "four", "done", "refused", "odd", "e", "sign"]
theorem scHand : FnScope NHa [] (fnScope sHand) := fnScope_by (by decide +kernel)
theorem ok_hand {f fI fE fL fS : Addr} {fd dI dE dL dS : FuncData} (g : G mg) (T : DkC K C) (T2 : OwnEq K C fE) (T3 : DkE K C) (M : Mk K C fI) (gC : mg "Desk" = some (.ref C)) (TE : ErC P w K mg "InvalidText" "given" CT) (xT : PySem.W.exmOne K (.ref CT) (.ref CT) = some true) (F : Fun K "_law_by_hand" "_law_by_hand" sHand f fd)
    (I1 : FnOk P w K mg base (L2.CX P w) 4 fI dI ["self", "text"] (spInit K C CT)) (bI : Binds K dI ["self", "text"] [])
    (E1 : FnOk P w K mg base CX0 1 fE dE ["self", "other"] (spEq K C)) (bE : Binds K dE ["self", "other"] [])
    (L1 : FnGH P w K mg base 1 fL dL ["seen", "due"] spLike) (aL : At K mg "_law_like" fL) (bL : Binds K dL ["seen", "due"] [])
    (S1 : FnOk P w K mg base CX0 5 fS dS ["desk", "deed"] (spSaid C)) (aS : At K mg "_law_said_of" fS) (bS : Binds K dS ["desk", "deed"] []) :
    FnG P w K mg base 6 f fd [] spHand := by
  refine fnG F scHand (fun vs H Q E h => ?_) (fun cdv A outer s H vs Q E hG hr h => ?_)
  · rw [h.1]
    rfl
  · obtain ⟨rfl, k⟩ := h
    refine ⟨_, pss_cons (ps_asg (pe_lc (own := [("sign", 8)]) (g := gName 8) (tt := tYes) rfl scHand.nd (pi_tup (pe_tup (pa_cons pe_str (pa_cons pe_str (pa_cons pe_str (pa_cons pe_str pa_nil))))))
            (blkOk_by (own := [("sign", 8)]) (N := NHa) (sc := fnScope sHand) (by decide +kernel)) (fun _ _ _ _ _ => pg_name (i := 8) scHand.nd rfl (Or.inl rfl)) (fun _ _ _ _ _ => pts_nil)
            (fun _ _ _ _ _ => pe_makeT_ (E := fun _ _ _ _ => False) rfl rfl rfl rfl rfl M I1 hr rfl gC bI (passAtF rfl rfl) (pa_cons (pe_op op_add_str (pv 8) pe_str) pa_nil)))
          (pg_unl rfl (pgs_cons (pg_name (i := 0) scHand.nd rfl (Or.inl rfl)) (pgs_cons (pg_name (i := 1) scHand.nd rfl (Or.inl rfl)) (pgs_cons (pg_name (i := 2) scHand.nd rfl (Or.inl rfl)) (pgs_cons (pg_name (i := 3) scHand.nd rfl (Or.inl rfl)) pgs_nil))))))
      (pss_cons (ps_set (i := 4) scHand.nd rfl (Or.inl rfl) (pe_lst (pa_cons (pe_call S1 (hr.mono (by decide)) rfl aS.m aS.k bS .nil (pass0 (E := C8.E0)) (pa_cons (pv 0) (pa_cons (pe_tup (pa_cons pe_str (pa_cons pe_int (pa_cons pe_str pa_nil)))) pa_nil)))
          (pa_cons (pe_call S1 (hr.mono (by decide)) rfl aS.m aS.k bS .nil (pass0 (E := C8.E0)) (pa_cons (pv 1) (pa_cons (pe_tup (pa_cons pe_str (pa_cons pe_int (pa_cons pe_str pa_nil)))) pa_nil))) pa_nil))))
      (pss_cons (ps_set (i := 4) scHand.nd rfl (Or.inl rfl) (pe_op op_cat (pv 4) (pe_lst (pa_cons (pe_call S1 (hr.mono (by decide)) rfl aS.m aS.k bS .nil (pass0 (E := C8.E0)) (pa_cons (pv 3) (pa_cons (pe_tup (pa_cons pe_str (pa_cons pe_int (pa_cons pe_str pa_nil)))) pa_nil)))
          (pa_cons (pe_call S1 (hr.mono (by decide)) rfl aS.m aS.k bS .nil (pass0 (E := C8.E0)) (pa_cons (pv 3) (pa_cons (pe_tup (pa_cons pe_str (pa_cons pe_int pa_nil))) pa_nil))) pa_nil)))))
      (pss_cons (ps_if (PW.pt (pw_or (pt_cmpR (op_neD hr.units) (pv 4) (pe_op op_rep (pe_lst (pa_cons pe_str pa_nil)) pe_int) (nomark _))
          (pw_or1 (pt_cmpR (op_neD hr.units) (pe_tup (pa_cons (pe_fld (pv 0) rfl) (pa_cons (pe_fld (pv 1) rfl) (pa_cons (pe_fld (pv 3) rfl) pa_nil)))) (pe_tup (pa_cons (pe_tup (pa_cons pe_str pa_nil)) (pa_cons (pe_tup (pa_cons pe_str pa_nil)) (pa_cons (pe_tup (pa_cons pe_str pa_nil)) pa_nil)))) (nomark _))))) (pss_one (ps_ret pe_bl)) pss_nil)
      (pss_cons (ps_if (PW.pt (pw_or (pt_cmpR (op_eqO T2 E1 (hr.mono (by decide)) bE) (pv 0) (pv 1) (nomark _)) (pw_or (pt_cmpR (op_eqO T2 E1 (hr.mono (by decide)) bE) (pv 0) (pv 2) (nomark _)) (pw_or (pt_cmpR (op_eqO T2 E1 (hr.mono (by decide)) bE) (pv 1) (pv 2) (nomark _))
          (pw_or (pt_cmpR (op_eqO T2 E1 (hr.mono (by decide)) bE) (pv 0) (pv 3) (nomark _)) (pw_or (pt_cmpR (op_eqO T2 E1 (hr.mono (by decide)) bE) (pv 3) (pe_makeT (E := fun _ _ _ _ => False) M I1 hr rfl gC bI (passAtF rfl rfl) (pa_cons pe_str pa_nil)) (nomark _))
            (pw_or1 (pt_not (pt_cmpR (op_eqO T2 E1 (hr.mono (by decide)) bE) (pe_makeT (E := fun _ _ _ _ => False) M I1 hr rfl gC bI (passAtF rfl rfl) (pa_cons pe_str pa_nil)) (pe_makeT (E := fun _ _ _ _ => False) M I1 hr rfl gC bI (passAtF rfl rfl) (pa_cons pe_str pa_nil)) (nomark _)))))))))) (pss_one (ps_ret pe_bl)) pss_nil)
      (pss_cons (ps_set (i := 5) scHand.nd rfl (Or.inl rfl) (pe_lst pa_nil))
      (pss_cons (ps_for PassesOwn.never rfl (pi_tup (pe_tup (pa_cons pe_non (pa_cons pe_int (pa_cons (pe_lst (pa_cons pe_str pa_nil)) (pa_cons (pe_op op_mulS pe_str pe_int) (pa_cons (pe_op op_mulS pe_str pe_int) (pa_cons (pe_op op_add_str (pe_op op_add_str pe_str (pe_op op_mulS pe_str pe_int)) pe_str) pa_nil))))))))
          (pg_name (i := 6) scHand.nd rfl (Or.inl rfl))
          (pss_one (ps_try_manyAs (l := [(.ref CT, 7, tsE K CT)]) rfl rfl scHand.nd takes0
            (fun W pn xe tk hx => pss_one (ps_expr (pe_makeT (E := fun σ => WE W σ) M I1 hr rfl gC bI (fun σ => passAt tk σ) (pa_cons (pv 6) pa_nil))))
            (.cons rfl rfl ⟨rfl, by decide, .inl TE.gC⟩ (fun a' oe cls d' pn hz hf => pss_one (ps_expr (pe_bm PySem.F.plainAttrs_list PySem.F.slot_list_append PySem.F.type_list_append mt_append (pv 5)
              (pa_cons (pe_callGH (x := "_law_like") rfl rfl rfl rfl rfl L1 hG ((L2H.roomH_of (hr.mono (show 1 ≤ 5 by decide))).mark _) List.mem_cons_self rfl aL.m aL.k bL (pa_cons (pe_xf TE.xf TE.no hz hf (pv 7)) (pa_cons (pv 6) pa_nil))) pa_nil)))) .nil))))
      (pss_one (ps_ret (pe_and (pe_cmpR (op_eqD hr.units) (pv 5) (pe_op op_rep (pe_lst (pa_cons pe_bl pa_nil)) pe_int) (nomark _))
        (pe_one (pe_cmpR (op_eqD hr.units) (pe_tup (pa_cons (pe_callB call_len_seq rfl g.len PySem.boot_len (pa_cons (pe_fld (pe_makeT (E := fun _ _ _ _ => False) M I1 hr rfl gC bI (passAtF rfl rfl) (pa_cons (pe_op op_mulS pe_str pe_int) pa_nil)) rfl) pa_nil))
            (pa_cons (pe_fld (pe_makeT (E := fun _ _ _ _ => False) M I1 hr rfl gC bI (passAtF rfl rfl) (pa_cons (pe_op op_mulS pe_str pe_int) pa_nil)) rfl) pa_nil)))
          (pe_tup (pa_cons pe_int (pa_cons (pe_tup (pa_cons (pe_op op_mulS pe_str pe_int) pa_nil)) pa_nil))) (nomark _)))))))))))), ?_⟩
    -- the four desks
    refine ⟨by rw [sizeLine_eq]; show 4 ≤ _; decide, fun p0 hp0 => ⟨p0, rfl, ⟨_, SqT.of upd_same⟩, fun D hD => ?_⟩⟩
    generalize hH1 : upd H p0 (HO.tup _) = H1 at hD ⊢
    have S1 : Same H H1 := by rw [← hH1]; exact same_upd hp0
    have e1 : H1 p0 = some (.tup (sgs.map V.str)) := by rw [← hH1]; exact upd_same
    refine lc_it walk_tup (fun i H' => ∃ bs : List Addr, bs.length = i ∧ H' D = some (.lst (bs.map V.ref)) ∧ (∀ (j : Nat) (b : Addr), bs[j]? = some b → H b = none ∧ ∃ s, sgs[j]? = some s ∧ DeskAt C H' b [s] [s] [] []) ∧ bs.Nodup ∧ Same H1 H')
      ⟨[], rfl, upd_same, fun j b h => by simp at h, List.nodup_nil, same_upd hD⟩ (fun i H' _ ⟨_, _, _, _, _, S⟩ => SqT.of (S _ _ e1)) ?_ ?_
    · rintro i v Hy Hx hi ⟨bs, hl, hacc, hb, nd, S⟩ ⟨rfl, ev⟩
      rw [List.getElem?_map] at ev
      obtain ⟨sg, hsg, rfl⟩ := Option.map_eq_some_iff.mp ev
      have pg := sgs_ok sg (List.mem_of_getElem? hsg)
      have hi4 : i < 4 := hi
      obtain ⟨pts, lz, lp, gd, rb⟩ := parts_good pg
      refine ⟨rfl, _, rfl, _, _, rfl, rfl, ?_, fun x dx nx ndx nxd => ⟨x, dx, upd_same, .inl ⟨unl [sg], _, ?_, pts, lz, lp, fun _ H2 B2 D2 => ⟨rfl, bs.map V.ref, ?_, ?_, bs ++ [x], ?_, ?_, ?_, ?_, ?_⟩, fun ng => absurd gd ng⟩⟩⟩
      · have := (pg.2 sg (List.mem_singleton.mpr rfl)).2.1
        rw [sizeLine_eq]
        show sg.length + 1 ≤ _
        omega
      · rw [← unl_one]
      · have S2 := same_made nx ndx B2
        exact S2 _ _ hacc
      · rw [List.length_map, hl, sizeLine_eq]
        omega
      · rw [List.length_append, hl]
        rfl
      · rw [upd_same, List.map_append]
        rfl
      · have S2 := same_made nx ndx B2
        have xD : x ≠ D := fun z => by rw [z, hacc] at nx; cases nx
        rw [rowsP_unl] at D2
        have keepD : ∀ {b : Addr} {beg rs : List Str} {ds : List Dd} {ps : List (List Str)}, DeskAt C H2 b beg rs ds ps → DeskAt C (upd H2 D (.lst (bs.map V.ref ++ [V.ref x]))) b beg rs ds ps := fun {b beg rs ds ps} h => by
          have hD2 := S2 _ _ hacc
          obtain ⟨_, _, e⟩ := h.ins
          exact h.keep but_upd (ne_of e hD2 (by intro q; cases q)) fun xs z => by rw [hD2] at z; cases z
        intro j b hj
        by_cases hjl : j < bs.length
        · rw [List.getElem?_append_left hjl] at hj
          obtain ⟨h1, s, h2, h3⟩ := hb j b hj
          exact ⟨h1, s, h2, keepD (h3.same S2)⟩
        · rw [List.getElem?_append_right (by omega)] at hj
          have hj0 : j - bs.length = 0 := by
            have := (List.getElem?_eq_some_iff.mp hj).1
            simp at this
            omega
          rw [hj0] at hj
          cases hj
          have ej : j = i := by omega
          rw [ej]
          exact ⟨fresh_same S1 (fresh_same (fun a o e => by
            have q := S _ _ e
            exact q) nx), sg, hsg, keepD D2⟩
      · refine List.nodup_append.mpr ⟨nd, by simp, fun a ha b hbm hab => ?_⟩
        rw [List.mem_singleton.mp hbm] at hab
        obtain ⟨j, hj⟩ := List.mem_iff_getElem?.mp ha
        obtain ⟨_, s, _, h3⟩ := hb j a hj
        obtain ⟨_, _, e⟩ := h3.ins
        rw [hab, nx] at e
        cases e
      · have S2 := same_made nx ndx B2
        intro a o e
        rw [upd_ne (ne_of_none e hD)]
        exact S2 _ _ (S _ _ e)
    · rintro H2 ⟨bs, hl, hacc, hb, nd, S⟩
      have hl4 : bs.length = 4 := hl
      obtain ⟨b1, b2, b3, b4, rfl⟩ : ∃ b1 b2 b3 b4, bs = [b1, b2, b3, b4] := by
        match bs, hl4 with
        | [b1, b2, b3, b4], _ => exact ⟨b1, b2, b3, b4, rfl⟩
      obtain ⟨f1, s1, g1, D1⟩ := hb 0 b1 rfl
      obtain ⟨f2, s2, g2, D2⟩ := hb 1 b2 rfl
      obtain ⟨f3, s3, g3, D3⟩ := hb 2 b3 rfl
      obtain ⟨f4, s4, g4, D4⟩ := hb 3 b4 rfl
      cases g1
      cases g2
      cases g3
      cases g4
      have n12 : b1 ≠ b2 := by intro z; rw [z] at nd; simp at nd
      have n13 : b1 ≠ b3 := by intro z; rw [z] at nd; simp at nd
      have n14 : b1 ≠ b4 := by intro z; rw [z] at nd; simp at nd
      have n23 : b2 ≠ b3 := by intro z; rw [z] at nd; simp at nd
      have n24 : b2 ≠ b4 := by intro z; rw [z] at nd; simp at nd
      have n34 : b3 ≠ b4 := by intro z; rw [z] at nd; simp at nd
      have S2 : Same H H2 := S1.trans S
      refine ⟨D, _, rfl, SqL.of hacc, rfl, _, _, rfl, _, _, rfl, _, _, rfl, _, _, rfl, rfl, ?_⟩
      clear hb nd hl hl4 hacc S S1 e1 hH1 hD hp0
      -- done
      have ok0 : ∀ t : Str, rowB t = true → isRow t = true ∧ t.length ≤ sizeLine := fun t h => rowB_isRow h
      refine ⟨_, rfl, by rw [sizeLine_eq]; show 3 ≤ _; decide, fun p1 hp1 => ?_⟩
      generalize hH3 : upd H2 p1 (HO.tup _) = H3
      have S3 : Same H2 H3 := by rw [← hH3]; exact same_upd hp1
      have e3 : H3 p1 = some (deedO (.row 0 "z")) := by rw [← hH3]; exact upd_same
      refine ⟨b1, p1, ["x"], ["x"], [], [], .row 0 "z", rfl, D1.same S3, e3, ok0 _ (by decide +kernel), by decide, by decide, by decide, fun z hz => nobar (by decide +kernel) hz, fun _ H4 B4 D1' => ?_⟩
      have D2 := (D2.same S3).other (D1.same S3) B4 (Ne.symm n12)
      have D3 := (D3.same S3).other (D1.same S3) B4 (Ne.symm n13)
      have D4 := (D4.same S3).other (D1.same S3) B4 (Ne.symm n14)
      have S4 : Same H H4 := same_new (S2.trans S3) f1 B4
      clear D1 e3 hH3
      have D1 : DeskAt C H4 b1 ["x"] ["z"] [.row 0 "z"] [["x"]] := D1'
      clear D1' S2 S3 B4
      refine ⟨_, rfl, by rw [sizeLine_eq]; show 3 ≤ _; decide, fun p2 hp2 => ?_⟩
      generalize hH5 : upd H4 p2 (HO.tup _) = H5
      have S5 : Same H4 H5 := by rw [← hH5]; exact same_upd hp2
      have e5 : H5 p2 = some (deedO (.row 0 "z")) := by rw [← hH5]; exact upd_same
      refine ⟨b2, p2, ["y"], ["y"], [], [], .row 0 "z", rfl, D2.same S5, e5, ok0 _ (by decide +kernel), by decide, by decide, by decide, fun z hz => nobar (by decide +kernel) hz, fun _ H6 B6 D2' => ?_⟩
      have D1 := (D1.same S5).other (D2.same S5) B6 n12
      have D3 := (D3.same S5).other (D2.same S5) B6 (Ne.symm n23)
      have D4 := (D4.same S5).other (D2.same S5) B6 (Ne.symm n24)
      have S6 : Same H H6 := same_new (S4.trans S5) f2 B6
      clear D2 e5 hH5
      have D2 : DeskAt C H6 b2 ["y"] ["z"] [.row 0 "z"] [["y"]] := D2'
      clear D2' S4 S5 B6
      refine ⟨by rw [sizeLine_eq]; show 2 ≤ _; decide, fun dl hdl => ?_⟩
      generalize hH7 : upd H6 dl (HO.lst _) = H7
      have S7 : Same H6 H7 := by rw [← hH7]; exact same_upd hdl
      have e7 : H7 dl = some (.lst [.str "done", .str "done"]) := by rw [← hH7]; exact upd_same
      refine ⟨_, rfl, _, rfl, by rw [sizeLine_eq]; show 3 ≤ _; decide, fun p3 hp3 => ?_⟩
      generalize hH8 : upd H7 p3 (HO.tup _) = H8
      have S8 : Same H7 H8 := by rw [← hH8]; exact same_upd hp3
      have e8 : H8 p3 = some (deedO (.put 0 "w")) := by rw [← hH8]; exact upd_same
      have S78 : Same H6 H8 := S7.trans S8
      have nd4 : dl ≠ b4 := by
        obtain ⟨_, _, e⟩ := (D4.same S7).ins
        exact ne_of e7 e (by intro q; cases q)
      refine ⟨b4, p3, ["x"], ["x"], [], [], .put 0 "w", rfl, D4.same S78, e8, ok0 _ (by decide +kernel), by decide, by decide, by decide, fun z hz => nobar (by decide +kernel) hz, fun _ H9 B9 D4' => ?_⟩
      have D1 := (D1.same S78).other (D4.same S78) B9 n14
      have D2 := (D2.same S78).other (D4.same S78) B9 n24
      have D3 := (D3.same S78).other (D4.same S78) B9 n34
      have S9 : Same H H9 := same_new (S6.trans S78) f4 B9
      have e9 := B9 _ _ nd4 (S8 _ _ e7)
      clear D4 e7 e8 hH7 hH8
      have D4 : DeskAt C H9 b4 ["x"] ["w", "x"] [.put 0 "w"] [["x"]] := D4'
      clear D4' S6 S7 S8 S78 B9
      refine ⟨_, rfl, by rw [sizeLine_eq]; show 2 ≤ _; decide, fun p4 hp4 => ?_⟩
      generalize hH10 : upd H9 p4 (HO.tup _) = H10
      have S10 : Same H9 H10 := by rw [← hH10]; exact same_upd hp4
      have e10 : H10 p4 = some (deedO (.out 0)) := by rw [← hH10]; exact upd_same
      refine ⟨b4, p4, ["x"], ["w", "x"], [.put 0 "w"], [["x"]], .out 0, rfl, D4.same S10, e10, trivial, by decide, by show 1 ≤ 1000; decide, by decide, fun z hz => nobar (by decide +kernel) hz, fun _ H11 B11 D4' => ?_⟩
      have D1 := (D1.same S10).other (D4.same S10) B11 n14
      have D2 := (D2.same S10).other (D4.same S10) B11 n24
      have D3 := (D3.same S10).other (D4.same S10) B11 n34
      have S11 : Same H H11 := same_new (S9.trans S10) f4 B11
      have e11 := B11 _ _ nd4 (S10 _ _ e9)
      clear D4 e10 hH10 e9
      have D4 : DeskAt C H11 b4 ["x"] ["x"] [.put 0 "w", .out 0] [["x"], ["w", "x"]] := D4'
      clear D4' S9 S10 B11
      refine ⟨by rw [sizeLine_eq]; show 2 ≤ _; decide, fun dl2 hdl2 => ?_⟩
      generalize hH12 : upd H11 dl2 (HO.lst _) = H12
      have S12 : Same H11 H12 := by rw [← hH12]; exact same_upd hdl2
      have e12 : H12 dl2 = some (.lst [.str "done", .str "done"]) := by rw [← hH12]; exact upd_same
      refine ⟨dl, dl2, _, _, rfl, rfl, S12 _ _ e11, e12, by rw [sizeLine_eq]; show 2 + 2 ≤ _; decide, fun dn hdn => ?_⟩
      generalize hH13 : upd H12 dn (HO.lst _) = H13
      have S13 : Same H12 H13 := by rw [← hH13]; exact same_upd hdn
      have e13 : H13 dn = some (.lst [.str "done", .str "done", .str "done", .str "done"]) := by rw [← hH13]; exact upd_same
      have S1213 : Same H11 H13 := S12.trans S13
      have D1 := D1.same S1213
      have D2 := D2.same S1213
      have D3 := D3.same S1213
      have D4 := D4.same S1213
      have S13' : Same H H13 := S11.trans S1213
      clear e11 e12 hH12 hH13 S12 S13 S1213 S11
      -- the first tests
      refine ⟨_, rfl, by rw [sizeLine_eq]; show 1 ≤ _; decide, fun p5 hp5 => ?_⟩
      generalize hH14 : upd H13 p5 (HO.lst _) = H14
      have S14 : Same H13 H14 := by rw [← hH14]; exact same_upd hp5
      have e14 : H14 p5 = some (.lst [.str "done"]) := by rw [← hH14]; exact upd_same
      refine ⟨p5, 4, _, rfl, rfl, e14, by decide, by decide, by rw [sizeLine_eq]; show 1 * 4 ≤ _; decide, fun p6 hp6 => ?_⟩
      generalize hH15 : upd H14 p6 (HO.lst _) = H15
      have S15 : Same H14 H15 := by rw [← hH15]; exact same_upd hp6
      have e15 : H15 p6 = some (.lst [.str "done", .str "done", .str "done", .str "done"]) := by rw [← hH15]; exact upd_same
      have ev1 : PyData.eqv (.list [.str "done", .str "done", .str "done", .str "done"]) (.list [.str "done", .str "done", .str "done", .str "done"]) = true := by decide +kernel
      have S1315 : Same H13 H15 := S14.trans S15
      refine ⟨.list [.str "done", .str "done", .str "done", .str "done"], .list [.str "done", .str "done", .str "done", .str "done"], .lst (SqL.of (S1315 _ _ e13)) (.cons (.str _) (.cons (.str _) (.cons (.str _) (.cons (.str _) .nil)))), .lst (SqL.of e15) (.cons (.str _) (.cons (.str _) (.cons (.str _) (.cons (.str _) .nil)))), by decide +kernel, by decide +kernel, ?_⟩
      rw [ev1]
      refine ⟨_, rfl, iteF ?_⟩
      have D1 := D1.same S1315
      have D2 := D2.same S1315
      have D3 := D3.same S1315
      have D4 := D4.same S1315
      have S15' : Same H H15 := S13'.trans S1315
      have e15d := S1315 _ _ e13
      clear e13 e14 e15 hH14 hH15 S14 S15 S1315 S13' ev1
      obtain ⟨dx1, r01, rr1, dd1, pp1, das1, pas1, h11, h12, h13, _⟩ := id D1
      obtain ⟨dx2, r02, rr2, dd2, pp2, das2, pas2, h21, h22, h23, _⟩ := id D2
      obtain ⟨dx4, r04, rr4, dd4, pp4, das4, pas4, h41, h42, h43, _⟩ := id D4
      refine ⟨_, rfl, b1, C, dx1, _, .ref rr1, rfl, h11, T.cl, T.nR, rfl, _, rfl, b2, C, dx2, _, .ref rr2, rfl, h21, T.cl, T.nR, rfl, _, rfl, b4, C, dx4, _, .ref rr4, rfl, h41, T.cl, T.nR, rfl, by rw [sizeLine_eq]; show 3 ≤ _; decide, fun q1 hq1 => ?_⟩
      generalize hH16 : upd H15 q1 (HO.tup _) = H16
      have S16 : Same H15 H16 := by rw [← hH16]; exact same_upd hq1
      have e16 : H16 q1 = some (.tup [.ref rr1, .ref rr2, .ref rr4]) := by rw [← hH16]; exact upd_same
      refine ⟨by rw [sizeLine_eq]; show 1 ≤ _; decide, fun q2 hq2 => ?_⟩
      generalize hH17 : upd H16 q2 (HO.tup _) = H17
      have S17 : Same H16 H17 := by rw [← hH17]; exact same_upd hq2
      have e17 : H17 q2 = some (rowsO ["z"]) := by rw [← hH17]; exact upd_same
      refine ⟨by rw [sizeLine_eq]; show 1 ≤ _; decide, fun q3 hq3 => ?_⟩
      generalize hH18 : upd H17 q3 (HO.tup _) = H18
      have S18 : Same H17 H18 := by rw [← hH18]; exact same_upd hq3
      have e18 : H18 q3 = some (rowsO ["z"]) := by rw [← hH18]; exact upd_same
      refine ⟨by rw [sizeLine_eq]; show 1 ≤ _; decide, fun q4 hq4 => ?_⟩
      generalize hH19 : upd H18 q4 (HO.tup _) = H19
      have S19 : Same H18 H19 := by rw [← hH19]; exact same_upd hq4
      have e19 : H19 q4 = some (rowsO ["x"]) := by rw [← hH19]; exact upd_same
      refine ⟨by rw [sizeLine_eq]; show 3 ≤ _; decide, fun q5 hq5 => ?_⟩
      generalize hH20 : upd H19 q5 (HO.tup _) = H20
      have S20 : Same H19 H20 := by rw [← hH20]; exact same_upd hq5
      have e20 : H20 q5 = some (.tup [.ref q2, .ref q3, .ref q4]) := by rw [← hH20]; exact upd_same
      have S1620 : Same H16 H20 := S17.trans (S18.trans (S19.trans S20))
      have S1520 : Same H15 H20 := S16.trans S1620
      have ev2 : PyData.eqv (.tuple [rowsD ["z"], rowsD ["z"], rowsD ["x"]]) (.tuple [rowsD ["z"], rowsD ["z"], rowsD ["x"]]) = true := by decide +kernel
      refine ⟨.tuple [rowsD ["z"], rowsD ["z"], rowsD ["x"]], .tuple [rowsD ["z"], rowsD ["z"], rowsD ["x"]], .tup (SqT.of (S1620 _ _ e16)) (.cons (dp_rows (S1520 _ _ h13)) (.cons (dp_rows (S1520 _ _ h23)) (.cons (dp_rows (S1520 _ _ h43)) .nil))),
        .tup (SqT.of e20) (.cons (dp_rows (S20 _ _ (S19 _ _ (S18 _ _ e17)))) (.cons (dp_rows (S20 _ _ (S19 _ _ e18))) (.cons (dp_rows (S20 _ _ e19)) .nil))), by decide +kernel, by decide +kernel, ?_⟩
      rw [ev2]
      refine ⟨_, rfl, iteF ?_⟩
      have D1 := D1.same S1520
      have D2 := D2.same S1520
      have D3 := D3.same S1520
      have D4 := D4.same S1520
      have S20' : Same H H20 := S15'.trans S1520
      have e20d := S1520 _ _ e15d
      clear h11 h12 h13 h21 h22 h23 h41 h42 h43 S16 S17 S18 S19 S20 e16 e17 e18 e19 e20 hH16 hH17 hH18 hH19 hH20 S1620 S1520 ev2 e15d S15'
      -- the second tests
      have kx : Sok ["x"] := fun r hr => by rw [List.mem_singleton.mp hr]; decide +kernel
      have ky : Sok ["y"] := fun r hr => by rw [List.mem_singleton.mp hr]; decide +kernel
      have kz : Sok ["z"] := fun r hr => by rw [List.mem_singleton.mp hr]; decide +kernel
      have kd0 : Dok [] := fun _ h => absurd h List.not_mem_nil
      have kd1 : Dok [.row 0 "z"] := fun d hd => by rw [List.mem_singleton.mp hd]; show PyData.strOk _ = true; decide +kernel
      have kd4 : Dok [.put 0 "w", .out 0] := fun d hd => by
        simp only [List.mem_cons, List.not_mem_nil, or_false] at hd
        rcases hd with rfl | rfl
        · show PyData.strOk _ = true
          decide +kernel
        · trivial
      refine ⟨_, rfl, _, rfl, eq_desks T T3 D1 D2 kx kd1 ky kd1 ⟨_, rfl, ?_⟩⟩
      rw [show (decide ((["x"] : List Str) = (["y"] : List Str)) && decide (([.row 0 "z"] : List Dd) = [.row 0 "z"])) = false by decide +kernel]
      refine iteF ⟨_, rfl, _, rfl, eq_desks T T3 D1 D3 kx kd1 kz kd0 ⟨_, rfl, ?_⟩⟩
      rw [show (decide ((["x"] : List Str) = (["z"] : List Str)) && decide (([.row 0 "z"] : List Dd) = [])) = false by decide +kernel]
      refine iteF ⟨_, rfl, _, rfl, eq_desks T T3 D2 D3 ky kd1 kz kd0 ⟨_, rfl, ?_⟩⟩
      rw [show (decide ((["y"] : List Str) = (["z"] : List Str)) && decide (([.row 0 "z"] : List Dd) = [])) = false by decide +kernel]
      refine iteF ⟨_, rfl, _, rfl, eq_desks T T3 D1 D4 kx kd1 kx kd4 ⟨_, rfl, ?_⟩⟩
      rw [show (decide ((["x"] : List Str) = (["x"] : List Str)) && decide (([.row 0 "z"] : List Dd) = [.put 0 "w", .out 0])) = false by decide +kernel]
      obtain ⟨pts, lz, lp, gd, rb⟩ := parts_good (sgs_ok "x" (by decide +kernel))
      have ex : unl ["x"] = ("x\n" : Str) := by decide +kernel
      rw [ex] at pts lz
      have pt1 : Parts "x" [("x" : Str)] := ⟨by simp, by decide +kernel, fun p hp => by rw [List.mem_singleton.mp hp]; decide +kernel⟩
      have rp1 : rowsP [("x" : Str)] = [("x" : Str)] := by decide +kernel
      have gd1 : Good [("x" : Str)] := by
        unfold Good
        rw [rp1]
        exact ⟨by decide, fun r hr => by rw [List.mem_singleton.mp hr]; decide +kernel⟩
      refine iteF ⟨_, rfl, fun x dx nx ndx nxd => ⟨x, dx, upd_same, .inl ⟨"x\n", _, rfl, pts, lz, lp, fun _ H21 B21 D21 => ⟨rfl, ?_⟩, fun ng => absurd gd ng⟩⟩⟩
      have S21 := same_made nx ndx B21
      rw [rowsP_unl] at D21
      refine eq_desks T T3 (D4.same S21) D21 kx kd4 kx kd0 ⟨_, rfl, ?_⟩
      rw [show (decide ((["x"] : List Str) = (["x"] : List Str)) && decide (([.put 0 "w", .out 0] : List Dd) = [])) = false by decide +kernel]
      refine iteF fun x2 dx2 nx2 ndx2 nxd2 => ⟨x2, dx2, upd_same, .inl ⟨"x", _, rfl, pt1, by rw [sizeLine_eq]; decide +kernel, by rw [sizeLine_eq]; decide, fun _ H22 B22 D22 => ⟨rfl, ?_⟩, fun ng => absurd gd1 ng⟩⟩
      have S22 := same_made nx2 ndx2 B22
      rw [rp1] at D22
      refine fun x3 dx3 nx3 ndx3 nxd3 => ⟨x3, dx3, upd_same, .inl ⟨"x\n", _, rfl, pts, lz, lp, fun _ H23 B23 D23 => ⟨rfl, ?_⟩, fun ng => absurd gd ng⟩⟩
      have S23 := same_made nx3 ndx3 B23
      rw [rowsP_unl] at D23
      refine eq_desks T T3 (D22.same S23) D23 kx kd0 kx kd0 ⟨_, rfl, ?_⟩
      rw [show (decide (([("x" : Str)] : List Str) = [("x" : Str)]) && decide (([] : List Dd) = [])) = true by decide +kernel]
      refine iteF ?_
      -- the refused
      refine ⟨by rw [sizeLine_eq]; exact Nat.zero_le _, fun rl hrl => ?_⟩
      generalize hH24 : upd H23 rl (HO.lst _) = H24
      have S24 : Same H23 H24 := by rw [← hH24]; exact same_upd hrl
      have e24 : H24 rl = some (.lst (List.replicate 0 (.bl true))) := by rw [← hH24]; exact upd_same
      have S24' : Same H H24 := S20'.trans (S21.trans (S22.trans (S23.trans S24)))
      have frl : H rl = none := fresh_same (S20'.trans (S21.trans (S22.trans S23))) hrl
      clear D1 D2 D3 D4 D21 D22 D23 B21 B22 B23 S20' S21 S22 S23 S24 hH24 e20d
      refine ⟨by rw [sizeLine_eq]; show 1 ≤ _; decide, fun lx hlx => ?_⟩
      generalize hH25 : upd H24 lx (HO.lst _) = H25
      have S25 : Same H24 H25 := by rw [← hH25]; exact same_upd hlx
      have e25 : H25 lx = some (.lst [.str "x"]) := by rw [← hH25]; exact upd_same
      refine ⟨_, 61, rfl, rfl, by decide, by decide, by decide, _, 2001, rfl, rfl, by decide, by decide, by decide, _, 2001, rfl, rfl, by decide, by decide, by decide, _, _, rfl, rfl, ?_, _, _, rfl, rfl, ?_, ?_⟩
      · rw [show (Txt.mul "x" 2001).length = 2001 from len_x (n := 2001) (by decide), sizeLine_eq]
        decide
      · rw [len_app, show (Txt.mul "x" 2001).length = 2001 from len_x (n := 2001) (by decide), sizeLine_eq]
        decide
      rw [two_rows, show Txt.mul "x\n" 61 = _ from mul_xn (n := 61) (by decide)]
      refine ⟨by rw [sizeLine_eq]; show 6 ≤ _; decide, fun pt hpt => ?_⟩
      have lX : (Txt.mul "x" 2001).length = 2001 := len_x (n := 2001) (by decide)
      have nX : 10 ∉ tl (Txt.mul "x" 2001) := no_x (n := 2001) (by decide)
      have cX : ∀ c ∈ tl (Txt.mul "x" 2001), c < 0x110000 := by
        rw [show tl (Txt.mul "x" 2001) = _ from mul_x (n := 2001) (by decide)]
        intro c hc
        rw [List.eq_of_mem_replicate hc]
        decide
      generalize Txt.mul "x" 2001 = bigX at hpt lX nX cX ⊢
      generalize hH26 : upd H25 pt (HO.tup _) = H26
      have S26 : Same H25 H26 := by rw [← hH26]; exact same_upd hpt
      have e26 : H26 pt = some (.tup [.non, .int 9, .ref lx, .str (unl (List.replicate 61 "x")), .str bigX, .str (unl ["y", bigX])]) := by rw [← hH26]; exact upd_same
      have e26x := S26 _ _ e25
      have e26r := S26 _ _ (S25 _ _ e24)
      have S26' : Same H H26 := S24'.trans (S25.trans S26)
      clear S24' S25 S26 e24 e25 hH25 hH26 hlx hpt
      have nlx : lx ≠ rl := fun z => by rw [z, e26r] at e26x; cases e26x
      have npt : pt ≠ rl := fun z => by rw [z, e26r] at e26; cases e26
      refine ⟨pt, rfl, ⟨_, SqT.of e26⟩, ?_⟩
      refine for_it (tb := tbE K C CT) walk_tup (fun i σ H' => ∃ v6 : Option V, σ = [some (.ref b1), some (.ref b2), some (.ref b3), some (.ref b4), some (.ref dn), some (.ref rl), v6, none, none] ∧ H' rl = some (.lst (List.replicate i (.bl true))) ∧ But rl H26 H') ⟨none, rfl, e26r, But.refl⟩ (fun i σ H' _ ⟨_, _, _, Bt⟩ => SqT.of (Bt _ _ npt e26)) ?_ ?_
      · rintro i v σ Hy Hx hi ⟨v6, rfl, hacc, Bt⟩ ⟨rfl, ev⟩
        -- what each of them is
        have cont : ∀ (D : Ends) (hn : ∀ (v6 : Option V) (H' : Hp), H' rl = some (.lst (List.replicate (i + 1) (.bl true))) → But rl H26 H' → D.nx [some (.ref b1), some (.ref b2), some (.ref b3), some (.ref b4), some (.ref dn), some (.ref rl), v6, none, none] H') (dt : PyData),
            (∀ H', But rl H26 H' → Dq H' v dt) → dt.hasDict = false → dt.showable = true → dt.depth ≤ 60 → dt.shown.length ≤ sizeLine → (∀ j : Int, v = .int j → j.natAbs.log2 < 1920) →
            ∀ (x dx : Addr), Hx x = none → Hx dx = none → ∀ H' e, Same (upd (upd Hx dx (.own x)) x (.ins C dx [])) H' → H' e = some (.xd [("given", v)]) →
            wManyAs K (fun _ _ _ _ => False) D [(.ref CT, 7, tsE K CT)] (.ref CT) (some e) [some (.ref b1), some (.ref b2), some (.ref b3), some (.ref b4), some (.ref dn), some (.ref rl), some v, none, none] H' := by
          intro D hn dt hd k1 k2 k3 k4 k5 x dx nx ndx H' e S he
          have up : Same Hx H' := fun a o q => S _ _ (by rw [upd_ne (ne_of_none q nx), upd_ne (ne_of_none q ndx)]; exact q)
          have hr' := up _ _ hacc
          have Bt' : But rl H26 H' := Bt.trans (But.of_same up)
          refine ⟨true, xT, fun _ a' ha' => ?_, fun z => by cases z⟩
          refine ⟨_, rfl, .inl ⟨rfl, _, SqL.of hr'⟩, _, rfl, rfl, rfl, e, _, v, rfl, he, rfl, _, rfl, v, dt, rfl, hd H' Bt', k1, k2, k3, k4, k5, rl, _, .bl true, rfl, rfl, hr', ?_, ?_⟩
          · rw [List.length_replicate, sizeLine_eq]
            have : i < 6 := hi
            omega
          · refine hn _ _ ?_ (Bt'.trans but_upd)
            rw [upd_same, ← List.replicate_succ']
        have lk2 : ∀ j : Int, V.ref lx = .int j → j.natAbs.log2 < 1920 := fun j e => by cases e
        have c61 : ∀ c ∈ tl (unl (List.replicate 61 ("x" : Str))), c < 0x110000 := tl_unl_ok fun r hr c hc => by
          rw [List.eq_of_mem_replicate hr, tl_x] at hc
          rw [List.mem_singleton.mp hc]
          decide
        have cyX : ∀ c ∈ tl (unl [("y" : Str), bigX]), c < 0x110000 := tl_unl_ok fun r hr c hc => by
          simp only [List.mem_cons, List.not_mem_nil, or_false] at hr
          rcases hr with rfl | rfl
          · have e : tl ("y" : Str) = [121] := by decide +kernel
            rw [e] at hc
            rw [List.mem_singleton.mp hc]
            decide
          · exact cX c hc
        match i, hi with
        | 0, _ =>
          cases ev
          exact ⟨_, rfl, fun x dx nx ndx nxd => ⟨x, dx, upd_same, .inr ⟨.non, rfl, .no (.base .non) (kit_ty (by decide +kernel)), fun H' e S he => cont _ (by exact fun v6 H' a b => ⟨v6, rfl, a, b⟩) .none (fun _ _ => .non) rfl rfl (by decide) (by rw [sizeLine_eq]; decide +kernel) (fun j e => by cases e) x dx nx ndx H' e S he⟩⟩⟩
        | 1, _ =>
          cases ev
          exact ⟨_, rfl, fun x dx nx ndx nxd => ⟨x, dx, upd_same, .inr ⟨.int 9, rfl, .no (.base (.int _)) (kit_ty (by decide +kernel)), fun H' e S he => cont _ (by exact fun v6 H' a b => ⟨v6, rfl, a, b⟩) (.int 9) (fun _ _ => .int 9) rfl (by decide +kernel) (by decide) (by rw [sizeLine_eq]; decide +kernel) (fun j e => by cases e; decide +kernel) x dx nx ndx H' e S he⟩⟩⟩
        | 2, _ =>
          cases ev
          exact ⟨_, rfl, fun x dx nx ndx nxd => ⟨x, dx, upd_same, .inr ⟨.ref lx, rfl, .no (.base (.lst (by rw [upd_ne (ne_of_none (Bt _ _ nlx e26x) nx), upd_ne (ne_of_none (Bt _ _ nlx e26x) ndx)]; exact Bt _ _ nlx e26x))) (kit_ty (by decide +kernel)),
            fun H' e S he => cont _ (by exact fun v6 H' a b => ⟨v6, rfl, a, b⟩) (.list [.str "x"]) (fun H' B => .lst (B _ _ nlx e26x) (.cons (.str _) .nil)) rfl rfl (by decide +kernel) (by rw [sizeLine_eq]; decide +kernel) lk2 x dx nx ndx H' e S he⟩⟩⟩
        | 3, _ =>
          cases ev
          have lk := lay_str c61 (by decide +kernel)
          have pts := parts_unl (rs := List.replicate 61 ("x" : Str)) fun r hr => by rw [List.eq_of_mem_replicate hr]; decide +kernel
          exact ⟨_, rfl, fun x dx nx ndx nxd => ⟨x, dx, upd_same, .inl ⟨_, _, rfl, pts, by rw [sizeLine_eq]; decide +kernel, by rw [sizeLine_eq]; decide +kernel, fun gd => absurd gd.1 (by rw [rowsP_unl]; decide),
            fun _ H' e S he => cont _ (by exact fun v6 H' a b => ⟨v6, rfl, a, b⟩) (.str _) (fun _ _ => .str _) rfl lk.1 lk.2.1 lk.2.2.1 lk.2.2.2 x dx nx ndx H' e S he⟩⟩⟩
        | 4, _ =>
          cases ev
          have lk := lay_str cX (by rw [lX]; decide)
          have pb := parts_one nX
          exact ⟨_, rfl, fun x dx nx ndx nxd => ⟨x, dx, upd_same, .inl ⟨_, _, rfl, pb, by rw [sizeLine_eq, lX]; decide, by rw [sizeLine_eq]; show 1 + 1 ≤ _; decide, fun gd => absurd (gd.2 bigX (by rw [rowsP_one (by omega)]; exact List.mem_cons_self)) (by omega),
            fun _ H' e S he => cont _ (by exact fun v6 H' a b => ⟨v6, rfl, a, b⟩) (.str _) (fun _ _ => .str _) rfl lk.1 lk.2.1 lk.2.2.1 lk.2.2.2 x dx nx ndx H' e S he⟩⟩⟩
        | 5, _ =>
          cases ev
          have ly : (unl [("y" : Str), bigX]).length ≤ 2 * 2002 := len_unl [("y" : Str), bigX] (k := 2001) fun r hr => by
            simp only [List.mem_cons, List.not_mem_nil, or_false] at hr
            rcases hr with rfl | rfl
            · decide +kernel
            · omega
          have lk := lay_str cyX (by omega)
          have pts := parts_unl (rs := [("y" : Str), bigX]) fun r hr => by
            simp only [List.mem_cons, List.not_mem_nil, or_false] at hr
            rcases hr with rfl | rfl
            · decide +kernel
            · exact nX
          exact ⟨_, rfl, fun x dx nx ndx nxd => ⟨x, dx, upd_same, .inl ⟨_, _, rfl, pts, by rw [sizeLine_eq]; omega, by rw [sizeLine_eq]; show 3 + 1 ≤ _; decide, fun gd => absurd (gd.2 bigX (by rw [rowsP_unl]; simp)) (by omega),
            fun _ H' e S he => cont _ (by exact fun v6 H' a b => ⟨v6, rfl, a, b⟩) (.str _) (fun _ _ => .str _) rfl lk.1 lk.2.1 lk.2.2.1 lk.2.2.2 x dx nx ndx H' e S he⟩⟩⟩
      · rintro σ H27 ⟨v6, rfl, hacc, Bt⟩
        have S27 : Same H H27 := same_new S26' frl Bt
        have hacc : H27 rl = some (.lst (List.replicate 6 (.bl true))) := hacc
        refine ⟨_, rfl, by rw [sizeLine_eq]; show 1 ≤ _; decide, fun p5 hp5 => ?_⟩
        generalize hH28 : upd H27 p5 (HO.lst _) = H28
        have S28 : Same H27 H28 := by rw [← hH28]; exact same_upd hp5
        have e28 : H28 p5 = some (.lst [.bl true]) := by rw [← hH28]; exact upd_same
        refine ⟨p5, 6, _, rfl, rfl, e28, by decide, by decide, by rw [sizeLine_eq]; show 1 * 6 ≤ _; decide, fun p6 hp6 => ?_⟩
        generalize hH29 : upd H28 p6 (HO.lst _) = H29
        have S29 : Same H28 H29 := by rw [← hH29]; exact same_upd hp6
        have e29 : H29 p6 = some (.lst [.bl true, .bl true, .bl true, .bl true, .bl true, .bl true]) := by rw [← hH29]; exact upd_same
        have ev : PyData.eqv (.list [.bool true, .bool true, .bool true, .bool true, .bool true, .bool true]) (.list [.bool true, .bool true, .bool true, .bool true, .bool true, .bool true]) = true := by decide +kernel
        have dpb : ∀ {a : Addr}, H29 a = some (.lst [.bl true, .bl true, .bl true, .bl true, .bl true, .bl true]) → Dp K H29 (.ref a) (.list [.bool true, .bool true, .bool true, .bool true, .bool true, .bool true]) := fun h =>
          .lst (SqL.of h) (.cons (.bl _) (.cons (.bl _) (.cons (.bl _) (.cons (.bl _) (.cons (.bl _) (.cons (.bl _) .nil))))))
        refine ⟨_, _, dpb (S29 _ _ (S28 _ _ hacc)), dpb e29, by decide +kernel, by decide +kernel, true, ?_, ?_⟩
        · rw [ev]
        refine iteT ?_
        have S29' : Same H H29 := S27.trans (S28.trans S29)
        clear S27 S28 S29 e28 e29 hH28 hH29 hacc dpb ev
        have pg60 : Good (List.replicate 60 ("x" : Str) ++ [Str.empty]) := by
          unfold Good
          rw [rowsP_unl]
          exact ⟨by decide, fun r hr => by rw [List.eq_of_mem_replicate hr]; decide +kernel⟩
        have pts60 := parts_unl (rs := List.replicate 60 ("x" : Str)) fun r hr => by rw [List.eq_of_mem_replicate hr]; decide +kernel
        refine ⟨_, 60, rfl, rfl, by decide, by decide, by decide, ?_⟩
        rw [show Txt.mul "x\n" 60 = _ from mul_xn (n := 60) (by decide)]
        refine fun x dx nx ndx nxd => ⟨x, dx, upd_same, .inl ⟨_, _, rfl, pts60, by rw [sizeLine_eq]; decide +kernel, by rw [sizeLine_eq]; decide +kernel, fun _ H30 B30 D30 => ⟨rfl, ?_⟩, fun ng => absurd pg60 ng⟩⟩
        have S30 := same_made nx ndx B30
        rw [rowsP_unl] at D30
        obtain ⟨dx1, r01, rr1, dd1, pp1, das1, pas1, h11, h12, h13, _⟩ := id D30
        refine ⟨x, C, dx1, _, .ref rr1, rfl, h11, T.cl, T.nR, rfl, rr1, _, rfl, .inr (SqT.of h13), _, 2000, rfl, rfl, by decide, by decide, by decide, ?_⟩
        have lY : (Txt.mul "x" 2000).length = 2000 := len_x (n := 2000) (by decide)
        have nY : 10 ∉ tl (Txt.mul "x" 2000) := no_x (n := 2000) (by decide)
        have cY : ∀ c ∈ tl (Txt.mul "x" 2000), c < 0x110000 := by
          rw [show tl (Txt.mul "x" 2000) = _ from mul_x (n := 2000) (by decide)]
          intro c hc
          rw [List.eq_of_mem_replicate hc]
          decide
        have rY : ∀ z : Str, z.length = 2000 → rowsP [z] = [z] := fun z h => rowsP_one (by omega)
        have gY : ∀ z : Str, z.length = 2000 → Good [z] := fun z h => by
          unfold Good
          rw [rY z h]
          exact ⟨by show 1 ≤ 60; decide, fun r hr => by rw [List.mem_singleton.mp hr]; omega⟩
        refine fun x2 dx2 nx2 ndx2 nxd2 => ⟨x2, dx2, upd_same, .inl ⟨_, _, rfl, parts_one nY, by rw [sizeLine_eq, lY]; decide, by rw [sizeLine_eq]; show 1 + 1 ≤ _; decide, fun _ H31 B31 D31 => ⟨rfl, ?_⟩, fun ng => absurd (gY _ lY) ng⟩⟩
        have S31 := same_made nx2 ndx2 B31
        rw [rY _ lY] at D31
        obtain ⟨dx2', r02, rr2, dd2, pp2, das2, pas2, h21, h22, h23, _⟩ := id D31
        refine ⟨x2, C, dx2', _, .ref rr2, rfl, h21, T.cl, T.nR, rfl, by rw [sizeLine_eq]; show 2 ≤ _; decide, fun q1 hq1 => ?_⟩
        generalize hH32 : upd H31 q1 (HO.tup _) = H32
        have S32 : Same H31 H32 := by rw [← hH32]; exact same_upd hq1
        have e32 : H32 q1 = some (.tup [.int 60, .ref rr2]) := by rw [← hH32]; exact upd_same
        refine ⟨_, 2000, rfl, rfl, by decide, by decide, by decide, ?_⟩
        generalize Txt.mul "x" 2000 = bigY at lY nY cY h23 D31 ⊢
        refine ⟨by rw [sizeLine_eq]; show 1 ≤ _; decide, fun q2 hq2 => ?_⟩
        generalize hH33 : upd H32 q2 (HO.tup _) = H33
        have S33 : Same H32 H33 := by rw [← hH33]; exact same_upd hq2
        have e33 : H33 q2 = some (rowsO [bigY]) := by rw [← hH33]; exact upd_same
        refine ⟨by rw [sizeLine_eq]; show 2 ≤ _; decide, fun q3 hq3 => ?_⟩
        generalize hH34 : upd H33 q3 (HO.tup _) = H34
        have S34 : Same H33 H34 := by rw [← hH34]; exact same_upd hq3
        have e34 : H34 q3 = some (.tup [.int 60, .ref q2]) := by rw [← hH34]; exact upd_same
        have S3234 : Same H32 H34 := S33.trans S34
        have evv : PyData.eqv (.tuple [.int (60 : Nat), rowsD [bigY]]) (.tuple [.int (60 : Nat), rowsD [bigY]]) = true := by
          rw [tup_eqv]
          show (PyData.eqv (.int (60 : Nat)) (.int (60 : Nat)) && (PyData.eqv (rowsD [bigY]) (rowsD [bigY]) && true)) = true
          rw [int_eqv, rowsD_eqv, decide_eq_true rfl, decide_eq_true rfl]
          rfl
        have shp : SeqAt.shaped (.tuple [.int (60 : Nat), rowsD [bigY]]) = true := by
          have q := str_ok cY
          unfold SeqAt.shaped rowsD
          simp only [PyData.canLay0, PyData.canLayAll0, PyData.depth, PyData.depthAll, List.map_cons, List.map_nil, q]
          decide
        refine ⟨.tuple [.int (60 : Nat), rowsD [bigY]], .tuple [.int (60 : Nat), rowsD [bigY]], .tup (SqT.of (S3234 _ _ e32)) (.cons (.int _) (.cons (dp_rows (S3234 _ _ (S32 _ _ h23))) .nil)), .tup (SqT.of e34) (.cons (.int _) (.cons (dp_rows (S34 _ _ e33)) .nil)), shp, shp, ?_⟩
        rw [evv]
        exact k _ (S29'.trans (S30.trans (S31.trans (S32.trans S3234))))
end
end K11

/-! The law. -/
namespace Yo
open PySem PySem.Spec L2 Xo
theorem pe_callG0 {X : Cx} {k : Nat} {f : Addr} {fd : FuncData} {sp : Sp} {x : Str} {p pos : Pos} (F : FnG X.prog X.w X.K X.mg X.base k f fd [] sp) (hG : X.A.guards = some []) (hr : Room k X.A) (hg : Gl X x) (hm : X.mg x = some (.ref f)) (hk : PySem.W.keepIn X.K (.ref f) = true) (hb : Binds X.K fd [] [])
    (hdb : (x == ("__debug__" : Str)) = false := by decide) : PE X (.Call (.Name x p) [] [] pos) (tCall sp [] C8.E0 tNil) := by
  refine ⟨fun pins s σ H Q I h => ?_⟩
  refine wpAny_Call_Name_kw (ld_glob I hg hm ?_ hdb)
  refine PySem.W.callWith_K0 I.kIn hk ?_
  have q : sp [] H Q C8.E0 := h
  have hb' := hb s [] I.kIn rfl
  refine wpAny_call (codeAny_mono (F.run X.A X.stack s H ⟨[], []⟩ [] [] Q _ hG hr I.env0 hb' .nil q) fun r s' hq => ?_)
  cases r with
  | error e => exact hq.elim
  | ok fl =>
    cases fl with
    | ret u => exact I.after hq
    | next => exact False.elim hq
    | brk => exact False.elim hq
    | cont => exact False.elim hq
end Yo
namespace K11
open PySem PySem.Spec C8 Xo Yo
open L2 hiding Fun CX0 pass0 E0
section
variable {P : Program} {w : World} {K : PySem.W.Frag} {mg : Str → Option Value} {base : Heap}
abbrev sLaw : Stmt := top 215
def spLaw (K : PySem.W.Frag) : Sp := fun vs H Q _ => ∃ (a : Addr) (ns : List Int), vs = [.ref a] ∧ SqL K H a (ns.map V.int) ∧ ns.length ≤ 63 ∧ ∀ H' : Hp, Q (.bl true) H'
theorem scLaw : FnScope ["cells"] ["cells"] (fnScope sLaw) := fnScope_by (by decide +kernel)
theorem ok_law {f fH fO fC : Addr} {fd dH dO dC : FuncData} (F : Fun K "law" "law" sLaw f fd) (H1 : FnG P w K mg base 6 fH dH [] spHand) (aH : At K mg "_law_by_hand" fH) (bH : Binds K dH [] [])
    (O1 : FnG P w K mg base 6 fO dO ["court"] spIsOne) (aO : At K mg "_law_is_one" fO) (bO : Binds K dO ["court"] [])
    (C1 : FnOk P w K mg base CX0 1 fC dC ["cells", "seat"] (spCourt K)) (aC : At K mg "_law_court" fC) (bC : Binds K dC ["cells", "seat"] []) :
    FnG P w K mg base 7 f fd ["cells"] (spLaw K) := by
  refine fnG F scLaw (fun vs H Q E h => ?_) (fun cdv A outer s H vs Q E hG hr h => ?_)
  · obtain ⟨a, ns, rfl, _⟩ := h
    rfl
  · obtain ⟨a, ns, rfl, hS, hl, k⟩ := h
    refine ⟨_, pss_one (ps_ret (pe_and (pe_callG0 H1 hG hr rfl aH.m aH.k bH) (pe_and (pe_callG O1 hG hr rfl aO.m aO.k bO (pa_cons (pe_call C1 (hr.mono (by decide)) rfl aC.m aC.k bC .nil (pass0 (E := C8.E0)) (pa_cons (pv 0) (pa_cons pe_int pa_nil))) pa_nil))
      (pe_one (pe_callG O1 hG hr rfl aO.m aO.k bO (pa_cons (pe_call C1 (hr.mono (by decide)) rfl aC.m aC.k bC .nil (pass0 (E := C8.E0)) (pa_cons (pv 0) (pa_cons pe_int pa_nil))) pa_nil)))))), ?_⟩
    refine ⟨rfl, fun H2 S2 => ⟨true, rfl, iteT ?_⟩⟩
    refine ⟨_, rfl, a, 0, ns, rfl, S2.seq hS, hl, by decide, by decide, fun H3 c r h S3 hc0 hc hC => ⟨c, r, h, rfl, hc, hC, fun H4 B4 => ⟨true, rfl, iteT ?_⟩⟩⟩
    have S4 : Same H2 H4 := fun b o e => B4 _ _ (ne_of_none e hc0) (S3 _ _ e)
    refine ⟨_, rfl, a, 1, ns, rfl, S4.seq (S2.seq hS), hl, by decide, by decide, fun H5 c2 r2 h2 S5 hc02 hc2 hC2 => ⟨c2, r2, h2, rfl, hc2, hC2, fun H6 B6 => k _⟩⟩
end
end K11

/-! What the heap behind the top says. -/
namespace F11
open PySem PySem.Spec C8 Xo Yo K11
open L2 hiding Fun CX0 pass0 E0
open PySem.W (Frag nsIn findIn isFn excInitIn excOver hasDictIn ks_superIn subIn mroIn keepIn takerIn codeIn ksFn exmOne typeIn fnOf)
abbrev P : Program := PySem.Challenge.pw_bindertongue_k11_desks_unbound_and_twins
noncomputable def Kf (p : Params) : Frag := [(2, S11.o2_4 p), (3, S11.o3_6 p), (116, S11.o116), (115, S11.o115), (130, S11.o130), (129, S11.o129), (123, S11.o123), (122, S11.o122), (1784, S11.o1784), (1783, S11.o1783), (1811, S11.o1811), (1810, S11.o1810), (1816, S11.o1816), (1815, S11.o1815), (1823, S11.o1823), (1822, S11.o1822), (1830, S11.o1830), (1829, S11.o1829), (1837, S11.o1837), (1836, S11.o1836), (1844, S11.o1844), (1843, S11.o1843), (1931, S11.o1931), (1930, S11.o1930), (1938, S11.o1938), (1937, S11.o1937), (1945, S11.o1945), (1944, S11.o1944), (1952, S11.o1952), (1951, S11.o1951), (1957, S11.o1957), (1956, S11.o1956), (1964, S11.o1964), (1963, S11.o1963), (1971, S11.o1971), (1970, S11.o1970), (1978, S11.o1978), (1977, S11.o1977), (1985, S11.o1985), (1984, S11.o1984), (1992, S11.o1992), (1991, S11.o1991), (1997, S11.o1997), (1996, S11.o1996), (2002, S11.o2002), (2001, S11.o2001), (2009, S11.o2009), (2008, S11.o2008), (1922, S11.o1922), (1921, S11.o1921 p), (31, S11.o31), (30, S11.o30 p), (53, S11.o53), (52, S11.o52 p), (74, S11.o74), (73, S11.o73 p), (107, S11.o107), (106, S11.o106 p), (1858, S11.o1858), (1857, S11.o1857), (1865, S11.o1865), (1864, S11.o1864), (1872, S11.o1872), (1871, S11.o1871), (1879, S11.o1879), (1878, S11.o1878), (50, S11.o50), (49, S11.o49), (38, S11.o38), (104, S11.o104), (103, S11.o103), (92, S11.o92), (1804, S11.o1804 p)]
def adds : List Addr := [2, 3, 116, 115, 130, 129, 123, 122, 1784, 1783, 1811, 1810, 1816, 1815, 1823, 1822, 1830, 1829, 1837, 1836, 1844, 1843, 1931, 1930, 1938, 1937, 1945, 1944, 1952, 1951, 1957, 1956, 1964, 1963, 1971, 1970, 1978, 1977, 1985, 1984, 1992, 1991, 1997, 1996, 2002, 2001, 2009, 2008, 1922, 1921, 31, 30, 53, 52, 74, 73, 107, 106, 1858, 1857, 1865, 1864, 1872, 1871, 1879, 1878, 50, 49, 38, 104, 103, 92, 1804]
abbrev fdOf (x q : Str) (st : Stmt) (pm : Value) (cd : Addr) : FuncData := PySem.W.fnOf x q (C8.fnArgs st) (C8.fnBody st) (C8.fnScope st) .none .none .none pm none (.ref cd) .none
section
variable (p : Params)
abbrev d_isWhole : FuncData := fdOf "is_whole" "is_whole" sIsWhole (.str (S11.S "bindertongue.values") 313) 115
theorem f_isWhole : C8.Fun (Kf p) "is_whole" "is_whole" sIsWhole 116 d_isWhole := ⟨⟨.type "function", none, .none, .none, .none, (.str (S11.S "bindertongue.values") 313), none, .ref 115, .none, #[], rfl, by kernel_rfl, by kernel_rfl⟩⟩
abbrev d_isStr : FuncData := fdOf "is_string" "is_string" sIsStr (.str (S11.S "bindertongue.values") 313) 129
theorem f_isStr : C8.Fun (Kf p) "is_string" "is_string" sIsStr 130 d_isStr := ⟨⟨.type "function", none, .none, .none, .none, (.str (S11.S "bindertongue.values") 313), none, .ref 129, .none, #[], rfl, by kernel_rfl, by kernel_rfl⟩⟩
abbrev d_isNum : FuncData := fdOf "is_number" "is_number" sIsNum (.str (S11.S "bindertongue.values") 313) 122
theorem f_isNum : C8.Fun (Kf p) "is_number" "is_number" sIsNum 123 d_isNum := ⟨⟨.type "function", none, .none, .none, .none, (.str (S11.S "bindertongue.values") 313), none, .ref 122, .none, #[], rfl, by kernel_rfl, by kernel_rfl⟩⟩
abbrev d_rowsOf : FuncData := fdOf "rows_of" "rows_of" sRowsOf (.str (S11.S "bindertongue.readwork") 2604) 1783
theorem f_rowsOf : C8.Fun (Kf p) "rows_of" "rows_of" sRowsOf 1784 d_rowsOf := ⟨⟨.type "function", none, .none, .none, .none, (.str (S11.S "bindertongue.readwork") 2604), none, .ref 1783, .none, #[], rfl, by kernel_rfl, by kernel_rfl⟩⟩
abbrev d_rowText : FuncData := fdOf "is_row_text" "is_row_text" sRowText (.str (S11.S "bindertongue.desks") 2827) 1810
theorem f_rowText : C8.Fun (Kf p) "is_row_text" "is_row_text" sRowText 1811 d_rowText := ⟨⟨.type "function", none, .none, .none, .none, (.str (S11.S "bindertongue.desks") 2827), none, .ref 1810, .none, #[], rfl, by kernel_rfl, by kernel_rfl⟩⟩
abbrev d_rowsIn : FuncData := fdOf "rows_in" "rows_in" sRowsIn (.str (S11.S "bindertongue.desks") 2827) 1815
theorem f_rowsIn : C8.Fun (Kf p) "rows_in" "rows_in" sRowsIn 1816 d_rowsIn := ⟨⟨.type "function", none, .none, .none, .none, (.str (S11.S "bindertongue.desks") 2827), none, .ref 1815, .none, #[], rfl, by kernel_rfl, by kernel_rfl⟩⟩
abbrev d_headed : FuncData := fdOf "is_headed" "is_headed" sHeaded (.str (S11.S "bindertongue.desks") 2827) 1822
theorem f_headed : C8.Fun (Kf p) "is_headed" "is_headed" sHeaded 1823 d_headed := ⟨⟨.type "function", none, .none, .none, .none, (.str (S11.S "bindertongue.desks") 2827), none, .ref 1822, .none, #[], rfl, by kernel_rfl, by kernel_rfl⟩⟩
abbrev d_check : FuncData := fdOf "check_deed" "check_deed" sCheck (.str (S11.S "bindertongue.desks") 2827) 1829
theorem f_check : C8.Fun (Kf p) "check_deed" "check_deed" sCheck 1830 d_check := ⟨⟨.type "function", none, .none, .none, .none, (.str (S11.S "bindertongue.desks") 2827), none, .ref 1829, .none, #[], rfl, by kernel_rfl, by kernel_rfl⟩⟩
abbrev d_barred : FuncData := fdOf "barred_by" "barred_by" sBarred (.str (S11.S "bindertongue.desks") 2827) 1836
theorem f_barred : C8.Fun (Kf p) "barred_by" "barred_by" sBarred 1837 d_barred := ⟨⟨.type "function", none, .none, .none, .none, (.str (S11.S "bindertongue.desks") 2827), none, .ref 1836, .none, #[], rfl, by kernel_rfl, by kernel_rfl⟩⟩
abbrev d_behind : FuncData := fdOf "rows_behind" "rows_behind" sBehind (.str (S11.S "bindertongue.desks") 2827) 1843
theorem f_behind : C8.Fun (Kf p) "rows_behind" "rows_behind" sBehind 1844 d_behind := ⟨⟨.type "function", none, .none, .none, .none, (.str (S11.S "bindertongue.desks") 2827), none, .ref 1843, .none, #[], rfl, by kernel_rfl, by kernel_rfl⟩⟩
abbrev d_court : FuncData := fdOf "_law_court" "_law_court" sCourt (.str (S11.S "law_bindertongue_k11_desks_unbound_and_twins") 2992) 1930
theorem f_court : C8.Fun (Kf p) "_law_court" "_law_court" sCourt 1931 d_court := ⟨⟨.type "function", none, .none, .none, .none, (.str (S11.S "law_bindertongue_k11_desks_unbound_and_twins") 2992), none, .ref 1930, .none, #[], rfl, by kernel_rfl, by kernel_rfl⟩⟩
abbrev d_call : FuncData := fdOf "_law_call" "_law_call" sCall (.str (S11.S "law_bindertongue_k11_desks_unbound_and_twins") 2992) 1937
theorem f_call : C8.Fun (Kf p) "_law_call" "_law_call" sCall 1938 d_call := ⟨⟨.type "function", none, .none, .none, .none, (.str (S11.S "law_bindertongue_k11_desks_unbound_and_twins") 2992), none, .ref 1937, .none, #[], rfl, by kernel_rfl, by kernel_rfl⟩⟩
abbrev d_one : FuncData := fdOf "_law_one_of" "_law_one_of" sOne (.str (S11.S "law_bindertongue_k11_desks_unbound_and_twins") 2992) 1944
theorem f_one : C8.Fun (Kf p) "_law_one_of" "_law_one_of" sOne 1945 d_one := ⟨⟨.type "function", none, .none, .none, .none, (.str (S11.S "law_bindertongue_k11_desks_unbound_and_twins") 2992), none, .ref 1944, .none, #[], rfl, by kernel_rfl, by kernel_rfl⟩⟩
abbrev d_like : FuncData := fdOf "_law_like" "_law_like" sLike (.str (S11.S "law_bindertongue_k11_desks_unbound_and_twins") 2992) 1951
theorem f_like : C8.Fun (Kf p) "_law_like" "_law_like" sLike 1952 d_like := ⟨⟨.type "function", none, .none, .none, .none, (.str (S11.S "law_bindertongue_k11_desks_unbound_and_twins") 2992), none, .ref 1951, .none, #[], rfl, by kernel_rfl, by kernel_rfl⟩⟩
abbrev d_small : FuncData := fdOf "_law_small" "_law_small" sSmall (.str (S11.S "law_bindertongue_k11_desks_unbound_and_twins") 2992) 1956
theorem f_small : C8.Fun (Kf p) "_law_small" "_law_small" sSmall 1957 d_small := ⟨⟨.type "function", none, .none, .none, .none, (.str (S11.S "law_bindertongue_k11_desks_unbound_and_twins") 2992), none, .ref 1956, .none, #[], rfl, by kernel_rfl, by kernel_rfl⟩⟩
abbrev d_after : FuncData := fdOf "_law_after" "_law_after" sAfter (.str (S11.S "law_bindertongue_k11_desks_unbound_and_twins") 2992) 1963
theorem f_after : C8.Fun (Kf p) "_law_after" "_law_after" sAfter 1964 d_after := ⟨⟨.type "function", none, .none, .none, .none, (.str (S11.S "law_bindertongue_k11_desks_unbound_and_twins") 2992), none, .ref 1963, .none, #[], rfl, by kernel_rfl, by kernel_rfl⟩⟩
abbrev d_said : FuncData := fdOf "_law_said_of" "_law_said_of" sSaid (.str (S11.S "law_bindertongue_k11_desks_unbound_and_twins") 2992) 1970
theorem f_said : C8.Fun (Kf p) "_law_said_of" "_law_said_of" sSaid 1971 d_said := ⟨⟨.type "function", none, .none, .none, .none, (.str (S11.S "law_bindertongue_k11_desks_unbound_and_twins") 2992), none, .ref 1970, .none, #[], rfl, by kernel_rfl, by kernel_rfl⟩⟩
abbrev d_deed : FuncData := fdOf "_law_deed" "_law_deed" sDeed (.str (S11.S "law_bindertongue_k11_desks_unbound_and_twins") 2992) 1977
theorem f_deed : C8.Fun (Kf p) "_law_deed" "_law_deed" sDeed 1978 d_deed := ⟨⟨.type "function", none, .none, .none, .none, (.str (S11.S "law_bindertongue_k11_desks_unbound_and_twins") 2992), none, .ref 1977, .none, #[], rfl, by kernel_rfl, by kernel_rfl⟩⟩
abbrev d_due : FuncData := fdOf "_law_due_of" "_law_due_of" sDue (.str (S11.S "law_bindertongue_k11_desks_unbound_and_twins") 2992) 1984
theorem f_due : C8.Fun (Kf p) "_law_due_of" "_law_due_of" sDue 1985 d_due := ⟨⟨.type "function", none, .none, .none, .none, (.str (S11.S "law_bindertongue_k11_desks_unbound_and_twins") 2992), none, .ref 1984, .none, #[], rfl, by kernel_rfl, by kernel_rfl⟩⟩
abbrev d_asks : FuncData := fdOf "_law_small_asks" "_law_small_asks" sAsks (.str (S11.S "law_bindertongue_k11_desks_unbound_and_twins") 2992) 1991
theorem f_asks : C8.Fun (Kf p) "_law_small_asks" "_law_small_asks" sAsks 1992 d_asks := ⟨⟨.type "function", none, .none, .none, .none, (.str (S11.S "law_bindertongue_k11_desks_unbound_and_twins") 2992), none, .ref 1991, .none, #[], rfl, by kernel_rfl, by kernel_rfl⟩⟩
abbrev d_isOne : FuncData := fdOf "_law_is_one" "_law_is_one" sIsOne (.str (S11.S "law_bindertongue_k11_desks_unbound_and_twins") 2992) 1996
theorem f_isOne : C8.Fun (Kf p) "_law_is_one" "_law_is_one" sIsOne 1997 d_isOne := ⟨⟨.type "function", none, .none, .none, .none, (.str (S11.S "law_bindertongue_k11_desks_unbound_and_twins") 2992), none, .ref 1996, .none, #[], rfl, by kernel_rfl, by kernel_rfl⟩⟩
abbrev d_hand : FuncData := fdOf "_law_by_hand" "_law_by_hand" sHand (.str (S11.S "law_bindertongue_k11_desks_unbound_and_twins") 2992) 2001
theorem f_hand : C8.Fun (Kf p) "_law_by_hand" "_law_by_hand" sHand 2002 d_hand := ⟨⟨.type "function", none, .none, .none, .none, (.str (S11.S "law_bindertongue_k11_desks_unbound_and_twins") 2992), none, .ref 2001, .none, #[], rfl, by kernel_rfl, by kernel_rfl⟩⟩
abbrev d_law : FuncData := fdOf "law" "law" sLaw (.str (S11.S "law_bindertongue_k11_desks_unbound_and_twins") 2992) 2008
theorem f_law : C8.Fun (Kf p) "law" "law" sLaw 2009 d_law := ⟨⟨.type "function", none, .none, .none, .none, (.str (S11.S "law_bindertongue_k11_desks_unbound_and_twins") 2992), none, .ref 2008, .none, #[], rfl, by kernel_rfl, by kernel_rfl⟩⟩
abbrev d_init : FuncData := fdOf "__init__" "Desk.__init__" sInit (.str (S11.S "bindertongue.desks") 2827) 1857
theorem f_init : C8.Fun (Kf p) "__init__" "Desk.__init__" sInit 1858 d_init := ⟨⟨.type "function", none, .none, .none, .none, (.str (S11.S "bindertongue.desks") 2827), none, .ref 1857, .none, #[], rfl, by kernel_rfl, by kernel_rfl⟩⟩
abbrev d_eq : FuncData := fdOf "__eq__" "Desk.__eq__" sEq (.str (S11.S "bindertongue.desks") 2827) 1864
theorem f_eq : C8.Fun (Kf p) "__eq__" "Desk.__eq__" sEq 1865 d_eq := ⟨⟨.type "function", none, .none, .none, .none, (.str (S11.S "bindertongue.desks") 2827), none, .ref 1864, .none, #[], rfl, by kernel_rfl, by kernel_rfl⟩⟩
abbrev d_do : FuncData := fdOf "do" "Desk.do" sDo (.str (S11.S "bindertongue.desks") 2827) 1871
theorem f_do : C8.Fun (Kf p) "do" "Desk.do" sDo 1872 d_do := ⟨⟨.type "function", none, .none, .none, .none, (.str (S11.S "bindertongue.desks") 2827), none, .ref 1871, .none, #[], rfl, by kernel_rfl, by kernel_rfl⟩⟩
abbrev d_undo : FuncData := fdOf "undo" "Desk.undo" sUndo (.str (S11.S "bindertongue.desks") 2827) 1878
theorem f_undo : C8.Fun (Kf p) "undo" "Desk.undo" sUndo 1879 d_undo := ⟨⟨.type "function", none, .none, .none, .none, (.str (S11.S "bindertongue.desks") 2827), none, .ref 1878, .none, #[], rfl, by kernel_rfl, by kernel_rfl⟩⟩
theorem b_isWhole : Binds (Kf p) d_isWhole ["value"] [] := (f_isWhole p).binds rfl (ps := ["value"]) fun _ _ _ _ _ _ us hl => match us, hl with | [_], _ => rfl
theorem b_isStr : Binds (Kf p) d_isStr ["value"] [] := (f_isStr p).binds rfl (ps := ["value"]) fun _ _ _ _ _ _ us hl => match us, hl with | [_], _ => rfl
theorem b_isNum : Binds (Kf p) d_isNum ["value"] [] := (f_isNum p).binds rfl (ps := ["value"]) fun _ _ _ _ _ _ us hl => match us, hl with | [_], _ => rfl
theorem b_rowsOf : Binds (Kf p) d_rowsOf ["text"] [] := (f_rowsOf p).binds rfl (ps := ["text"]) fun _ _ _ _ _ _ us hl => match us, hl with | [_], _ => rfl
theorem b_rowText : Binds (Kf p) d_rowText ["value"] [] := (f_rowText p).binds rfl (ps := ["value"]) fun _ _ _ _ _ _ us hl => match us, hl with | [_], _ => rfl
theorem b_rowsIn : Binds (Kf p) d_rowsIn ["text"] [] := (f_rowsIn p).binds rfl (ps := ["text"]) fun _ _ _ _ _ _ us hl => match us, hl with | [_], _ => rfl
theorem b_headed : Binds (Kf p) d_headed ["value"] [] := (f_headed p).binds rfl (ps := ["value"]) fun _ _ _ _ _ _ us hl => match us, hl with | [_], _ => rfl
theorem b_check : Binds (Kf p) d_check ["deed"] [] := (f_check p).binds rfl (ps := ["deed"]) fun _ _ _ _ _ _ us hl => match us, hl with | [_], _ => rfl
theorem b_barred : Binds (Kf p) d_barred ["rows", "deed"] [] := (f_barred p).binds rfl (ps := ["rows", "deed"]) fun _ _ _ _ _ _ us hl => match us, hl with | [_, _], _ => rfl
theorem b_behind : Binds (Kf p) d_behind ["rows", "deed"] [] := (f_behind p).binds rfl (ps := ["rows", "deed"]) fun _ _ _ _ _ _ us hl => match us, hl with | [_, _], _ => rfl
theorem b_court : Binds (Kf p) d_court ["cells", "seat"] [] := (f_court p).binds rfl (ps := ["cells", "seat"]) fun _ _ _ _ _ _ us hl => match us, hl with | [_, _], _ => rfl
theorem b_call : Binds (Kf p) d_call ["court", "many"] [] := (f_call p).binds rfl (ps := ["court", "many"]) fun _ _ _ _ _ _ us hl => match us, hl with | [_, _], _ => rfl
theorem b_one : Binds (Kf p) d_one ["court", "some"] [] := (f_one p).binds rfl (ps := ["court", "some"]) fun _ _ _ _ _ _ us hl => match us, hl with | [_, _], _ => rfl
theorem b_like : Binds (Kf p) d_like ["seen", "due"] [] := (f_like p).binds rfl (ps := ["seen", "due"]) fun _ _ _ _ _ _ us hl => match us, hl with | [_, _], _ => rfl
theorem b_small : Binds (Kf p) d_small ["court", "some"] [] := (f_small p).binds rfl (ps := ["court", "some"]) fun _ _ _ _ _ _ us hl => match us, hl with | [_, _], _ => rfl
theorem b_after : Binds (Kf p) d_after ["rows", "deed"] [] := (f_after p).binds rfl (ps := ["rows", "deed"]) fun _ _ _ _ _ _ us hl => match us, hl with | [_, _], _ => rfl
theorem b_said : Binds (Kf p) d_said ["desk", "deed"] [] := (f_said p).binds rfl (ps := ["desk", "deed"]) fun _ _ _ _ _ _ us hl => match us, hl with | [_, _], _ => rfl
theorem b_deed : Binds (Kf p) d_deed ["court", "rows", "texts"] [] := (f_deed p).binds rfl (ps := ["court", "rows", "texts"]) fun _ _ _ _ _ _ us hl => match us, hl with | [_, _, _], _ => rfl
theorem b_due : Binds (Kf p) d_due ["after"] [] := (f_due p).binds rfl (ps := ["after"]) fun _ _ _ _ _ _ us hl => match us, hl with | [_], _ => rfl
theorem b_asks : Binds (Kf p) d_asks ["court"] [] := (f_asks p).binds rfl (ps := ["court"]) fun _ _ _ _ _ _ us hl => match us, hl with | [_], _ => rfl
theorem b_isOne : Binds (Kf p) d_isOne ["court"] [] := (f_isOne p).binds rfl (ps := ["court"]) fun _ _ _ _ _ _ us hl => match us, hl with | [_], _ => rfl
theorem b_hand : Binds (Kf p) d_hand [] [] := (f_hand p).binds rfl (ps := []) fun _ _ _ _ _ _ us hl => match us, hl with | [], _ => rfl
theorem b_law : Binds (Kf p) d_law ["cells"] [] := (f_law p).binds rfl (ps := ["cells"]) fun _ _ _ _ _ _ us hl => match us, hl with | [_], _ => rfl
theorem b_init : Binds (Kf p) d_init ["self", "text"] [] := (f_init p).binds rfl (ps := ["self", "text"]) fun _ _ _ _ _ _ us hl => match us, hl with | [_, _], _ => rfl
theorem b_eq : Binds (Kf p) d_eq ["self", "other"] [] := (f_eq p).binds rfl (ps := ["self", "other"]) fun _ _ _ _ _ _ us hl => match us, hl with | [_, _], _ => rfl
theorem b_do : Binds (Kf p) d_do ["self", "deed"] [] := (f_do p).binds rfl (ps := ["self", "deed"]) fun _ _ _ _ _ _ us hl => match us, hl with | [_, _], _ => rfl
theorem b_undo : Binds (Kf p) d_undo ["self"] [] := (f_undo p).binds rfl (ps := ["self"]) fun _ _ _ _ _ _ us hl => match us, hl with | [_], _ => rfl
theorem a_isWhole {mg : Str → Option Value} {h : Heap} (X : (Kf p).In h) (G : h.Ns mainGlobals mg) : At (Kf p) mg "is_whole" 116 := ⟨PySem.W.mg_of X G (by kernel_rfl), by kernel_rfl⟩
theorem a_isStr {mg : Str → Option Value} {h : Heap} (X : (Kf p).In h) (G : h.Ns mainGlobals mg) : At (Kf p) mg "is_string" 130 := ⟨PySem.W.mg_of X G (by kernel_rfl), by kernel_rfl⟩
theorem a_isNum {mg : Str → Option Value} {h : Heap} (X : (Kf p).In h) (G : h.Ns mainGlobals mg) : At (Kf p) mg "is_number" 123 := ⟨PySem.W.mg_of X G (by kernel_rfl), by kernel_rfl⟩
theorem a_rowsOf {mg : Str → Option Value} {h : Heap} (X : (Kf p).In h) (G : h.Ns mainGlobals mg) : At (Kf p) mg "rows_of" 1784 := ⟨PySem.W.mg_of X G (by kernel_rfl), by kernel_rfl⟩
theorem a_rowText {mg : Str → Option Value} {h : Heap} (X : (Kf p).In h) (G : h.Ns mainGlobals mg) : At (Kf p) mg "is_row_text" 1811 := ⟨PySem.W.mg_of X G (by kernel_rfl), by kernel_rfl⟩
theorem a_rowsIn {mg : Str → Option Value} {h : Heap} (X : (Kf p).In h) (G : h.Ns mainGlobals mg) : At (Kf p) mg "rows_in" 1816 := ⟨PySem.W.mg_of X G (by kernel_rfl), by kernel_rfl⟩
theorem a_headed {mg : Str → Option Value} {h : Heap} (X : (Kf p).In h) (G : h.Ns mainGlobals mg) : At (Kf p) mg "is_headed" 1823 := ⟨PySem.W.mg_of X G (by kernel_rfl), by kernel_rfl⟩
theorem a_check {mg : Str → Option Value} {h : Heap} (X : (Kf p).In h) (G : h.Ns mainGlobals mg) : At (Kf p) mg "check_deed" 1830 := ⟨PySem.W.mg_of X G (by kernel_rfl), by kernel_rfl⟩
theorem a_barred {mg : Str → Option Value} {h : Heap} (X : (Kf p).In h) (G : h.Ns mainGlobals mg) : At (Kf p) mg "barred_by" 1837 := ⟨PySem.W.mg_of X G (by kernel_rfl), by kernel_rfl⟩
theorem a_behind {mg : Str → Option Value} {h : Heap} (X : (Kf p).In h) (G : h.Ns mainGlobals mg) : At (Kf p) mg "rows_behind" 1844 := ⟨PySem.W.mg_of X G (by kernel_rfl), by kernel_rfl⟩
theorem a_court {mg : Str → Option Value} {h : Heap} (X : (Kf p).In h) (G : h.Ns mainGlobals mg) : At (Kf p) mg "_law_court" 1931 := ⟨PySem.W.mg_of X G (by kernel_rfl), by kernel_rfl⟩
theorem a_call {mg : Str → Option Value} {h : Heap} (X : (Kf p).In h) (G : h.Ns mainGlobals mg) : At (Kf p) mg "_law_call" 1938 := ⟨PySem.W.mg_of X G (by kernel_rfl), by kernel_rfl⟩
theorem a_one {mg : Str → Option Value} {h : Heap} (X : (Kf p).In h) (G : h.Ns mainGlobals mg) : At (Kf p) mg "_law_one_of" 1945 := ⟨PySem.W.mg_of X G (by kernel_rfl), by kernel_rfl⟩
theorem a_like {mg : Str → Option Value} {h : Heap} (X : (Kf p).In h) (G : h.Ns mainGlobals mg) : At (Kf p) mg "_law_like" 1952 := ⟨PySem.W.mg_of X G (by kernel_rfl), by kernel_rfl⟩
theorem a_small {mg : Str → Option Value} {h : Heap} (X : (Kf p).In h) (G : h.Ns mainGlobals mg) : At (Kf p) mg "_law_small" 1957 := ⟨PySem.W.mg_of X G (by kernel_rfl), by kernel_rfl⟩
theorem a_after {mg : Str → Option Value} {h : Heap} (X : (Kf p).In h) (G : h.Ns mainGlobals mg) : At (Kf p) mg "_law_after" 1964 := ⟨PySem.W.mg_of X G (by kernel_rfl), by kernel_rfl⟩
theorem a_said {mg : Str → Option Value} {h : Heap} (X : (Kf p).In h) (G : h.Ns mainGlobals mg) : At (Kf p) mg "_law_said_of" 1971 := ⟨PySem.W.mg_of X G (by kernel_rfl), by kernel_rfl⟩
theorem a_deed {mg : Str → Option Value} {h : Heap} (X : (Kf p).In h) (G : h.Ns mainGlobals mg) : At (Kf p) mg "_law_deed" 1978 := ⟨PySem.W.mg_of X G (by kernel_rfl), by kernel_rfl⟩
theorem a_due {mg : Str → Option Value} {h : Heap} (X : (Kf p).In h) (G : h.Ns mainGlobals mg) : At (Kf p) mg "_law_due_of" 1985 := ⟨PySem.W.mg_of X G (by kernel_rfl), by kernel_rfl⟩
theorem a_asks {mg : Str → Option Value} {h : Heap} (X : (Kf p).In h) (G : h.Ns mainGlobals mg) : At (Kf p) mg "_law_small_asks" 1992 := ⟨PySem.W.mg_of X G (by kernel_rfl), by kernel_rfl⟩
theorem a_isOne {mg : Str → Option Value} {h : Heap} (X : (Kf p).In h) (G : h.Ns mainGlobals mg) : At (Kf p) mg "_law_is_one" 1997 := ⟨PySem.W.mg_of X G (by kernel_rfl), by kernel_rfl⟩
theorem a_hand {mg : Str → Option Value} {h : Heap} (X : (Kf p).In h) (G : h.Ns mainGlobals mg) : At (Kf p) mg "_law_by_hand" 2002 := ⟨PySem.W.mg_of X G (by kernel_rfl), by kernel_rfl⟩
theorem a_law {mg : Str → Option Value} {h : Heap} (X : (Kf p).In h) (G : h.Ns mainGlobals mg) : At (Kf p) mg "law" 2009 := ⟨PySem.W.mg_of X G (by kernel_rfl), by kernel_rfl⟩
theorem g_all {mg : Str → Option Value} {h : Heap} (X : (Kf p).In h) (G : h.Ns mainGlobals mg) : K11.G mg where
  len := PySem.W.mg_none_of X G (by kernel_rfl)
  isi := PySem.W.mg_none_of X G (by kernel_rfl)
  str := PySem.W.mg_none_of X G (by kernel_rfl)
  tuple := PySem.W.mg_none_of X G (by kernel_rfl)
  list := PySem.W.mg_none_of X G (by kernel_rfl)
  int := PySem.W.mg_none_of X G (by kernel_rfl)
  bool := PySem.W.mg_none_of X G (by kernel_rfl)
  range := PySem.W.mg_none_of X G (by kernel_rfl)
  enum := PySem.W.mg_none_of X G (by kernel_rfl)
  divmod := PySem.W.mg_none_of X G (by kernel_rfl)
  abs := PySem.W.mg_none_of X G (by kernel_rfl)
  repr := PySem.W.mg_none_of X G (by kernel_rfl)
  all := PySem.W.mg_none_of X G (by kernel_rfl)
  super := PySem.W.mg_none_of X G (by kernel_rfl)
  mS := ⟨2631, PySem.W.mg_of (v := .int 2000 2631) X G (by kernel_rfl)⟩
  mR := ⟨2844, PySem.W.mg_of (v := .int 60 2844) X G (by kernel_rfl)⟩
  put := ⟨2829, PySem.W.mg_of (v := .str "put" 2829) X G (by kernel_rfl)⟩
  row := ⟨2831, PySem.W.mg_of (v := .str "row" 2831) X G (by kernel_rfl)⟩
  out := ⟨2833, PySem.W.mg_of (v := .str "out" 2833) X G (by kernel_rfl)⟩
theorem cl_desk : Cls (Kf p) 1922 := ⟨by kernel_rfl, by kernel_rfl, by kernel_rfl, by kernel_rfl⟩
theorem dk_c : DkC (Kf p) 1922 where
  cl := cl_desk p
  nB := by unfold NoAttr; kernel_rfl
  nR := by unfold NoAttr; kernel_rfl
  nD := by unfold NoAttr; kernel_rfl
  nP := by unfold NoAttr; kernel_rfl
  ha := by kernel_rfl
  hn := by kernel_rfl
  ht := by kernel_rfl
  hm := by kernel_rfl
  self := by kernel_rfl
theorem dk_mk : Mk (Kf p) 1922 1858 := ⟨by kernel_rfl, by kernel_rfl, by kernel_rfl, by kernel_rfl⟩
theorem m_do : Meth (Kf p) 1922 "do" 1872 := ⟨by kernel_rfl, by kernel_rfl, by kernel_rfl⟩
theorem m_undo : Meth (Kf p) 1922 "undo" 1879 := ⟨by kernel_rfl, by kernel_rfl, by kernel_rfl⟩
theorem dk_eq : Yo.OwnEq (Kf p) 1922 1865 where
  find := by kernel_rfl
  fn := by kernel_rfl
  obj := ⟨"Desk", "Desk", 1921, [.type "object"], true, [], [], false, none, none, none, none, some (.str "Desk" 2890), some (.str "Desk" 2898), some (.bool true), "object.__new__", by kernel_rfl, by kernel_rfl, by kernel_rfl, by kernel_rfl⟩
theorem dk_e : DkE (Kf p) 1922 where
  self := by kernel_rfl
  ty := by
    intro n hn
    simp only [List.mem_cons, List.not_mem_nil, or_false] at hn
    rcases hn with rfl | rfl | rfl | rfl | rfl <;> exact ⟨by kernel_rfl, by kernel_rfl⟩
theorem sizes {w : World} {mg : Str → Option Value} {h : Heap} (X : (Kf w.params).In h) (G : h.Ns mainGlobals mg) : Sizes w (Kf w.params) mg where
  ex := ⟨1804, #[S11.en w.params (S11.S "put") 2829 (.int 3 2835), S11.en w.params (S11.S "row") 2831 (.int 3 2836), S11.en w.params (S11.S "out") 2833 (.int 2 2837)], 3, 2835, 2836, 2837, PySem.W.mg_of X G (by kernel_rfl), ⟨by kernel_rfl, ⟨⟨"put", 2829, by kernel_rfl, by kernel_rfl⟩, ⟨"row", 2831, by kernel_rfl, by kernel_rfl⟩, ⟨"out", 2833, by kernel_rfl, by kernel_rfl⟩, trivial⟩, by decide⟩, by kernel_rfl, by kernel_rfl, by kernel_rfl⟩
def iniB (K : Frag) (C fI : Addr) (qual : Str) (cdv : Value) : Bool :=
  isFn K (.ref fI) && (excOver K C mroX && (hasDictIn K C && (decide (findIn K (.ref C) "__setattr__" = some (some (.builtin "object.__setattr__"))) && (decide (ks_superIn K C C "__init__" = some (some (.builtin "Exception.__init__"))) &&
    (decide (mroIn K C (.ref C) = some true) && (decide (nsIn K cStatics "thirdparty.any" = some none) && codeIn K cdv qual))))))
theorem erC_mk {K : Frag} {mg : Str → Option Value} {w : World} {x f qual file : Str} {C fI cc cda : Addr} {st : Stmt} {pm ct : Value} {vs : Array Value} {tf : Tok} {p0 p1 p2 p3 p4 p5 p6 p7 p8 p9 : Pos} {ar : Arg}
    (gC : mg x = some (.ref C)) (hC : excInitIn K C mroX "Exception.__new__" = true) (a1 : findIn K (.ref C) "__init__" = some (some (.ref fI))) (kC : keepIn K (.ref C) = true) (rb : subIn K (.ref C) (.type "BaseException") = some true) (rt : typeIn K (.ref C) = some (.type "type"))
    (xf : xfB K C = true) (no : findIn K (.ref C) f = some none) (tak : takerIn K C f = some none) (sE : subIn K (.ref C) (.type "Exception") = some true)
    (lI : K.lookup fI = some ⟨.type "function", none, .func (ksFn "__init__" qual (C8.fnArgs st) (C8.fnBody st) (C8.fnScope st) .none .none .none pm none (.ref cda) ct cc), #[]⟩) (lc : K.lookup cc = some ⟨.type "cell", none, .cell (some (.ref C)), #[]⟩)
    (ld : K.lookup cda = some ⟨.type "code", none, .fields vs, #[]⟩) (hv : vs[2]? = some (.str file tf)) (hfile : ((P.main.file : Str) == file) = true) (top : (P.main.scope.names.lookup ("super" : Str)).isSome = false) (bi : iniB K C fI qual (.ref cda) = true)
    (S : (let sc := C8.fnScope st; decide (sc.kind = .function) && (sc.names.all (fun y => !decide (y.2 = .cell)) && (decide (sc.names.lookup ("self" : Str) = some .local) && (decide (sc.names.lookup ("super" : Str) = some .globalImplicit) && (decide (sc.names.lookup ("__class__" : Str) = some .free) && (!sc.isCoroutine && !sc.isGenerator)))))) = true)
    (hbody : C8.fnBody st = [.Expr (Xo.supE p0 p1 p2 p4 [.Name f p3]) p5, Xo.keepS f p6 p7 p8 p9]) (hp : ((C8.fnArgs st).posonlyargs ++ (C8.fnArgs st).args).head? = some ar) (har : ar.arg = "self") (hgl : (C8.fnScope st).names.lookup f = some .local) (hgd : (f == ("__debug__" : Str)) = false) (hgs : (f == ("self" : Str)) = false) (hpos : (p2.endLine == p4.line) = true)
    (b1 : ∀ (x : Addr) (u : Value) (kV doc pm : Value) (an : Option Addr) (cdv ct : Value) (cc : Addr), bindArgs (ksFn "__init__" qual (C8.fnArgs st) [.Expr (Xo.supE p0 p1 p2 p4 [.Name f p3]) p5, Xo.keepS f p6 p7 p8 p9] (C8.fnScope st) .none kV doc pm an cdv ct cc) ⟨[.ref x, u], []⟩ = pure [(("self" : Str), .ref x), (f, u)]) :
    ErC P w K mg x f C := by
  have b := bi
  unfold iniB at b
  simp only [Bool.and_eq_true, decide_eq_true_eq] at b
  obtain ⟨h1, h2, h3, h4, h5, h6, h7, h8⟩ := b
  have I : Xo.IniOf P K C fI qual (C8.fnArgs st) [.Expr (Xo.supE p0 p1 p2 p4 [.Name f p3]) p5, Xo.keepS f p6 p7 p8 p9] (C8.fnScope st) := by
    rw [hbody] at lI
    exact ⟨⟨_, _, _, _, _, _, cda, _, cc, _, lI, h8, ⟨_, _, _, lc⟩, _, _, vs, _, file, tf, ld, hv, hfile⟩, h1, a1, hC, h2, h3, h4, h5, sE, h6, h7, top⟩
  have Sc : Xo.ScpOf (C8.fnScope st) := by
    simp only [Bool.and_eq_true, decide_eq_true_eq, Bool.not_eq_true', List.all_eq_true, decide_eq_false_iff_not] at S
    obtain ⟨s1, s2, s3, s4, s5, s6, s7⟩ := S
    exact ⟨s1, s2, s3, s4, s5, s6, s7⟩
  exact ⟨hC, ⟨fI, a1, h1, fun u A h gs d t os t0 y R M hk hx k => Xo.ini1 Sc I M hp har hgl hgd hgs tak hpos (b1 y u) hx hk k⟩, kC, gC, rb, rt, xfB_ok xf, no⟩

theorem er_Barred {w : World} {mg : Str → Option Value} {h : Heap} (X : (Kf w.params).In h) (G : h.Ns mainGlobals mg) : ErC P w (Kf w.params) mg "Barred" "reason" 53 := by
  refine erC_mk (st := (inClass (top 3) 0)) (fI := 50) (cda := 49) (cc := 38) (qual := "Barred.__init__") (pm := (.str (S11.S "bindertongue.errors") 194)) (ct := (.ref 43)) (vs := #[(.str (S11.S "__init__") 228), (.str (S11.S "Barred.__init__") 229), (.str (S11.S "/claim/cut.py") 230), (.int 9 0), (.int 2 0), (.int 0 0), (.int 0 0), (.int 3 0), (.ref 44), (.bool true), (.int 181 0), (.ref 45), .none, (.ref 46), (.ref 47), (.ref 48), (.int 234 0), (.int 9 0), (.str (S11.S "/claim/cut.py") 235)]) (tf := 230) (file := "/claim/cut.py") (PySem.W.mg_of X G (by kernel_rfl)) (by kernel_rfl) (by kernel_rfl) (by kernel_rfl) (by kernel_rfl) (by kernel_rfl) (by kernel_rfl) (by kernel_rfl) (by kernel_rfl) (by kernel_rfl) (by kernel_rfl) (by kernel_rfl) (by kernel_rfl) (by kernel_rfl) (by kernel_rfl) (by kernel_rfl) (by kernel_rfl) (by kernel_rfl) rfl rfl ?_ ?_ ?_ ?_ ?_ ?_
  · rfl
  · kernel_rfl
  · decide
  · decide
  · rfl
  · exact fun _ _ _ _ _ _ _ _ _ => rfl
theorem er_InvalidText {w : World} {mg : Str → Option Value} {h : Heap} (X : (Kf w.params).In h) (G : h.Ns mainGlobals mg) : ErC P w (Kf w.params) mg "InvalidText" "given" 107 := by
  refine erC_mk (st := (inClass (top 6) 0)) (fI := 104) (cda := 103) (cc := 92) (qual := "InvalidText.__init__") (pm := (.str (S11.S "bindertongue.errors") 194)) (ct := (.ref 97)) (vs := #[(.str (S11.S "__init__") 298), (.str (S11.S "InvalidText.__init__") 299), (.str (S11.S "/claim/cut.py") 300), (.int 21 0), (.int 2 0), (.int 0 0), (.int 0 0), (.int 3 0), (.ref 98), (.bool true), (.int 181 0), (.ref 99), .none, (.ref 100), (.ref 101), (.ref 102), (.int 304 0), (.int 21 0), (.str (S11.S "/claim/cut.py") 305)]) (tf := 300) (file := "/claim/cut.py") (PySem.W.mg_of X G (by kernel_rfl)) (by kernel_rfl) (by kernel_rfl) (by kernel_rfl) (by kernel_rfl) (by kernel_rfl) (by kernel_rfl) (by kernel_rfl) (by kernel_rfl) (by kernel_rfl) (by kernel_rfl) (by kernel_rfl) (by kernel_rfl) (by kernel_rfl) (by kernel_rfl) (by kernel_rfl) (by kernel_rfl) (by kernel_rfl) rfl rfl ?_ ?_ ?_ ?_ ?_ ?_
  · rfl
  · kernel_rfl
  · decide
  · decide
  · rfl
  · exact fun _ _ _ _ _ _ _ _ _ => rfl
theorem x_same_B : exmOne (Kf p) (.ref 53) (.ref 53) = some true := by kernel_rfl
theorem x_same_T : exmOne (Kf p) (.ref 107) (.ref 107) = some true := by kernel_rfl
end
theorem all_mk {w : World} {mg : Str → Option Value} {fa : Addr} {h : Heap} (X : (Kf w.params).In h) (G : h.Ns mainGlobals mg) (hfa : mg "law" = some (.ref fa)) :
    ∃ fd : FuncData, (∀ (s : Shared) (v : Value), BindsTo s fd ⟨[v], []⟩ [("cells", v)]) ∧ ∀ base : Heap, (Kf w.params).In base → base.Ns mainGlobals mg → Xo.FnG P w (Kf w.params) mg base 7 fa fd ["cells"] (spLaw (Kf w.params)) := by
  have a := a_law w.params X G
  have e := hfa.symm.trans a.m
  cases e
  refine ⟨d_law, fun s v => .of_eq rfl, fun base _ _ => ?_⟩
  have g := g_all w.params X G
  have dk := dk_c w.params
  have gC : mg "Desk" = some (.ref 1922) := PySem.W.mg_of X G (by kernel_rfl)
  have eB := er_Barred X G
  have eT := er_InvalidText X G
  have gI : mg "InvalidDeed" = some (.ref 74) := PySem.W.mg_of X G (by kernel_rfl)
  have Z := sizes X G
  have o_str : FnOk P w (Kf w.params) mg base C8.CX0 1 _ _ _ _ := ok_isStr g (f_isStr w.params)
  have o_whole : FnOk P w (Kf w.params) mg base C8.CX0 1 _ _ _ _ := ok_isWhole g (f_isWhole w.params)
  have o_num := ok_isNum g (f_isNum w.params) o_whole (a_isWhole w.params X G) (b_isWhole w.params)
  have o_rows : FnOk P w (Kf w.params) mg base C8.CX0 1 _ _ _ _ := ok_rowsOf g (f_rowsOf w.params)
  have o_rt := ok_rowText g (f_rowText w.params) o_str (a_isStr w.params X G) (b_isStr w.params)
  have o_ri := ok_rowsIn g eT (f_rowsIn w.params) o_str (a_isStr w.params X G) (b_isStr w.params) o_rows (a_rowsOf w.params X G) (b_rowsOf w.params) o_rt (a_rowText w.params X G) (b_rowText w.params)
  have o_hd := ok_headed g Z (f_headed w.params) o_str (a_isStr w.params X G) (b_isStr w.params)
  have o_ck := ok_check g (f_check w.params) o_hd (a_headed w.params X G) (b_headed w.params) o_num (a_isNum w.params X G) (b_isNum w.params) o_rt (a_rowText w.params X G) (b_rowText w.params)
  have o_ba : FnOk P w (Kf w.params) mg base C8.CX0 1 _ _ _ _ := ok_barred g (f_barred w.params)
  have o_be : FnOk P w (Kf w.params) mg base C8.CX0 1 _ _ _ _ := ok_behind g (f_behind w.params)
  have o_in := ok_init dk (f_init w.params) o_ri (a_rowsIn w.params X G) (b_rowsIn w.params)
  have o_eq : FnOk P w (Kf w.params) mg base C8.CX0 1 _ _ _ _ := ok_eq g dk gC (f_eq w.params)
  have o_do := ok_do g dk eB (f_do w.params) o_ck (a_check w.params X G) (b_check w.params) o_ba (a_barred w.params X G) (b_barred w.params) o_be (a_behind w.params X G) (b_behind w.params)
  have o_un : FnOk P w (Kf w.params) mg base C8.CX0 1 _ _ _ _ := ok_undo dk (f_undo w.params)
  have o_call : FnOk P w (Kf w.params) mg base C8.CX0 1 _ _ _ _ := ok_call (f_call w.params) g.divmod g.int
  have ac := a_call w.params X G
  have o_one := ok_one (f_one w.params) o_call ac.m ac.k (b_call w.params) g.len
  have o_ct : FnOk P w (Kf w.params) mg base C8.CX0 1 _ _ _ _ := ok_court (f_court w.params) g.enum g.list g.int g.abs
  have o_lk : Xo.FnG P w (Kf w.params) mg base 1 _ _ _ _ := ok_like (f_like w.params) g.repr
  have o_lkH : Yo.FnGH P w (Kf w.params) mg base 1 _ _ _ _ := ok_likeH (f_like w.params) g.repr
  have o_sm := ok_small (f_small w.params) o_one (a_one w.params X G) (b_one w.params)
  have o_af : FnOk P w (Kf w.params) mg base C8.CX0 1 _ _ _ _ := ok_after g (f_after w.params)
  have o_du : FnOk P w (Kf w.params) mg base C8.CX0 1 _ _ _ _ := ok_due g (f_due w.params)
  have o_de := ok_deed g (f_deed w.params) o_call ac (b_call w.params) o_one (a_one w.params X G) (b_one w.params)
  have o_sa := ok_said dk eB (x_same_B w.params) gI (f_said w.params) o_do (m_do w.params) (b_do w.params)
  have o_as := ok_asks g (f_asks w.params) o_one (a_one w.params X G) (b_one w.params) o_sm (a_small w.params X G) (b_small w.params)
  have o_is := ok_isOne g dk (dk_eq w.params) (dk_e w.params) (dk_mk w.params) gC (f_isOne w.params) o_in (b_init w.params) o_un (m_undo w.params) (b_undo w.params) o_eq (b_eq w.params) o_lk (a_like w.params X G) (b_like w.params) o_as (a_asks w.params X G) (b_asks w.params) o_call ac (b_call w.params)
    o_de (a_deed w.params X G) (b_deed w.params) o_af (a_after w.params X G) (b_after w.params) o_sa (a_said w.params X G) (b_said w.params) o_du (a_due w.params X G) (b_due w.params)
  have o_ha := ok_hand g dk (dk_eq w.params) (dk_e w.params) (dk_mk w.params) gC eT (x_same_T w.params) (f_hand w.params) o_in (b_init w.params) o_eq (b_eq w.params) o_lkH (a_like w.params X G) (b_like w.params) o_sa (a_said w.params X G) (b_said w.params)
  exact ok_law (f_law w.params) o_ha (a_hand w.params X G) (b_hand w.params) o_is (a_isOne w.params X G) (b_isOne w.params) o_ct (a_court w.params X G) (b_court w.params)
end F11

/-! The law's row. -/
noncomputable section
namespace E11
open PySem PySem.W PySem.Calls PyProof.Rows HandSHeadRun HdM
def hook : Hook where
  α := List (Option Obj)
  obs s := F11.adds.map s.heap.get?
  val w := (F11.Kf w.params).map fun q => some q.2
  says w h := (F11.Kf w.params).In h
  of w s e := Frag.in_of (as := F11.adds) (by kernel_rfl) e
  keeps w h h' X k := X.keeps k
abbrev Xt : Shared → Bool := fun s => xlAt S11.qv [] s && recOk S11.R.toRowW.records s
theorem obs_at (w : World) (os : OsState) : hook.obs (S11.sh S11.T6 2010 3103 w os) = hook.val w := by kernel_rfl
theorem opn : opening S11.R.prog = plainProg S11.R.prog.main.scope.names := by kernel_rfl
theorem fnc : ∀ s, fenceModules? S11.R.prog s = some s := fun s => by kernel_rfl
theorem siz (w : World) : ((boot_heap w.params).isNs mainGlobals && (#[] : Array GenState).size == 0, (boot_heap w.params).objs.size, (boot_heap w.params).nsMap mainGlobals "__annotations__") = (true, 11, some (.ref 6)) := by kernel_rfl
theorem left : LeftO S11.R.prog S11.qv S11.names Xt hook.obs hook.val 14800 true :=
  LeftO.of_pieces (H₀ := boot_heap) (gs₀ := #[]) (d₀ := boot_drawn) (k₀ := boot_toks) (H₁ := fun p => absHeap (S11.T6 p) 2010 (S11.life p)) (gs₁ := #[]) (d₁ := boot_drawn) (k₁ := 3103) (m₀ := 11) (ann := some (.ref 6)) (M := 14177)
    (boot_open opn (by kernel_rfl) fnc) siz S11.all (by kernel_rfl) fun w => funext fun os => by
      have l1 : (staticsOk (importedModules S11.R.prog.main.body) (boot_heap w.params) (absHeap (S11.T6 w.params) 2010 (S11.life w.params)) && namesBound S11.R.prog (absHeap (S11.T6 w.params) 2010 (S11.life w.params)) && gensDone (S11.sh S11.T6 2010 3103 w os) && laidKept (boot_heap w.params) (absHeap (S11.T6 w.params) 2010 (S11.life w.params))) = true := S11.lk1 w os
      have l2 : openSeen S11.qv S11.names (importedModules S11.R.prog.main.body) Xt true (S11.sh S11.T6 2010 3103 w os) = openGood S11.qv S11.names := by
        rw [seenQ_eq]
        exact S11.lk2 w os
      exact Prod.ext l1 (Prod.ext l2 (obs_at w os))
def dLaw : DefRec := topDef S11.R.prog 215
theorem dname : dLaw.name = ("law" : PySem.Str) := by kernel_rfl
theorem ddfl : dLaw.params.defaults = [] := by kernel_rfl
theorem most : (OpenLaw.most PySem.Challenge.rw_bindertongue_k11_desks_unbound_and_twins) = some 63 := by kernel_rfl
theorem hdef : defOf S11.qv S11.R.name = some (dLaw, []) := by kernel_rfl
theorem hthe : S11.R.prog.theDef S11.R.name = some (dLaw.params, dLaw.body, dLaw.scope) := by kernel_rfl
theorem hkw : kwWritten? dLaw.params.kwonlyargs dLaw.params.kw_defaults = some [] := by kernel_rfl
theorem hok : (chainsOk S11.qv && opensWell S11.R.prog && (frees S11.R.toRowW && S11.R.within.isEmpty)) = true := by decide +kernel
theorem hbare : S11.R.prog.bare := ⟨by kernel_rfl, by kernel_rfl, by kernel_rfl, by kernel_rfl, by kernel_rfl, Tw11.ok⟩
theorem call : WalkO S11.qv S11.names (XL S11.qv []) hook.says S11.R.toRowW dLaw [] fun f vs => PySem.call f vs :=
  Xo.walkG (l := PySem.Challenge.rw_bindertongue_k11_desks_unbound_and_twins) (n := 63) (k := 7) (K := F11.Kf) (sp := K11.spLaw) (x := "cells") most (by decide) ddfl ⟨rfl, by decide, by decide⟩ (fun w h Y => Y)
    (fun w mg fa h X G hmg => F11.all_mk X G (by rw [dname] at hmg; exact hmg)) (fun w H a ns hl hO hS => ⟨a, ns, rfl, hS, hl, fun _ => rfl⟩)
end E11
end
open PySem PySem.W PyProof.Rows in
theorem PySem.Challenge.cw_bindertongue_k11_desks_unbound_and_twins_holds : PySem.Challenge.rw_bindertongue_k11_desks_unbound_and_twins.Holds := by
  w_on
  refine holds_law Look11.ok fun said => ?_
  refine holds_open (r := S11.R) (q := S11.qv) (loose := S11.names) (Xt := E11.Xt) (XP := XL S11.qv []) (Yf := E11.hook.obs) (Ya := E11.hook.val) (YP := E11.hook.says) (d := E11.dLaw) (kwd := []) (N := 14800) E11.left E11.hook.of E11.hook.keeps (fun s e => xl_of s (Bool.and_eq_true_iff.mp e).1) XL.keeps E11.hdef E11.hthe E11.hkw (fun s e => recFacts_of (Bool.and_eq_true_iff.mp e).2) (by rfl) said E11.hok E11.hbare ?hw E11.call
  case hw => w_witness2

