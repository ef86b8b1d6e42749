import PyProof.Rows.All
import PySem.Str
import Wide.All
import OpenK.AllK
import Wide.FinOn
import HandS.ForMost
import HandS.ExcCtx
import HandS.Deep
import HandS.ExcIs
import HandS.TupAny
import HandS.Text
import HandS.FStr
import HandS.TupLe
import HandS.Sort
import HandS.Wide
import HandS.WideMore
import HandS.WideBits
import HandS.Small
import HandS.Head0
import HandS.Head1
import HandS.Head2
import HandS.HeadEnd
import HandS.HeadHook1
import HandS.HeadHook2
import PySem.Challenge.RW_cloak_k56_registers
set_option Elab.async false
set_option linter.all false
set_option maxRecDepth 100000
set_option maxHeartbeats 4000000
/-! A small value semantics of the Python that the program uses: plain functions, no heap of the machine. -/
namespace Pz
open PySem (Str)

inductive D where
  | non | bl (b : Bool) | int (i : Int) | str (x : Str) | lst (xs : List D) | tup (xs : List D) | dic (kvs : List (Int × D)) | obj (k : Nat)
  deriving Inhabited

/-- a value as it comes out of an expression: one that stays, a new list that is its receiver's, a local's own list, a field's own list -/
inductive Val where
  | sh (d : D) | ow (d : D) | bw (i : Nat) (d : D) | fb (k f : Nat) (d : D)
def Val.any : Val → D
  | .sh d | .ow d | .bw _ d | .fb _ _ d => d
def Val.stab : Val → Option D
  | .sh d | .bw _ d => some d
  | .ow (.lst xs) => some (.lst xs)
  | _ => none
def Val.keep : Val → Option D
  | .sh d => some d
  | .ow (.lst xs) => some (.lst xs)
  | _ => none
def Val.asB : Val → Option Bool
  | .sh (.bl b) => some b
  | _ => none
def Val.asO : Val → Option Nat
  | .sh (.obj k) => some k
  | _ => none
/-- a slot, a field: a value that stays; a list (a dict) of one's own -/
inductive Slot where
  | sh (d : D) | ow (d : D)
abbrev Env := List (Option Slot)
structure Ob where
  cls : Nat
  fs : List Slot
structure Store where
  obs : List Ob
  lk : Bool
inductive R (α : Type) where
  | ok (a : α) (s : Store) | ex (c : Nat) (s : Store) | bad
def R.bind {α β : Type} : R α → (α → Store → R β) → R β
  | .ok a s, f => f a s
  | .ex c s, _ => .ex c s
  | .bad, _ => .bad
def R.optv {α β : Type} (o : Option α) (f : α → R β) : R β := match o with
  | some a => f a
  | none => .bad
@[simp] theorem R.bind_ok {α β : Type} (a : α) (s : Store) (f : α → Store → R β) : R.bind (.ok a s) f = f a s := (rfl)
@[simp] theorem R.bind_ex {α β : Type} (c : Nat) (s : Store) (f : α → Store → R β) : R.bind (.ex c s) f = .ex c s := (rfl)
@[simp] theorem R.bind_bad {α β : Type} (f : α → Store → R β) : R.bind .bad f = .bad := (rfl)
@[simp] theorem R.optv_some {α β : Type} (a : α) (f : α → R β) : R.optv (some a) f = f a := (rfl)
@[simp] theorem R.optv_none {α β : Type} (f : α → R β) : R.optv (none : Option α) f = .bad := (rfl)

abbrev EF := Env → Store → R Val
abbrev TF := Env → Store → R Bool
abbrev AF := Env → Store → R (List D)
abbrev Fn := List D → Store → R Val
inductive Out where
  | nx (e : Env) (s : Store) | rt (v : Val) (s : Store) | bk (e : Env) (s : Store) | ct (e : Env) (s : Store) | ex (c : Nat) (e : Env) (s : Store) | bad
abbrev SF := Env → Store → Out

/-- what an operation on values gives: a value that is there (or needs no place), a new list -/
inductive OR where
  | v (d : D) | nl (xs : List D) | bad
def OR.val : OR → Option Val
  | .v d => some (.sh d)
  | .nl xs => some (.ow (.lst xs))
  | .bad => none
def OR.run (o : OR) (s : Store) : R Val := R.optv o.val fun v => .ok v s

/-! ### expressions -/
def eV (i : Nat) : EF := fun e s => match e[i]? with
  | some (some (.sh d)) => .ok (.sh d) s
  | some (some (.ow d)) => .ok (.bw i d) s
  | _ => .bad
def eC (d : D) : EF := fun _ s => .ok (.sh d) s
def eOp1 (o : D → OR) (A : EF) : EF := fun e s => (A e s).bind fun a s1 => (o a.any).run s1
/-- back to the store s, which was locked -/
def R.still {α β : Type} (r : R α) (s : Store) (f : α → R β) : R β := match r with
  | .ok a _ => f a
  | .ex c _ => .ex c s
  | .bad => .bad
@[simp] theorem R.still_ok {α β : Type} (a : α) (s s' : Store) (f : α → R β) : R.still (.ok a s') s f = f a := (rfl)
def eOp2 (o : D → D → OR) (A B : EF) : EF := fun e s => (A e s).bind fun a s1 => match a with
  | .fb _ _ d => (B e { s1 with lk := true }).still s1 fun b => (o d b.any).run s1
  | a => R.optv a.stab fun x => (B e s1).bind fun b s2 => (o x b.any).run s2
/-- the second one leaves all as it is (a name, a constant) -/
def eOp2q (o : D → D → OR) (A : EF) (B : Env → Option D) : EF := fun e s => (A e s).bind fun a s1 => R.optv (B e) fun y => (o a.any y).run s1
def aNil : AF := fun _ s => .ok [] s
def aCons (A : EF) (B : AF) : AF := fun e s => (A e s).bind fun a s1 => R.optv a.keep fun x => (B e s1).bind fun xs s2 => .ok (x :: xs) s2
/-- arguments that are only looked at -/
def bNil : AF := fun _ s => .ok [] s
def bCons (A : EF) (B : AF) : AF := fun e s => (A e s).bind fun a s1 => R.optv a.stab fun x => (B e s1).bind fun xs s2 => .ok (x :: xs) s2
def bOne (A : EF) : AF := fun e s => (A e s).bind fun a s1 => .ok [a.any] s1
def eOpN (o : List D → OR) (A : AF) : EF := fun e s => (A e s).bind fun xs s1 => (o xs).run s1
def eTup (A : AF) : EF := fun e s => (A e s).bind fun xs s1 => if xs.length ≤ 1000 then .ok (.sh (.tup xs)) s1 else .bad
def eLst (A : AF) : EF := fun e s => (A e s).bind fun xs s1 => if xs.length ≤ 1000 then .ok (.ow (.lst xs)) s1 else .bad
def eIf (t : TF) (A B : EF) : EF := fun e s => (t e s).bind fun b s1 => if b = true then A e s1 else B e s1
def eAnd (A B : EF) : EF := fun e s => (A e s).bind fun a s1 => R.optv a.asB fun k => if k = true then B e s1 else .ok (.sh (.bl false)) s1
def eOr (A B : EF) : EF := fun e s => (A e s).bind fun a s1 => R.optv a.asB fun k => if k = true then .ok (.sh (.bl true)) s1 else B e s1
def eNot (A : EF) : EF := fun e s => (A e s).bind fun a s1 => R.optv a.asB fun k => .ok (.sh (.bl (!k))) s1
/-- a < b < c -/
def OR.asB : OR → Option Bool
  | .v (.bl b) => some b
  | _ => none
def eChain (o o' : D → D → OR) (A B C : EF) : EF := fun e s => (A e s).bind fun a s1 => R.optv a.stab fun x => (B e s1).bind fun b s2 => R.optv b.stab fun y => R.optv (o x y).asB fun k =>
  if k = true then (C e s2).bind fun c s3 => (o' y c.any).run s3 else .ok (.sh (.bl false)) s2
def Slot.val (k f : Nat) : Slot → Val
  | .sh d => .sh d
  | .ow d => .fb k f d
/-- the field f of an object of the class c -/
def getF (s : Store) (c k f : Nat) : Option Slot := (s.obs[k]?).bind fun ob => if ob.cls = c then ob.fs[f]? else none
def eF (c : Nat) (A : EF) (f : Nat) : EF := fun e s => (A e s).bind fun a s1 => R.optv a.asO fun k => R.optv (getF s1 c k f) fun x => .ok (x.val k f) s1
def Val.fin : Val → Option Val
  | .sh d => some (.sh d)
  | .ow d => some (.ow d)
  | _ => none
/-- a call of a def -/
def eCall (F : Fn) (A : AF) : EF := fun e s => (A e s).bind fun xs s1 => F xs s1

def isC (s : Store) (c k : Nat) : Option Unit := (s.obs[k]?).bind fun ob => if ob.cls = c then some () else none
/-- o.m(..), o of the class c -/
def eMeth (c : Nat) (F : Fn) (A : EF) (B : AF) : EF := fun e s => (A e s).bind fun a s1 => R.optv a.asO fun k => R.optv (isC s1 c k) fun _ => (B e s1).bind fun xs s2 => F (.obj k :: xs) s2

/-! ### tests -/
def tE (A : EF) : TF := fun e s => (A e s).bind fun a s1 => R.optv a.asB fun b => .ok b s1
def tAnd (A B : TF) : TF := fun e s => (A e s).bind fun b s1 => if b = true then B e s1 else .ok false s1
def tOr (A B : TF) : TF := fun e s => (A e s).bind fun b s1 => if b = true then .ok true s1 else B e s1
def tNot (A : TF) : TF := fun e s => (A e s).bind fun b s1 => .ok (!b) s1

/-! ### statements -/
def R.out {α : Type} (r : R α) (e : Env) (f : α → Store → Out) : Out := match r with
  | .ok a s => f a s
  | .ex c s => .ex c e s
  | .bad => .bad
@[simp] theorem R.out_ok {α : Type} (a : α) (s : Store) (e : Env) (f : α → Store → Out) : R.out (.ok a s) e f = f a s := (rfl)
@[simp] theorem R.out_ex {α : Type} (c : Nat) (s : Store) (e : Env) (f : α → Store → Out) : R.out (.ex c s) e f = .ex c e s := (rfl)
@[simp] theorem R.out_bad {α : Type} (e : Env) (f : α → Store → Out) : R.out (.bad : R α) e f = .bad := (rfl)
def Out.then (o : Out) (f : Env → Store → Out) : Out := match o with
  | .nx e s => f e s
  | o => o
@[simp] theorem Out.then_nx (e : Env) (s : Store) (f : Env → Store → Out) : (Out.nx e s).then f = f e s := (rfl)
@[simp] theorem Out.then_rt (v : Val) (s : Store) (f : Env → Store → Out) : (Out.rt v s).then f = .rt v s := (rfl)
@[simp] theorem Out.then_bk (e : Env) (s : Store) (f : Env → Store → Out) : (Out.bk e s).then f = .bk e s := (rfl)
@[simp] theorem Out.then_ct (e : Env) (s : Store) (f : Env → Store → Out) : (Out.ct e s).then f = .ct e s := (rfl)
@[simp] theorem Out.then_ex (c : Nat) (e : Env) (s : Store) (f : Env → Store → Out) : (Out.ex c e s).then f = .ex c e s := (rfl)
@[simp] theorem Out.then_bad (f : Env → Store → Out) : Out.bad.then f = .bad := (rfl)
def Out.ofOpt {α : Type} (o : Option α) (f : α → Out) : Out := match o with
  | some a => f a
  | none => .bad
@[simp] theorem Out.ofOpt_some {α : Type} (a : α) (f : α → Out) : Out.ofOpt (some a) f = f a := (rfl)
@[simp] theorem Out.ofOpt_none {α : Type} (f : α → Out) : Out.ofOpt (none : Option α) f = .bad := (rfl)
def sPass : SF := fun e s => .nx e s
def sSeq (A B : SF) : SF := fun e s => (A e s).then B
/-- x = e; a new list is the slot's own -/
def Val.slot : Val → Option Slot
  | .sh d => some (.sh d)
  | .ow d => some (.ow d)
  | _ => none
def Val.frz : Val → Option Slot
  | .sh d => some (.sh d)
  | .ow d => some (.sh d)
  | _ => none
def sAsg (i : Nat) (A : EF) : SF := fun e s => (A e s).out e fun a s1 => Out.ofOpt a.slot fun x => .nx (e.set i (some x)) s1
def sAsgF (i : Nat) (A : EF) : SF := fun e s => (A e s).out e fun a s1 => Out.ofOpt a.keep fun d => .nx (e.set i (some (.sh d))) s1
/-- a slot's own list is never changed from here on -/
def sFrz (i : Nat) : SF := fun e s => match e[i]? with
  | some (some (.ow (.lst xs))) => .nx (e.set i (some (.sh (.lst xs)))) s
  | some (some (.sh d)) => .nx e s
  | _ => .bad
def sIf (t : TF) (A B : SF) : SF := fun e s => (t e s).out e fun b s1 => if b = true then A e s1 else B e s1
def sExpr (A : EF) : SF := fun e s => (A e s).out e fun _ s1 => .nx e s1
def sRet (A : EF) : SF := fun e s => (A e s).out e fun a s1 => Out.ofOpt a.fin fun v => .rt v s1
def sRetV (i : Nat) : SF := fun e s => match e[i]? with
  | some (some (.sh d)) => .rt (.sh d) s
  | some (some (.ow d)) => .rt (.ow d) s
  | _ => .bad
def sRetN : SF := fun _ s => .rt (.sh .non) s
def sRaise (c : Nat) : SF := fun e s => .ex c e s
def sBrk : SF := fun e s => .bk e s
def sCnt : SF := fun e s => .ct e s
def sAug (i : Nat) (o : D → D → OR) (A : EF) : SF := fun e s => match e[i]? with
  | some (some (.sh x)) => (A e s).out e fun a s1 => match o x a.any with
    | .v d => .nx (e.set i (some (.sh d))) s1
    | _ => .bad
  | _ => .bad

/-- a changed own list (dict): its slot's, its field's -/
def put (v : Val) (d : D) (e : Env) (s : Store) : Out := match v with
  | .bw i _ => .nx (e.set i (some (.ow d))) s
  | .fb k f _ => if s.lk = true then .bad else match s.obs[k]? with
    | some ob => .nx e { s with obs := s.obs.set k { ob with fs := ob.fs.set f (.ow d) } }
    | none => .bad
  | _ => .bad
/-- xs.append(x), .. as a statement; what belongs to a field stands still while the arguments are evaluated -/
def sMut (m : List D → List D → Option (List D)) (A : EF) (B : AF) : SF := fun e s => (A e s).out e fun a s1 => match a with
  | .bw i (.lst xs) => (B e s1).out e fun ys s2 => Out.ofOpt (m xs ys) fun d => put (.bw i (.lst xs)) (.lst d) e s2
  | .fb k f (.lst xs) => if s1.lk = true then .bad else match B e { s1 with lk := true } with
    | .ok ys _ => Out.ofOpt (m xs ys) fun d => put (.fb k f (.lst xs)) (.lst d) e s1
    | .ex c _ => .ex c e s1
    | .bad => .bad
  | _ => .bad
/-- xs[i] = x -/
def sSet (m : D → D → D → Option D) (A I B : EF) : SF := fun e s => (B e s).out e fun b s0 => Out.ofOpt b.keep fun y => (A e s0).out e fun a s1 => match a with
  | .bw i x => (I e s1).out e fun j s2 => Out.ofOpt (m x j.any y) fun d => put (.bw i x) d e s2
  | .fb k f x => if s1.lk = true then .bad else match I e { s1 with lk := true } with
    | .ok j _ => Out.ofOpt (m x j.any y) fun d => put (.fb k f x) d e s1
    | .ex c _ => .ex c e s1
    | .bad => .bad
  | _ => .bad
def mApp (xs ys : List D) : Option (List D) := match ys with
  | [y] => if xs.length < 100000 then some (xs ++ [y]) else none
  | _ => none
/-- the place that an index means -/
def ixP (n : Nat) (i : Int) : Option Nat := if 0 ≤ i then (if i < n then some i.toNat else none) else if -(n : Int) ≤ i then some (i + n).toNat else none
def mSetL (x i y : D) : Option D := match x, i with
  | .lst xs, .int i => (ixP xs.length i).map fun j => .lst (xs.set j y)
  | _, _ => none
/-- o.f = e -/
def setF (fs : List Slot) (f : Nat) (x : Slot) : Option (List Slot) := if f < fs.length then some (fs.set f x) else if f = fs.length then some (fs ++ [x]) else none
def putO (s : Store) (c k f : Nat) (x : Slot) : Option Store := if s.lk = true then none else (s.obs[k]?).bind fun ob => if ob.cls = c then (setF ob.fs f x).map fun fs => { s with obs := s.obs.set k { ob with fs := fs } } else none
def sFld (c : Nat) (A : EF) (f : Nat) (B : EF) : SF := fun e s => (B e s).out e fun b s1 => Out.ofOpt b.slot fun x => (A e s1).out e fun a s2 => Out.ofOpt a.asO fun k => Out.ofOpt (putO s2 c k f x) fun s3 => .nx e s3
/-- o.f op= e -/
def sFldAug (c : Nat) (A : EF) (f : Nat) (o : D → D → OR) (B : EF) : SF := fun e s => (A e s).out e fun a s1 => Out.ofOpt a.asO fun k => if s1.lk = true then .bad else match getF s1 c k f with
  | some (.sh x) => match B e { s1 with lk := true } with
    | .ok b _ => match o x b.any with
      | .v d => Out.ofOpt (putO s1 c k f (.sh d)) fun s3 => .nx e s3
      | _ => .bad
    | .ex n _ => .ex n e s1
    | .bad => .bad
  | _ => .bad

/-! ### loops -/
def forL (g : D → Env → Option Env) (B : SF) : List D → Env → Store → Out
  | [], e, s => .nx e s
  | x :: xs, e, s => Out.ofOpt (g x e) fun e1 => match B e1 s with
    | .nx e2 s2 => forL g B xs e2 s2
    | .ct e2 s2 => forL g B xs e2 s2
    | .bk e2 s2 => .nx e2 s2
    | o => o
def whileN (t : TF) (B : SF) : Nat → Env → Store → Out
  | 0, _, _ => .bad
  | n + 1, e, s => (t e s).out e fun b s1 => if b = true then (match B e s1 with
    | .nx e2 s2 => whileN t B n e2 s2
    | .ct e2 s2 => whileN t B n e2 s2
    | .bk e2 s2 => .nx e2 s2
    | o => o) else .nx e s1
def sWhile (n : Nat) (t : TF) (B : SF) : SF := fun e s => whileN t B n e s
/-- what a for walks: a value's items -/
abbrev IF := Env → Store → R (List D × Bool)
abbrev GF := D → Env → Option Env
def gN (i : Nat) : GF := fun d e => some (e.set i (some (.sh d)))
abbrev GsF := List D → Env → Option Env
def gsNil : GsF := fun ds e => match ds with
  | [] => some e
  | _ => none
def gsCons (g : GF) (r : GsF) : GsF := fun ds e => match ds with
  | d :: ds => (g d e).bind fun e1 => r ds e1
  | [] => none
/-- a row of names -/
def gsN : List Nat → GsF
  | [] => gsNil
  | i :: is => gsCons (gN i) (gsN is)
def gT (n : Nat) (r : GsF) : GF := fun d e => match d with
  | .tup ds => if ds.length = n then r ds e else none
  | _ => none
/-- the items; true: of a field's own list, the store is then locked while it is walked -/
def itSeq (A : EF) : IF := fun e s => (A e s).bind fun a s1 => match a with
  | .sh (.lst xs) | .ow (.lst xs) | .sh (.tup xs) => .ok (xs, false) s1
  | .fb _ _ (.lst xs) => .ok (xs, true) s1
  | _ => .bad
def upto (n : Nat) (lo : Int) : List D := match n with
  | 0 => []
  | n + 1 => .int lo :: upto n (lo + 1)
def itR1 (A : EF) : IF := fun e s => (A e s).bind fun a s1 => match a with
  | .sh (.int n) => if -(2 ^ 62) ≤ n ∧ n < 2 ^ 62 then .ok (upto n.toNat 0, false) s1 else .bad
  | _ => .bad
def itR2 (A B : EF) : IF := fun e s => (A e s).bind fun a s1 => (B e s1).bind fun b s2 => match a, b with
  | .sh (.int m), .sh (.int n) => if -(2 ^ 62) ≤ m ∧ m < 2 ^ 62 ∧ -(2 ^ 62) ≤ n ∧ n < 2 ^ 62 then .ok (upto (n - m).toNat m, false) s2 else .bad
  | _, _ => .bad
def chars (x : Str) : List D := x.cps.toList.map fun c => .str ⟨#[c]⟩
def itStr (A : EF) : IF := fun e s => (A e s).bind fun a s1 => match a with
  | .sh (.str x) => .ok (chars x, false) s1
  | _ => .bad
def enumD (n : Nat) : List D → List D
  | [] => []
  | x :: xs => .tup [.int n, x] :: enumD (n + 1) xs
def itEnum (A : EF) : IF := fun e s => (A e s).bind fun a s1 => match a with
  | .sh (.lst xs) | .ow (.lst xs) => .ok (enumD 0 xs, false) s1
  | .fb _ _ (.lst xs) => .ok (enumD 0 xs, true) s1
  | _ => .bad
def Out.unlock (l : Bool) : Out → Out
  | .nx e s => .nx e { s with lk := l }
  | .rt v s => .rt v { s with lk := l }
  | .bk e s => .bk e { s with lk := l }
  | .ct e s => .ct e { s with lk := l }
  | .ex c e s => .ex c e { s with lk := l }
  | .bad => .bad
def sFor (g : GF) (I : IF) (B : SF) : SF := fun e s => (I e s).out e fun p s1 =>
  if p.2 = true then (forL g B p.1 e { s1 with lk := true }).unlock s1.lk else forL g B p.1 e s1

/-- a comprehension's own names are unset within -/
def wipe (e : Env) : List Nat → Env
  | [] => e
  | i :: is => (wipe e is).set i none
def lcL (g : GF) (t : TF) (A : EF) (e : Env) : List D → List D → Store → R (List D)
  | [], acc, s => .ok acc s
  | x :: xs, acc, s => R.optv (g x e) fun e1 => (t e1 s).bind fun b s1 => if b = true then (A e1 s1).bind fun a s2 => R.optv a.keep fun y => if acc.length < 100000 then lcL g t A e xs (acc ++ [y]) s2 else .bad else lcL g t A e xs acc s1
/-- no error leaves a comprehension here -/
def R.calm {α : Type} : R α → R α
  | .ex _ _ => .bad
  | r => r
def R.unlock {α : Type} (l : Bool) : R α → R α
  | .ok a s => .ok a { s with lk := l }
  | .ex c s => .ex c { s with lk := l }
  | .bad => .bad
def eLc (g : GF) (I : IF) (t : TF) (A : EF) (own : List Nat) : EF := fun e s => (I e s).bind fun p s1 =>
  (if p.2 = true then ((lcL g t A (wipe e own) p.1 [] { s1 with lk := true }).calm).unlock s1.lk else (lcL g t A (wipe e own) p.1 [] s1).calm).bind fun ys s2 => .ok (.ow (.lst ys)) s2
def tYes : TF := fun _ s => .ok true s

/-! ### try -/
/-- the error class c is d, or d is the base of all -/
def sub (c d : Nat) : Bool := c == d || d == 0
def envOf (o : Option Nat) (e : Env) : Env := match o with
  | none => e
  | some i => e.set i none
/-- a suite raises nothing; the name of its clause goes -/
def Out.suite (o : Option Nat) : Out → Out
  | .nx e s => .nx (envOf o e) s
  | .bk e s => .bk (envOf o e) s
  | .ct e s => .ct (envOf o e) s
  | .rt v s => .rt v s
  | _ => .bad
def tryC : List (Nat × Option Nat × (Nat → SF)) → Nat → Env → Store → Out
  | [], c, e, s => .ex c e s
  | (d, o, S) :: r, c, e, s => if sub c d = true then (S c (envOf o e) s).suite o else tryC r c e s
def sTry (B : SF) (cl : List (Nat × Option Nat × (Nat → SF))) : SF := fun e s => match B e s with
  | .ex c e1 s1 => tryC cl c e1 s1
  | o => o

/-! ### defs -/
def fnOf (n locals : Nat) (B : SF) : Fn := fun ds s => if ds.length = n then
    match B (ds.map (fun d => some (.sh d)) ++ List.replicate (locals - n) none) s with
    | .nx _ s1 => .ok (.sh .non) s1
    | .rt v s1 => .ok v s1
    | .ex c _ s1 => .ex c s1
    | _ => .bad
  else .bad
/-- C(..): a new object, then __init__ -/
def eMake (c : Nat) (F : Fn) (A : AF) : EF := fun e s => (A e s).bind fun xs s1 => if s1.lk = true then .bad else
  (F (.obj s1.obs.length :: xs) { s1 with obs := s1.obs ++ [⟨c, []⟩] }).bind fun v s2 => match v with
    | .sh .non => .ok (.sh (.obj s1.obs.length)) s2
    | _ => .bad
end Pz

/-! The value semantics over the abstract heap: what stands for what. -/
namespace Pz
open PySem L2

/-! ### values -/
/-- a list that is one of the module's own -/
def KLst (K : PySem.W.Frag) (a : Addr) (vs : List V) : Prop := ∃ (o : Obj) (its : Array Value) (n : Nat), K.lookup a = some o ∧ o.cls = .type "list" ∧ o.dict = none ∧ o.data = .seq its n ∧ its.size ≤ sizeLine ∧ Vals vs its.toList
/-- a list that stays as it is: what A tells is another's -/
def LsA (K : PySem.W.Frag) (A : Addr → Prop) (H : Hp) (a : Addr) (vs : List V) : Prop := (Rd H a (.lst vs) ∧ ¬ A a) ∨ KLst K a vs
theorem LsA.sq {K : PySem.W.Frag} {A : Addr → Prop} {H : Hp} {a : Addr} {vs : List V} (h : LsA K A H a vs) : SqL K H a vs := h.imp (fun q => q.1) id
mutual
inductive Rep (K : PySem.W.Frag) (rho : List Addr) (A : Addr → Prop) (H : Hp) : V → D → Prop
  | non : Rep K rho A H .non .non
  | bl (b : Bool) : Rep K rho A H (.bl b) (.bl b)
  | int (i : Int) : Rep K rho A H (.int i) (.int i)
  | str (x : Str) : Rep K rho A H (.str x) (.str x)
  | lst {a : Addr} {vs : List V} {ds : List D} : LsA K A H a vs → Reps K rho A H vs ds → Rep K rho A H (.ref a) (.lst ds)
  | tup {a : Addr} {vs : List V} {ds : List D} : SqT K H a vs → Reps K rho A H vs ds → Rep K rho A H (.ref a) (.tup ds)
  | obj {a : Addr} {k : Nat} : rho[k]? = some a → Rep K rho A H (.ref a) (.obj k)
inductive Reps (K : PySem.W.Frag) (rho : List Addr) (A : Addr → Prop) (H : Hp) : List V → List D → Prop
  | nil : Reps K rho A H [] []
  | cons {v : V} {vs : List V} {d : D} {ds : List D} : Rep K rho A H v d → Reps K rho A H vs ds → Reps K rho A H (v :: vs) (d :: ds)
end

/-- what a step leaves: all but the volatile -/
structure Step (vol : Addr → Prop) (H H' : Hp) : Prop where
  keep : ∀ a o, H a = some o → ¬ vol a → H' a = some o
  tups : ∀ a vs, H a = some (.tup vs) → H' a = some (.tup vs)
  frzs : ∀ a o u, H a = some (.frz o u) → H' a = some (.frz o u)
  trk : ∀ a, H a ≠ none → H' a ≠ none
theorem Step.refl (vol : Addr → Prop) (H : Hp) : Step vol H H := ⟨fun _ _ h _ => h, fun _ _ h => h, fun _ _ _ h => h, fun _ h => h⟩
theorem Step.trans {vol vol' : Addr → Prop} {H H1 H2 : Hp} (a : Step vol H H1) (b : Step vol' H1 H2) (h : ∀ x, H x ≠ none → vol' x → vol x) : Step vol H H2 :=
  ⟨fun x o e n => b.keep x o (a.keep x o e n) fun q => n (h x (by rw [e]; simp) q), fun x vs e => b.tups x vs (a.tups x vs e), fun x o u e => b.frzs x o u (a.frzs x o u e), fun x e => b.trk x (a.trk x e)⟩
theorem Step.mono {vol vol' : Addr → Prop} {H H1 : Hp} (a : Step vol H H1) (h : ∀ x, H x ≠ none → vol x → vol' x) : Step vol' H H1 :=
  ⟨fun x o e n => a.keep x o e fun q => n (h x (by rw [e]; simp) q), a.tups, a.frzs, a.trk⟩
/-- the heap has only grown -/
def Grw (H H' : Hp) : Prop := ∀ a o, H a = some o → H' a = some o
theorem Grw.refl (H : Hp) : Grw H H := fun _ _ h => h
theorem Grw.trans {H H1 H2 : Hp} (a : Grw H H1) (b : Grw H1 H2) : Grw H H2 := fun x o h => b x o (a x o h)
theorem Grw.upd {H : Hp} {p : Addr} {o : HO} (h : H p = none) : Grw H (upd H p o) := fun a u e => by
  rw [upd_ne (ne_of_none e h)]; exact e
theorem Grw.step {H H' : Hp} (g : Grw H H') (vol : Addr → Prop) : Step vol H H' :=
  ⟨fun a o h _ => g a o h, fun a vs h => g a _ h, fun a o u h => g a _ h, fun a h => by
    cases e : H a with
    | none => exact absurd e h
    | some o => rw [g a o e]; simp⟩

theorem Rd.step {vol : Addr → Prop} {H H' : Hp} {a : Addr} {u : HO} (h : Rd H a u) (s : Step vol H H') (n : ¬ vol a) : Rd H' a u := by
  rcases h with h | ⟨o, h⟩
  · exact .inl (s.keep _ _ h n)
  · exact .inr ⟨o, s.frzs _ _ _ h⟩
theorem Rd.trk {H : Hp} {a : Addr} {u : HO} (h : Rd H a u) : H a ≠ none := by
  rcases h with h | ⟨o, h⟩ <;> rw [h] <;> simp
theorem SqT.step {K : PySem.W.Frag} {vol : Addr → Prop} {H H' : Hp} {a : Addr} {vs : List V} (h : SqT K H a vs) (s : Step vol H H') : SqT K H' a vs := by
  rcases h with (h | ⟨o, h⟩) | h
  · exact .inl (.inl (s.tups _ _ h))
  · exact .inl (.inr ⟨o, s.frzs _ _ _ h⟩)
  · exact .inr h
/-- one list of addresses goes on from another one -/
def Pre (r r' : List Addr) : Prop := ∀ (k : Nat) (a : Addr), r[k]? = some a → r'[k]? = some a
theorem Pre.refl (r : List Addr) : Pre r r := fun _ _ h => h
theorem Pre.trans {a b c : List Addr} (x : Pre a b) (y : Pre b c) : Pre a c := fun k p h => y k p (x k p h)

section
variable {K : PySem.W.Frag} {r r' : List Addr} {A A' vol : Addr → Prop} {H H' : Hp}
mutual
theorem Rep.step (s : Step vol H H') (p : Pre r r') (hv : ∀ a, vol a → A a) (hA : ∀ a, H a ≠ none → ¬ A a → ¬ A' a) : ∀ {v : V} {d : D}, Rep K r A H v d → Rep K r' A' H' v d
  | _, _, .non => .non
  | _, _, .bl b => .bl b
  | _, _, .int i => .int i
  | _, _, .str x => .str x
  | _, _, .lst h hs => .lst (h.imp (fun q => ⟨Rd.step q.1 s fun z => q.2 (hv _ z), hA _ (Rd.trk q.1) q.2⟩) id) (Reps.step s p hv hA hs)
  | _, _, .tup h hs => .tup (SqT.step h s) (Reps.step s p hv hA hs)
  | _, _, .obj h => .obj (p _ _ h)
theorem Reps.step (s : Step vol H H') (p : Pre r r') (hv : ∀ a, vol a → A a) (hA : ∀ a, H a ≠ none → ¬ A a → ¬ A' a) : ∀ {vs : List V} {ds : List D}, Reps K r A H vs ds → Reps K r' A' H' vs ds
  | _, _, .nil => .nil
  | _, _, .cons h hs => .cons (Rep.step s p hv hA h) (Reps.step s p hv hA hs)
end
theorem Rep.weak (h : ∀ a, A' a → A a) {v : V} {d : D} (x : Rep K r A H v d) : Rep K r A' H v d := x.step (Step.refl (fun _ => False) H) (Pre.refl r) (fun _ q => q.elim) fun a _ n q => n (h a q)
theorem Reps.weak (h : ∀ a, A' a → A a) {v : List V} {d : List D} (x : Reps K r A H v d) : Reps K r A' H v d := x.step (Step.refl (fun _ => False) H) (Pre.refl r) (fun _ q => q.elim) fun a _ n q => n (h a q)
theorem Reps.length : ∀ {vs : List V} {ds : List D}, Reps K r A H vs ds → vs.length = ds.length
  | _, _, .nil => rfl
  | _, _, .cons _ t => by rw [List.length_cons, List.length_cons, t.length]
theorem Reps.get : ∀ {vs : List V} {ds : List D} {i : Nat} {d : D}, Reps K r A H vs ds → ds[i]? = some d → ∃ v, vs[i]? = some v ∧ Rep K r A H v d
  | _, _, _, _, .nil, e => by simp at e
  | _, _, 0, _, .cons h _, e => by simp at e; subst e; exact ⟨_, rfl, h⟩
  | _, _, i + 1, _, .cons _ t, e => by
    obtain ⟨v, e1, h1⟩ := Reps.get (i := i) t (by simpa using e)
    exact ⟨v, by simpa using e1, h1⟩
theorem Reps.getV : ∀ {vs : List V} {ds : List D} {i : Nat} {v : V}, Reps K r A H vs ds → vs[i]? = some v → ∃ d, ds[i]? = some d ∧ Rep K r A H v d
  | _, _, _, _, .nil, e => by simp at e
  | _, _, 0, _, .cons h _, e => by simp at e; subst e; exact ⟨_, rfl, h⟩
  | _, _, i + 1, _, .cons _ t, e => by
    obtain ⟨v, e1, h1⟩ := Reps.getV (i := i) t (by simpa using e)
    exact ⟨v, by simpa using e1, h1⟩
theorem Reps.append : ∀ {vs ws : List V} {ds es : List D}, Reps K r A H vs ds → Reps K r A H ws es → Reps K r A H (vs ++ ws) (ds ++ es)
  | _, _, _, _, .nil, t => t
  | _, _, _, _, .cons h s, t => .cons h (Reps.append s t)
theorem Reps.set : ∀ {vs : List V} {ds : List D} {v : V} {d : D} (i : Nat), Reps K r A H vs ds → Rep K r A H v d → Reps K r A H (vs.set i v) (ds.set i d)
  | _, _, _, _, _, .nil, _ => .nil
  | _, _, _, _, 0, .cons _ t, h => .cons h t
  | _, _, _, _, i + 1, .cons x t, h => .cons x (Reps.set i t h)
theorem Reps.take : ∀ {vs : List V} {ds : List D} (n : Nat), Reps K r A H vs ds → Reps K r A H (vs.take n) (ds.take n)
  | _, _, 0, _ => .nil
  | _, _, _ + 1, .nil => .nil
  | _, _, n + 1, .cons h t => .cons h (Reps.take n t)
theorem Reps.drop : ∀ {vs : List V} {ds : List D} (n : Nat), Reps K r A H vs ds → Reps K r A H (vs.drop n) (ds.drop n)
  | _, _, 0, t => t
  | _, _, _ + 1, .nil => .nil
  | _, _, n + 1, .cons _ t => Reps.drop n t
theorem Reps.one {v : V} {d : D} (h : Rep K r A H v d) : Reps K r A H [v] [d] := .cons h .nil
end

/-! ### own lists and dicts, slots, objects -/
def kvOk (K : PySem.W.Frag) (r : List Addr) (A : Addr → Prop) (H : Hp) (p : Key × V) (q : Int × D) : Prop := p.1 = Sum.inl q.1 ∧ Rep K r A H p.2 q.2
inductive Own (K : PySem.W.Frag) (r : List Addr) (A : Addr → Prop) (H : Hp) (a : Addr) : D → Prop
  | lst {vs : List V} {ds : List D} : H a = some (.lst vs) → Reps K r A H vs ds → Own K r A H a (.lst ds)
  | dic {ks : List (Key × V)} {kvs : List (Int × D)} : H a = some (.dK ks) → Paired (kvOk K r A H) ks kvs → Own K r A H a (.dic kvs)
inductive FRep (K : PySem.W.Frag) (r : List Addr) (A : Addr → Prop) (H : Hp) : V → Slot → Prop
  | sh {v : V} {d : D} : Rep K r A H v d → FRep K r A H v (.sh d)
  | ow {a : Addr} {d : D} : Own K r A H a d → FRep K r A H (.ref a) (.ow d)
inductive SRep (K : PySem.W.Frag) (r : List Addr) (A : Addr → Prop) (H : Hp) : Option V → Option Slot → Prop
  | no {x : Option V} : SRep K r A H x none
  | is {v : V} {s : Slot} : FRep K r A H v s → SRep K r A H (some v) (some s)

section
variable {K : PySem.W.Frag} {r r' : List Addr} {A A' vol : Addr → Prop} {H H' : Hp}
theorem Paired.mono {α β : Type} {F G : α → β → Prop} : ∀ {l₁ : List α} {l₂ : List β}, Paired F l₁ l₂ → (∀ a b, a ∈ l₁ → b ∈ l₂ → F a b → G a b) → Paired G l₁ l₂
  | _, _, .nil, _ => .nil
  | _, _, .cons h t, f => .cons (f _ _ List.mem_cons_self List.mem_cons_self h) (Paired.mono t fun a b ha hb => f a b (List.mem_cons_of_mem _ ha) (List.mem_cons_of_mem _ hb))
theorem Own.step (s : Step vol H H') (p : Pre r r') (hv : ∀ a, vol a → A a) (hA : ∀ a, H a ≠ none → ¬ A a → ¬ A' a) {a : Addr} (n : ¬ vol a) {d : D} : Own K r A H a d → Own K r' A' H' a d
  | .lst h hs => .lst (s.keep _ _ h n) (hs.step s p hv hA)
  | .dic h hs => .dic (s.keep _ _ h n) (Paired.mono hs fun _ _ _ _ q => ⟨q.1, q.2.step s p hv hA⟩)
theorem Own.trk {a : Addr} {d : D} : Own K r A H a d → H a ≠ none
  | .lst h _ => by rw [h]; simp
  | .dic h _ => by rw [h]; simp
theorem Own.weak (h : ∀ a, A' a → A a) {a : Addr} {d : D} (x : Own K r A H a d) : Own K r A' H a d := x.step (Step.refl (fun _ => False) H) (Pre.refl r) (fun _ q => q.elim) (fun a _ n q => n (h a q)) (fun q => q)
end

/-- the own addresses among the slots -/
def ownsE : List (Option V) → Env → List Addr
  | some (.ref a) :: vs, some (.ow _) :: es => a :: ownsE vs es
  | _ :: vs, _ :: es => ownsE vs es
  | _, _ => []
def ownsF : List V → List Slot → List Addr
  | .ref a :: vs, .ow _ :: fs => a :: ownsF vs fs
  | _ :: vs, _ :: fs => ownsF vs fs
  | _, _ => []
abbrev Lay := List (Addr × Addr × List V)
def fpO : Lay → List Ob → List Addr
  | (p, _, vs) :: l, ob :: obs => p :: (ownsF vs ob.fs ++ fpO l obs)
  | _, _ => []
def rho (l : Lay) : List Addr := l.map (·.1)

/-- the classes: their addresses, the names of their fields in the order of __init__; the classes of errors -/
structure CT where
  ad : Nat → Addr
  names : Nat → List Str
  err : Nat → Value

/-- the object's own record -/
def HdOk (T : CT) (H : Hp) (x : Addr × Addr × List V) : Nat → Prop
  | 0 => H x.1 = some (.lst x.2.2)
  | c + 1 => H x.1 = some (.ins (T.ad (c + 1)) x.2.1 ((T.names (c + 1)).zip x.2.2)) ∧ x.2.2.length ≤ (T.names (c + 1)).length
theorem HdOk.step {T : CT} {H H' : Hp} {x : Addr × Addr × List V} {c : Nat} (h : HdOk T H x c) (k : ∀ o, H x.1 = some o → H' x.1 = some o) : HdOk T H' x c := by
  cases c with
  | zero => exact k _ h
  | succ c => exact ⟨k _ h.1, h.2⟩
theorem HdOk.trk {T : CT} {H : Hp} {x : Addr × Addr × List V} {c : Nat} (h : HdOk T H x c) : H x.1 ≠ none := by
  cases c with
  | zero => rw [show H x.1 = _ from h]; simp
  | succ c => rw [h.1]; simp
def ObOk (K : PySem.W.Frag) (T : CT) (r : List Addr) (A : Addr → Prop) (H : Hp) (x : Addr × Addr × List V) (ob : Ob) : Prop := Paired (FRep K r A H) x.2.2 ob.fs ∧ HdOk T H x ob.cls

def AV (Z : Addr → Prop) (s : List (Option V)) (e : Env) (l : Lay) (obs : List Ob) : Addr → Prop := fun a => Z a ∨ a ∈ ownsE s e ∨ a ∈ fpO l obs
structure Wok (K : PySem.W.Frag) (T : CT) (Z : Addr → Prop) (l : Lay) (s : List (Option V)) (e : Env) (H : Hp) (st : Store) : Prop where
  slots : Paired (SRep K (rho l) (AV Z s e l st.obs) H) s e
  stor : Paired (ObOk K T (rho l) (AV Z s e l st.obs) H) l st.obs
  nd : (ownsE s e ++ fpO l st.obs).Nodup
  zt : ∀ a, Z a → H a ≠ none
  zd : ∀ a, a ∈ ownsE s e ++ fpO l st.obs → ¬ Z a
end Pz

/-! The state: slots, objects, and steps between states. -/
namespace Pz
open PySem L2

section
variable {K : PySem.W.Frag} {T : CT} {r r' : List Addr} {A A' vl Z Z' : Addr → Prop} {H H' H1 H2 : Hp} {l l' l1 l2 : Lay} {s s' : List (Option V)} {e e' : Env} {st st' st1 st2 : Store}

theorem FRep.step (x : Step vl H H') (p : Pre r r') (hv : ∀ a, vl a → A a) (hA : ∀ a, H a ≠ none → ¬ A a → ¬ A' a) {v : V} {f : Slot} (n : ∀ (a : Addr) (d : D), v = V.ref a → f = Slot.ow d → ¬ vl a) : FRep K r A H v f → FRep K r' A' H' v f
  | .sh h => .sh (h.step x p hv hA)
  | .ow h => .ow (h.step x p hv hA (n _ _ rfl rfl))
theorem SRep.step (x : Step vl H H') (p : Pre r r') (hv : ∀ a, vl a → A a) (hA : ∀ a, H a ≠ none → ¬ A a → ¬ A' a) {v : Option V} {f : Option Slot} (n : ∀ (a : Addr) (d : D), v = some (V.ref a) → f = some (Slot.ow d) → ¬ vl a) : SRep K r A H v f → SRep K r' A' H' v f
  | .no => .no
  | .is h => .is (h.step x p hv hA fun a d e1 e2 => n a d (by rw [e1]) (by rw [e2]))

/-! ### members of the own sets -/
theorem ownsE_cons_ow {a : Addr} {d : D} : ownsE (some (.ref a) :: s) (some (.ow d) :: e) = a :: ownsE s e := rfl
theorem ownsE_cons_no {x : Option V} : ownsE (x :: s) (none :: e) = ownsE s e := by
  cases x with
  | none => rfl
  | some v => cases v <;> rfl
theorem ownsE_cons_sh {x : Option V} {d : D} : ownsE (x :: s) (some (.sh d) :: e) = ownsE s e := by
  cases x with
  | none => rfl
  | some v => cases v <;> rfl
theorem ownsE_nil : ownsE [] e = [] := by cases e <;> rfl
theorem ownsF_cons_ow {a : Addr} {d : D} {vs : List V} {fs : List Slot} : ownsF (.ref a :: vs) (.ow d :: fs) = a :: ownsF vs fs := rfl
theorem ownsF_cons_sh {v : V} {d : D} {vs : List V} {fs : List Slot} : ownsF (v :: vs) (.sh d :: fs) = ownsF vs fs := by cases v <;> rfl
theorem ownsF_nil {fs : List Slot} : ownsF [] fs = [] := by cases fs <;> rfl
theorem fpO_cons {p dx : Addr} {vs : List V} {ob : Ob} {obs : List Ob} : fpO ((p, dx, vs) :: l) (ob :: obs) = p :: (ownsF vs ob.fs ++ fpO l obs) := rfl

theorem mem_ownsE_of {a : Addr} {d : D} : ∀ {s : List (Option V)} {e : Env} {i : Nat}, s[i]? = some (some (.ref a)) → e[i]? = some (some (.ow d)) → a ∈ ownsE s e
  | [], _, _, h, _ => by simp at h
  | _ :: _, [], _, _, h => by simp at h
  | x :: s, y :: e, 0, h1, h2 => by
    simp at h1 h2; subst h1 h2
    exact List.mem_cons_self
  | x :: s, y :: e, i + 1, h1, h2 => by
    have m : a ∈ ownsE s e := mem_ownsE_of (i := i) (by simpa using h1) (by simpa using h2)
    cases y with
    | none => rw [ownsE_cons_no]; exact m
    | some y =>
      cases y with
      | sh d' => rw [ownsE_cons_sh]; exact m
      | ow d' =>
        cases x with
        | none => exact m
        | some v =>
          cases v <;> first | exact m | exact List.mem_cons_of_mem _ m
theorem mem_ownsF_of {a : Addr} {d : D} : ∀ {vs : List V} {fs : List Slot} {i : Nat}, vs[i]? = some (.ref a) → fs[i]? = some (.ow d) → a ∈ ownsF vs fs
  | [], _, _, h, _ => by simp at h
  | _ :: _, [], _, _, h => by simp at h
  | x :: vs, y :: fs, 0, h1, h2 => by
    simp at h1 h2; subst h1 h2
    exact List.mem_cons_self
  | x :: vs, y :: fs, i + 1, h1, h2 => by
    have m : a ∈ ownsF vs fs := mem_ownsF_of (i := i) (by simpa using h1) (by simpa using h2)
    cases y with
    | sh d' => rw [ownsF_cons_sh]; exact m
    | ow d' =>
      cases x <;> first | exact m | exact List.mem_cons_of_mem _ m
theorem mem_ownsE : ∀ {s : List (Option V)} {e : Env} {a : Addr}, a ∈ ownsE s e → ∃ (i : Nat) (d : D), s[i]? = some (some (V.ref a)) ∧ e[i]? = some (some (Slot.ow d))
  | [], _, _, h => by rw [ownsE_nil] at h; cases h
  | _ :: _, [], _, h => by simp [ownsE] at h
  | x :: s, y :: e, a, h => by
    have go : a ∈ ownsE s e → ∃ (i : Nat) (d : D), (x :: s)[i]? = some (some (V.ref a)) ∧ (y :: e)[i]? = some (some (Slot.ow d)) := fun m => by
      obtain ⟨i, d, h1, h2⟩ := mem_ownsE m
      exact ⟨i + 1, d, by simpa using h1, by simpa using h2⟩
    cases y with
    | none => rw [ownsE_cons_no] at h; exact go h
    | some y =>
      cases y with
      | sh d' => rw [ownsE_cons_sh] at h; exact go h
      | ow d' =>
        cases x with
        | none => exact go h
        | some v =>
          cases v with
          | ref b =>
            rcases List.mem_cons.mp h with q | q
            · subst q; exact ⟨0, d', rfl, rfl⟩
            · exact go q
          | _ => exact go h
theorem mem_ownsF : ∀ {vs : List V} {fs : List Slot} {a : Addr}, a ∈ ownsF vs fs → ∃ (i : Nat) (d : D), vs[i]? = some (.ref a) ∧ fs[i]? = some (.ow d)
  | [], _, _, h => by rw [ownsF_nil] at h; cases h
  | _ :: _, [], _, h => by simp [ownsF] at h
  | x :: s, y :: e, a, h => by
    have go : a ∈ ownsF s e → ∃ (i : Nat) (d : D), (x :: s)[i]? = some (.ref a) ∧ (y :: e)[i]? = some (.ow d) := fun m => by
      obtain ⟨i, d, h1, h2⟩ := mem_ownsF m
      exact ⟨i + 1, d, by simpa using h1, by simpa using h2⟩
    cases y with
    | sh d' => rw [ownsF_cons_sh] at h; exact go h
    | ow d' =>
      cases x with
      | ref b =>
        rcases List.mem_cons.mp h with q | q
        · subst q; exact ⟨0, d', rfl, rfl⟩
        · exact go q
      | _ => exact go h
theorem mem_fpO : ∀ {l : Lay} {obs : List Ob} {a : Addr}, a ∈ fpO l obs → ∃ (k : Nat) (p dx : Addr) (vs : List V) (ob : Ob), l[k]? = some (p, dx, vs) ∧ obs[k]? = some ob ∧ (a = p ∨ a ∈ ownsF vs ob.fs)
  | [], _, _, h => by simp [fpO] at h
  | _ :: _, [], _, h => by simp [fpO] at h
  | (p, dx, vs) :: l, ob :: obs, a, h => by
    rw [fpO_cons] at h
    rcases List.mem_cons.mp h with q | q
    · exact ⟨0, p, dx, vs, ob, rfl, rfl, .inl q⟩
    · rcases List.mem_append.mp q with q | q
      · exact ⟨0, p, dx, vs, ob, rfl, rfl, .inr q⟩
      · obtain ⟨k, p', dx', vs', ob', h1, h2, h3⟩ := mem_fpO q
        exact ⟨k + 1, p', dx', vs', ob', by simpa using h1, by simpa using h2, h3⟩
theorem mem_fpO_of : ∀ {l : Lay} {obs : List Ob} {a : Addr} {k : Nat} {p dx : Addr} {vs : List V} {ob : Ob}, l[k]? = some (p, dx, vs) → obs[k]? = some ob → (a = p ∨ a ∈ ownsF vs ob.fs) → a ∈ fpO l obs
  | [], _, _, _, _, _, _, _, h, _, _ => by simp at h
  | _ :: _, [], _, _, _, _, _, _, _, h, _ => by simp at h
  | (p', dx', vs') :: l, ob' :: obs, a, 0, p, dx, vs, ob, h1, h2, h3 => by
    simp at h1 h2
    obtain ⟨rfl, rfl, rfl⟩ := h1
    subst h2
    rw [fpO_cons]
    rcases h3 with rfl | h3
    · exact List.mem_cons_self
    · exact List.mem_cons_of_mem _ (List.mem_append_left _ h3)
  | (p', dx', vs') :: l, ob' :: obs, a, k + 1, p, dx, vs, ob, h1, h2, h3 => by
    rw [fpO_cons]
    exact List.mem_cons_of_mem _ (List.mem_append_right _ (mem_fpO_of (k := k) (by simpa using h1) (by simpa using h2) h3))

/-! ### Paired by places -/
theorem Paired.get {α β : Type} {F : α → β → Prop} : ∀ {l₁ : List α} {l₂ : List β} {i : Nat} {a : α} {b : β}, Paired F l₁ l₂ → l₁[i]? = some a → l₂[i]? = some b → F a b
  | _, _, _, _, _, .nil, h, _ => by simp at h
  | _, _, 0, _, _, .cons h _, h1, h2 => by simp at h1 h2; subst h1 h2; exact h
  | _, _, i + 1, _, _, .cons _ t, h1, h2 => Paired.get (i := i) t (by simpa using h1) (by simpa using h2)
theorem Paired.at {α β : Type} {F : α → β → Prop} : ∀ {l₁ : List α} {l₂ : List β} {i : Nat} {b : β}, Paired F l₁ l₂ → l₂[i]? = some b → ∃ a, l₁[i]? = some a ∧ F a b
  | _, _, _, _, .nil, h => by simp at h
  | _, _, 0, _, .cons h _, h2 => by simp at h2; subst h2; exact ⟨_, rfl, h⟩
  | _, _, i + 1, _, .cons _ t, h2 => by
    obtain ⟨a, h1, h⟩ := Paired.at (i := i) t (by simpa using h2)
    exact ⟨a, by simpa using h1, h⟩
theorem Paired.setP {α β : Type} {F : α → β → Prop} {a : α} {b : β} (h : F a b) : ∀ {l₁ : List α} {l₂ : List β} (i : Nat), Paired F l₁ l₂ → Paired F (l₁.set i a) (l₂.set i b)
  | _, _, _, .nil => .nil
  | _, _, 0, .cons _ t => .cons h t
  | _, _, i + 1, .cons x t => .cons x (Paired.setP h i t)
theorem Paired.snoc {α β : Type} {F : α → β → Prop} {a : α} {b : β} (h : F a b) : ∀ {l₁ : List α} {l₂ : List β}, Paired F l₁ l₂ → Paired F (l₁ ++ [a]) (l₂ ++ [b])
  | _, _, .nil => .cons h .nil
  | _, _, .cons x t => .cons x (Paired.snoc h t)
/-- as mono, by places -/
theorem Paired.monoI {α β : Type} {F G : α → β → Prop} : ∀ {l₁ : List α} {l₂ : List β}, Paired F l₁ l₂ → (∀ (i : Nat) (a : α) (b : β), l₁[i]? = some a → l₂[i]? = some b → F a b → G a b) → Paired G l₁ l₂
  | _, _, .nil, _ => .nil
  | _, _, .cons h t, f => .cons (f 0 _ _ rfl rfl h) (Paired.monoI t fun i a b ha hb => f (i + 1) a b (by simpa using ha) (by simpa using hb))
/-- set at one place, the others changed besides -/
theorem Paired.setI {α β : Type} {F G : α → β → Prop} {a : α} {b : β} (h : G a b) : ∀ {l₁ : List α} {l₂ : List β} (i : Nat), Paired F l₁ l₂ → (∀ (j : Nat) (x : α) (y : β), j ≠ i → l₁[j]? = some x → l₂[j]? = some y → F x y → G x y) → Paired G (l₁.set i a) (l₂.set i b)
  | _, _, _, .nil, _ => .nil
  | _, _, 0, .cons _ t, f => .cons h (Paired.monoI t fun j x y hx hy q => f (j + 1) x y (by omega) (by simpa using hx) (by simpa using hy) q)
  | _, _, i + 1, .cons x t, f => .cons (f 0 _ _ (by omega) rfl rfl x) (Paired.setI h i t fun j x y hj hx hy q => f (j + 1) x y (by omega) (by simpa using hx) (by simpa using hy) q)

/-! ### what is own is tracked -/
theorem Wok.trkE (w : Wok K T Z l s e H st) {a : Addr} (h : a ∈ ownsE s e) : H a ≠ none := by
  obtain ⟨i, d, h1, h2⟩ := mem_ownsE h
  have q := Paired.get w.slots h1 h2
  cases q with
  | is q =>
    cases q with
    | ow q => exact q.trk
theorem ObOk.trk {x : Addr × Addr × List V} {ob : Ob} (h : ObOk K T r A H x ob) : H x.1 ≠ none := h.2.trk
theorem Wok.trkO (w : Wok K T Z l s e H st) {a : Addr} (h : a ∈ fpO l st.obs) : H a ≠ none := by
  obtain ⟨k, p, dx, vs, ob, h1, h2, h3⟩ := mem_fpO h
  have q := Paired.get w.stor h1 h2
  rcases h3 with rfl | h3
  · exact q.trk
  · obtain ⟨i, d, e1, e2⟩ := mem_ownsF h3
    have q := Paired.get q.1 e1 e2
    cases q with
    | ow q => exact q.trk
theorem Wok.trkA (w : Wok K T Z l s e H st) {a : Addr} (h : AV Z s e l st.obs a) : H a ≠ none := by
  rcases h with h | h | h
  · exact w.zt a h
  · exact w.trkE h
  · exact w.trkO h
theorem Wok.fresh (w : Wok K T Z l s e H st) {a : Addr} (h : H a = none) : ¬ AV Z s e l st.obs a := fun q => w.trkA q h
theorem Wok.len (w : Wok K T Z l s e H st) : l.length = st.obs.length := Paired.length w.stor
theorem Wok.lenE (w : Wok K T Z l s e H st) : s.length = e.length := Paired.length w.slots

/-- the places of the store that a step may change -/
def vol (l : Lay) (st : Store) : Addr → Prop := fun a => st.lk = false ∧ a ∈ fpO l st.obs

/-- a step of the heap under which the slots stay -/
theorem Wok.stepSlots (w : Wok K T Z l s e H st) {l' : Lay} {obs' : List Ob} (x : Step (vol l st) H H') (p : Pre (rho l) (rho l')) (hf : ∀ a ∈ fpO l' obs', a ∈ fpO l st.obs ∨ H a = none) :
    Paired (SRep K (rho l') (AV Z s e l' obs') H') s e := by
  refine Paired.monoI w.slots fun i v f hv hf' q => ?_
  refine q.step x p (fun a h => .inr (.inr h.2)) (fun a ha n h => n ?_) fun a d e1 e2 h => ?_
  · rcases h with h | h | h
    · exact .inl h
    · exact .inr (.inl h)
    · rcases hf a h with h | h
      · exact .inr (.inr h)
      · exact absurd h ha
  · subst e1 e2
    have nd := w.nd
    rw [List.nodup_append] at nd
    exact nd.2.2 a (mem_ownsE_of hv hf') a h.2 rfl
end
end Pz

/-! Steps between states, what a value stands for, the readings. -/
namespace Pz
open PySem L2

section
variable {K : PySem.W.Frag} {T : CT} {r r' : List Addr} {A A' vl Z Z' N0 : Addr → Prop} {H H' H0 H1 H2 : Hp} {l l' l1 l2 : Lay} {s s' : List (Option V)} {e e' : Env} {st st' st1 st2 : Store}

theorem ObOk.step (x : Step vl H H') (p : Pre r r') (hv : ∀ a, vl a → A a) (hA : ∀ a, H a ≠ none → ¬ A a → ¬ A' a) {y : Addr × Addr × List V} {ob : Ob} (n : ¬ vl y.1) (n' : ∀ a ∈ ownsF y.2.2 ob.fs, ¬ vl a) (h : ObOk K T r A H y ob) : ObOk K T r' A' H' y ob := by
  obtain ⟨h1, h2⟩ := h
  refine ⟨Paired.monoI h1 fun i v f hv' hf q => q.step x p hv hA fun a d e1 e2 => ?_, ?_⟩
  · subst e1 e2
    exact n' a (mem_ownsF_of hv' hf)
  · exact h2.step fun o q => x.keep _ _ q n

/-- a step of an expression: the slots stay as they are -/
structure Ext (K : PySem.W.Frag) (T : CT) (Z : Addr → Prop) (s : List (Option V)) (e : Env) (l : Lay) (H : Hp) (st : Store) (l' : Lay) (H' : Hp) (st' : Store) : Prop where
  wok : Wok K T Z l' s e H' st'
  step : Step (vol l st) H H'
  fp : ∀ a ∈ fpO l' st'.obs, a ∈ fpO l st.obs ∨ H a = none
  pre : Pre (rho l) (rho l')
  lk : st'.lk = st.lk
  lkd : st.lk = true → l' = l ∧ st'.obs = st.obs
theorem Ext.refl (w : Wok K T Z l s e H st) : Ext K T Z s e l H st l H st := ⟨w, Step.refl _ _, fun _ h => .inl h, Pre.refl _, rfl, fun _ => ⟨rfl, rfl⟩⟩
theorem Ext.trans (a : Ext K T Z s e l H st l1 H1 st1) (b : Ext K T Z s e l1 H1 st1 l2 H2 st2) : Ext K T Z s e l H st l2 H2 st2 where
  wok := b.wok
  step := a.step.trans b.step fun x hx q => by
    refine ⟨by rw [← a.lk]; exact q.1, ?_⟩
    rcases a.fp x q.2 with h | h
    · exact h
    · exact absurd h hx
  fp := fun x hx => by
    rcases b.fp x hx with h | h
    · exact a.fp x h
    · refine .inr ?_
      cases q : H x with
      | none => rfl
      | some o => exact absurd h (a.step.trk x (by rw [q]; simp))
  pre := a.pre.trans b.pre
  lk := b.lk.trans a.lk
  lkd := fun h => by
    obtain ⟨h1, h2⟩ := a.lkd h
    obtain ⟨h3, h4⟩ := b.lkd (by rw [a.lk]; exact h)
    exact ⟨h3.trans h1, h4.trans h2⟩
theorem Ext.new (a : Ext K T Z s e l H st l1 H1 st1) {x : Addr} (h : H1 x = none) : H x = none := by
  cases q : H x with
  | none => rfl
  | some o => exact absurd h (a.step.trk x (by rw [q]; simp))
/-- what was avoided is avoided -/
theorem Ext.av (a : Ext K T Z s e l H st l1 H1 st1) {x : Addr} (hx : H x ≠ none) (h : ¬ AV Z s e l st.obs x) : ¬ AV Z s e l1 st1.obs x := fun q => by
  rcases q with q | q | q
  · exact h (.inl q)
  · exact h (.inr (.inl q))
  · rcases a.fp x q with z | z
    · exact h (.inr (.inr z))
    · exact hx z
theorem Ext.rep (a : Ext K T Z s e l H st l1 H1 st1) {v : V} {d : D} (h : Rep K (rho l) (AV Z s e l st.obs) H v d) : Rep K (rho l1) (AV Z s e l1 st1.obs) H1 v d :=
  h.step a.step a.pre (fun _ q => .inr (.inr q.2)) fun _ q n => a.av q n
theorem Ext.reps (a : Ext K T Z s e l H st l1 H1 st1) {v : List V} {d : List D} (h : Reps K (rho l) (AV Z s e l st.obs) H v d) : Reps K (rho l1) (AV Z s e l1 st1.obs) H1 v d :=
  h.step a.step a.pre (fun _ q => .inr (.inr q.2)) fun _ q n => a.av q n

/-- the heap has grown by what nobody owns -/
theorem Wok.grw (w : Wok K T Z l s e H st) (g : Grw H H') : Wok K T Z l s e H' st :=
  ⟨w.stepSlots (g.step _) (Pre.refl _) fun _ h => .inl h,
   Paired.monoI w.stor fun i y ob _ _ q => q.step (vl := fun _ => False) (g.step _) (Pre.refl _) (fun _ z => z.elim) (fun _ _ n => n) (fun z => z) fun _ _ z => z,
   w.nd, fun a h => (g.step (fun _ => False)).trk a (w.zt a h), w.zd⟩
theorem Ext.grow (w : Wok K T Z l s e H st) (g : Grw H H') : Ext K T Z s e l H st l H' st := ⟨w.grw g, g.step _, fun _ h => .inl h, Pre.refl _, rfl, fun _ => ⟨rfl, rfl⟩⟩
/-- less is kept away -/
theorem Wok.weakZ (w : Wok K T Z l s e H st) (h : ∀ a, Z' a → Z a) : Wok K T Z' l s e H st := by
  have hA : ∀ a, AV Z' s e l st.obs a → AV Z s e l st.obs a := fun a q => q.imp (h a) id
  refine ⟨Paired.mono w.slots fun _ _ _ _ q => q.step (Step.refl (fun _ => False) H) (Pre.refl _) (fun _ z => z.elim) (fun a _ n z => n (hA a z)) fun _ _ _ _ z => z,
    Paired.mono w.stor fun _ _ _ _ q => q.step (Step.refl (fun _ => False) H) (Pre.refl _) (fun _ z => z.elim) (fun a _ n z => n (hA a z)) (fun z => z) fun _ _ z => z, w.nd, fun a q => w.zt a (h a q), fun a q z => w.zd a q (h a z)⟩
/-- a new address is kept away -/
theorem Wok.addZ (w : Wok K T Z l s e H st) (g : Grw H H') {p : Addr} (hp : H p = Option.none) (hp' : H' p ≠ Option.none) : Wok K T (fun b => Z b ∨ b = p) l s e H' st := by
  have nA : ¬ AV Z s e l st.obs p := w.fresh hp
  have hA : ∀ a, H a ≠ Option.none → ¬ AV Z s e l st.obs a → ¬ AV (fun b => Z b ∨ b = p) s e l st.obs a := fun a ha n q => by
    rcases q with (q | q) | q | q
    · exact n (.inl q)
    · subst q; exact ha hp
    · exact n (.inr (.inl q))
    · exact n (.inr (.inr q))
  refine ⟨Paired.mono w.slots fun _ _ _ _ q => q.step (g.step (fun _ => False)) (Pre.refl _) (fun _ z => z.elim) hA fun _ _ _ _ z => z,
    Paired.mono w.stor fun _ _ _ _ q => q.step (g.step (fun _ => False)) (Pre.refl _) (fun _ z => z.elim) hA (fun z => z) fun _ _ z => z, w.nd, fun a q => ?_, fun a q z => ?_⟩
  · rcases q with q | q
    · exact (g.step (fun _ => False)).trk a (w.zt a q)
    · subst q; exact hp'
  · rcases z with z | z
    · exact w.zd a q z
    · subst z
      rcases List.mem_append.mp q with q | q
      · exact nA (.inr (.inl q))
      · exact nA (.inr (.inr q))

/-! ### values of expressions -/
inductive VRep (K : PySem.W.Frag) (T : CT) (Z : Addr → Prop) (s : List (Option V)) (e : Env) (l : Lay) (H : Hp) (st : Store) (N0 : Addr → Prop) : V → Val → Prop
  | sh {v : V} {d : D} : Rep K (rho l) (AV Z s e l st.obs) H v d → VRep K T Z s e l H st N0 v (.sh d)
  | ow {a : Addr} {d : D} : N0 a → ¬ Z a → Wok K T (fun b => Z b ∨ b = a) l s e H st → Own K (rho l) (AV (fun b => Z b ∨ b = a) s e l st.obs) H a d → VRep K T Z s e l H st N0 (.ref a) (.ow d)
  | bw {v : V} {i : Nat} {d : D} : e[i]? = some (some (.ow d)) → s[i]? = some (some v) → VRep K T Z s e l H st N0 v (.bw i d)
  | fb {v : V} {k f : Nat} {d : D} {p dx : Addr} {vs : List V} {ob : Ob} : l[k]? = some (p, dx, vs) → vs[f]? = some v → st.obs[k]? = some ob → ob.fs[f]? = some (.ow d) → VRep K T Z s e l H st N0 v (.fb k f d)
/-- what stands at v now -/
def CRep (K : PySem.W.Frag) (r : List Addr) (A : Addr → Prop) (H : Hp) (v : V) (d : D) : Prop := Rep K r A H v d ∨ ∃ a, v = .ref a ∧ Own K r A H a d

theorem Own.frz {a : Addr} {xs : List D} (h : Own K r A H a (.lst xs)) (n : ¬ A a) : Rep K r A H (.ref a) (.lst xs) := by
  cases h with
  | lst h1 h2 => exact .lst (.inl ⟨.inl h1, n⟩) h2
theorem VRep.own (w : Wok K T Z l s e H st) {i : Nat} {v : V} {d : D} (h1 : e[i]? = some (some (.ow d))) (h2 : s[i]? = some (some v)) : ∃ a, v = .ref a ∧ a ∈ ownsE s e ∧ Own K (rho l) (AV Z s e l st.obs) H a d := by
  have q := Paired.get w.slots h2 h1
  cases q with
  | is q =>
    cases q with
    | ow q => exact ⟨_, rfl, mem_ownsE_of h2 h1, q⟩
theorem VRep.ownF (w : Wok K T Z l s e H st) {v : V} {k f : Nat} {d : D} {p dx : Addr} {vs : List V} {ob : Ob} (h1 : l[k]? = some (p, dx, vs)) (h2 : vs[f]? = some v) (h3 : st.obs[k]? = some ob) (h4 : ob.fs[f]? = some (.ow d)) :
    ∃ a, v = .ref a ∧ a ∈ fpO l st.obs ∧ Own K (rho l) (AV Z s e l st.obs) H a d := by
  have q := Paired.get w.stor h1 h3
  have q := Paired.get q.1 h2 h4
  cases q with
  | ow q => exact ⟨_, rfl, mem_fpO_of h1 h3 (.inr (mem_ownsF_of h2 h4)), q⟩
theorem VRep.any (w : Wok K T Z l s e H st) {v : V} {x : Val} (h : VRep K T Z s e l H st N0 v x) : CRep K (rho l) (AV Z s e l st.obs) H v x.any := by
  cases h with
  | sh h => exact .inl h
  | @ow a d h1 hz h2 h3 => exact .inr ⟨a, rfl, h3.weak fun b q => q.imp .inl id⟩
  | bw h1 h2 =>
    obtain ⟨a, rfl, _, q⟩ := VRep.own w h1 h2
    exact .inr ⟨a, rfl, q⟩
  | fb h1 h2 h3 h4 =>
    obtain ⟨a, rfl, _, q⟩ := VRep.ownF w h1 h2 h3 h4
    exact .inr ⟨a, rfl, q⟩
/-- a new list taken as one that stays -/
theorem VRep.frz {v : V} {xs : List D} (h : VRep K T Z s e l H st N0 v (.ow (.lst xs))) : Rep K (rho l) (AV Z s e l st.obs) H v (.lst xs) := by
  cases h with
  | ow h1 hz h2 h3 =>
    cases h3 with
    | lst h4 h5 =>
      refine .lst (.inl ⟨.inl h4, fun q => ?_⟩) (h5.weak fun b q => q.imp .inl id)
      rcases q with q | q
      · exact hz q
      · exact h2.zd _ (List.mem_append.mpr q) (.inr rfl)
theorem VRep.keep {v : V} {x : Val} {d : D} (h : VRep K T Z s e l H st N0 v x) (k : x.keep = some d) : Rep K (rho l) (AV Z s e l st.obs) H v d := by
  cases x with
  | sh d' => cases k; cases h with | sh h => exact h
  | ow d' =>
    cases d' with
    | lst xs => cases k; exact h.frz
    | _ => cases k
  | bw i d' => cases k
  | fb a b d' => cases k
/-- an operand that stays while the next one is evaluated -/
theorem VRep.stab {v : V} {x : Val} {d : D} (h : VRep K T Z s e l1 H1 st1 N0 v x) (k : x.stab = some d) (y : Ext K T Z s e l1 H1 st1 l2 H2 st2) : CRep K (rho l2) (AV Z s e l2 st2.obs) H2 v d := by
  cases x with
  | sh d' => cases k; cases h with | sh h => exact .inl (y.rep h)
  | ow d' =>
    cases d' with
    | lst xs => cases k; exact .inl (y.rep h.frz)
    | _ => cases k
  | bw i d' =>
    cases k
    cases h with
    | bw h1 h2 =>
      obtain ⟨a, rfl, _, q⟩ := VRep.own y.wok h1 h2
      exact .inr ⟨a, rfl, q⟩
  | fb a b d' => cases k
/-- seen from further ahead -/
theorem VRep.ahead {v : V} {x : Val} (h : VRep K T Z s e l2 H2 st2 (fun a => H1 a = none) v x) (y : Ext K T Z s e l H st l1 H1 st1) : VRep K T Z s e l2 H2 st2 (fun a => H a = none) v x := by
  cases h with
  | sh h => exact .sh h
  | ow h1 hz h2 h3 => exact .ow (y.new h1) hz h2 h3
  | bw h1 h2 => exact .bw h1 h2
  | fb h1 h2 h3 h4 => exact .fb h1 h2 h3 h4
theorem CRep.grw {v : V} {d : D} (h : CRep K r A H v d) (g : Grw H H') : CRep K r A H' v d := by
  rcases h with h | ⟨a, e, h⟩
  · exact .inl (h.step (g.step fun _ => False) (Pre.refl _) (fun _ z => z.elim) fun _ _ n => n)
  · exact .inr ⟨a, e, h.step (g.step fun _ => False) (Pre.refl _) (fun _ z => z.elim) (fun _ _ n => n) fun z => z⟩
theorem Rep.grw {v : V} {d : D} (h : Rep K r A H v d) (g : Grw H H') : Rep K r A H' v d := h.step (g.step fun _ => False) (Pre.refl _) (fun _ z => z.elim) fun _ _ n => n
theorem Reps.grw {v : List V} {d : List D} (h : Reps K r A H v d) (g : Grw H H') : Reps K r A H' v d := h.step (g.step fun _ => False) (Pre.refl _) (fun _ z => z.elim) fun _ _ n => n

/-! ### the readings -/
abbrev WX := L2.WX
def rdE (K : PySem.W.Frag) (T : CT) (W : WX) (E : EF) : TE := fun s H Q => ∃ (Z : Addr → Prop) (l : Lay) (e : Env) (st : Store), Wok K T Z l s e H st ∧ match E e st with
  | .ok x st' => ∀ v l' H', Ext K T Z s e l H st l' H' st' → VRep K T Z s e l' H' st' (fun a => H a = none) v x → Q v H'
  | .ex c st' => ∀ l' H', Ext K T Z s e l H st l' H' st' → W (T.err c) none s H'
  | .bad => False
def rdT (K : PySem.W.Frag) (T : CT) (W : WX) (E : TF) : TT := fun s H Q => ∃ (Z : Addr → Prop) (l : Lay) (e : Env) (st : Store), Wok K T Z l s e H st ∧ match E e st with
  | .ok b st' => ∀ l' H', Ext K T Z s e l H st l' H' st' → Q b H'
  | .ex c st' => ∀ l' H', Ext K T Z s e l H st l' H' st' → W (T.err c) none s H'
  | .bad => False
/-- arguments that are handed on | that are looked at -/
def rdA (K : PySem.W.Frag) (T : CT) (W : WX) (E : AF) : TA := fun s H Q => ∃ (Z : Addr → Prop) (l : Lay) (e : Env) (st : Store), Wok K T Z l s e H st ∧ match E e st with
  | .ok ds st' => ∀ vs l' H', Ext K T Z s e l H st l' H' st' → Reps K (rho l') (AV Z s e l' st'.obs) H' vs ds → Q vs H'
  | .ex c st' => ∀ l' H', Ext K T Z s e l H st l' H' st' → W (T.err c) none s H'
  | .bad => False
def rdB (K : PySem.W.Frag) (T : CT) (W : WX) (E : AF) : TA := fun s H Q => ∃ (Z : Addr → Prop) (l : Lay) (e : Env) (st : Store), Wok K T Z l s e H st ∧ match E e st with
  | .ok ds st' => ∀ vs l' H', Ext K T Z s e l H st l' H' st' → Paired (CRep K (rho l') (AV Z s e l' st'.obs) H') vs ds → Q vs H'
  | .ex c st' => ∀ l' H', Ext K T Z s e l H st l' H' st' → W (T.err c) none s H'
  | .bad => False
theorem pe_imp {X : Cx} {x : Expr} {t t' : TE} (h : PE X x t) (i : ∀ s H Q, t' s H Q → t s H Q) : PE X x t' := ⟨fun pins s σ H Q I q => h.run pins s σ H Q I (i _ _ _ q)⟩
theorem pt_imp {X : Cx} {x : Expr} {t t' : TT} (h : PT X x t) (i : ∀ s H Q, t' s H Q → t s H Q) : PT X x t' := ⟨fun pins s σ H Q I q => h.run pins s σ H Q I (i _ _ _ q)⟩
theorem pa_imp {X : Cx} {x : List Expr} {t t' : TA} (h : PA X x t) (i : ∀ s H Q, t' s H Q → t s H Q) : PA X x t' := ⟨fun pos pins s σ H Q I q => h.run pos pins s σ H Q I (i _ _ _ q)⟩
theorem ps_imp {X : Cx} {x : Stmt} {t t' : TS} (h : PS X x t) (i : ∀ D s H, t' D s H → t D s H) : PS X x t' := ⟨fun pins s σ H D I q => h.run pins s σ H D I (i _ _ _ q)⟩
theorem pss_imp {X : Cx} {x : List Stmt} {t t' : TS} (h : PSs X x t) (i : ∀ D s H, t' D s H → t D s H) : PSs X x t' := ⟨fun pins s σ H D I q => h.run pins s σ H D I (i _ _ _ q)⟩

/-- what an operation on values is to lead to -/
def orP (K : PySem.W.Frag) (r : List Addr) (A : Addr → Prop) (H : Hp) (Q : VK) : OR → Prop
  | .v d => ∀ v H', Grw H H' → Rep K r A H' v d → Q v H'
  | .nl ds => ∀ p vs H', H p = none → Grw H H' → H' p = some (.lst vs) → Reps K r A H vs ds → Q (.ref p) H'
  | .bad => False
/-- behind the operands, the operation's end -/
theorem or_end {W : WX} {Q : VK} {o : OR} (y : Ext K T Z s e l H st l1 H1 st1)
    (h : match o.run st1 with
      | .ok x st' => ∀ v l' H', Ext K T Z s e l H st l' H' st' → VRep K T Z s e l' H' st' (fun a => H a = none) v x → Q v H'
      | .ex c st' => ∀ l' H', Ext K T Z s e l H st l' H' st' → W (T.err c) none s H'
      | .bad => False) : orP K (rho l1) (AV Z s e l1 st1.obs) H1 Q o := by
  cases o with
  | v d => exact fun v H' g q => h v l1 H' (y.trans (Ext.grow y.wok g)) (.sh q)
  | nl ds =>
    refine fun p vs H' hp g hp' q => h (.ref p) l1 H' (y.trans (Ext.grow y.wok g)) (.ow (y.new hp) (fun z => ?_) (y.wok.addZ g hp (by rw [hp']; simp)) (.lst hp' (q.step (g.step fun _ => False) (Pre.refl _) (fun _ z => z.elim) fun a ha n z => ?_)))
    · exact y.wok.zt p z hp
    · rcases z with (z | z) | z
      · exact n (.inl z)
      · subst z; exact ha hp
      · exact n (.inr z)
  | bad => exact h
end
end Pz

/-! Expressions: the rules. -/
namespace Pz
open PySem L2

section
variable {X : Cx} {T : CT} {W : WX} {pos p : Pos} {a b c x : Expr} {A B C : EF} {es : List Expr} {As Bs : AF}

/-- a name -/
theorem je_V (i : Nat) {n : Str} (hN : X.N[i]? = some n := by rfl) (hv : Vis X.env.scope n := by first | exact Or.inl rfl | exact Or.inr (Or.inl rfl) | exact Or.inr (Or.inr rfl)) (hd : (n == ("__debug__" : Str)) = false := by decide)
    (hcd : (n == ("__classdict__" : Str)) = false := by decide) : PE X (.Name n pos) (rdE X.K T W (eV i)) := by
  refine pe_imp (pe_var hN hv hd hcd) fun s H Q h => ?_
  obtain ⟨Z, l, e, st, w, h⟩ := h
  unfold eV at h
  cases he : e[i]? with
  | none => rw [he] at h; exact h.elim
  | some o =>
    cases o with
    | none => rw [he] at h; exact h.elim
    | some f =>
      obtain ⟨u, hu, q⟩ := Paired.at w.slots he
      cases q with
      | @is v _ q =>
        rw [he] at h
        cases f with
        | sh d =>
          cases q with
          | sh q => exact ⟨v, hu, h v l H (Ext.refl w) (.sh q)⟩
        | ow d => exact ⟨v, hu, h v l H (Ext.refl w) (.bw he hu)⟩

theorem rd_const {K : PySem.W.Frag} {v : V} {d : D} (hr : ∀ r A H, Rep K r A H v d) : ∀ s H Q, rdE K T W (eC d) s H Q → tC v s H Q := fun s H Q ⟨Z, l, e, st, w, h⟩ => h v l H (Ext.refl w) (.sh (hr _ _ _))
theorem je_int {i : Int} {j} : PE X (.Constant (.int i) j pos) (rdE X.K T W (eC (.int i))) := pe_imp pe_int (rd_const fun _ _ _ => .int i)
theorem je_bl {i : Bool} {j} : PE X (.Constant (.bool i) j pos) (rdE X.K T W (eC (.bl i))) := pe_imp pe_bl (rd_const fun _ _ _ => .bl i)
theorem je_non {j} : PE X (.Constant .none j pos) (rdE X.K T W (eC .non)) := pe_imp pe_non (rd_const fun _ _ _ => .non)
theorem je_str {z : Str} {j} : PE X (.Constant (.str z) j pos) (rdE X.K T W (eC (.str z))) := pe_imp pe_str (rd_const fun _ _ _ => .str z)
/-- a constant of the module: an int, a text -/
theorem je_gI {n : Str} {i : Int} {t : Tok} (hm : X.mg n = some (.int i t)) (hg : Gl X n := by rfl) (hd : (n == ("__debug__" : Str)) = false := by decide) : PE X (.Name n pos) (rdE X.K T W (eC (.int i))) := pe_imp (pe_glob (v := V.int i) hg hm ⟨_, rfl⟩ hd) (rd_const fun _ _ _ => .int i)
theorem je_gS {n z : Str} {t : Tok} (hm : X.mg n = some (.str z t)) (hg : Gl X n := by rfl) (hd : (n == ("__debug__" : Str)) = false := by decide) : PE X (.Name n pos) (rdE X.K T W (eC (.str z))) := pe_imp (pe_glob (v := V.str z) hg hm ⟨_, rfl⟩ hd) (rd_const fun _ _ _ => .str z)

/-! ### operations on values -/
def OpOk (X : Cx) (f : Value → Value → Sem Value) (o : D → D → OR) : Prop :=
  ∃ r, OpR X f r ∧ ∀ (rr : List Addr) (A : Addr → Prop) (H : Hp) (x y : V) (dx dy : D) (Q : VK), CRep X.K rr A H x dx → CRep X.K rr A H y dy → orP X.K rr A H Q (o dx dy) → r x y H Q
def UnOk (X : Cx) (f : Value → Sem Value) (o : D → OR) : Prop :=
  ∃ r, UnR X f r ∧ ∀ (rr : List Addr) (A : Addr → Prop) (H : Hp) (x : V) (dx : D) (Q : VK), CRep X.K rr A H x dx → orP X.K rr A H Q (o dx) → r x H Q
def CallOk (X : Cx) (f : Value) (o : List D → OR) : Prop :=
  ∃ r, CallR X f r ∧ ∀ (rr : List Addr) (A : Addr → Prop) (H : Hp) (xs : List V) (ds : List D) (Q : VK), Paired (CRep X.K rr A H) xs ds → orP X.K rr A H Q (o ds) → r xs H Q

/-- back from the lock -/
theorem Ext.un {K : PySem.W.Frag} {Z : Addr → Prop} {l1 l2 : Lay} {s : List (Option V)} {e : Env} {H1 H2 : Hp} {s1 s2 : Store} (z : Ext K T Z s e l1 H1 { s1 with lk := true } l2 H2 s2) : l2 = l1 ∧ s2.obs = s1.obs ∧ Ext K T Z s e l1 H1 s1 l2 H2 s1 := by
  obtain ⟨e1, e2⟩ := z.lkd rfl
  subst e1
  have wz := z.wok
  exact ⟨rfl, e2, ⟨⟨by have := wz.slots; rw [e2] at this; exact this, by have := wz.stor; rw [e2] at this; exact this, by have := wz.nd; rw [e2] at this; exact this, wz.zt, by have := wz.zd; rw [e2] at this; exact this⟩,
    z.step.mono fun _ _ q => absurd q.1 (by simp), fun a h => .inl h, Pre.refl _, rfl, fun _ => ⟨rfl, rfl⟩⟩⟩
theorem rd_op2 {K : PySem.W.Frag} {r : R2} {o : D → D → OR} (h : ∀ (rr : List Addr) (A : Addr → Prop) (H : Hp) (x y : V) (dx dy : D) (Q : VK), CRep K rr A H x dx → CRep K rr A H y dy → orP K rr A H Q (o dx dy) → r x y H Q) :
    ∀ s H Q, rdE K T W (eOp2 o A B) s H Q → tOp r (rdE K T W A) (rdE K T W B) s H Q := by
  rintro s H Q ⟨Z, l, e, st, w, q⟩
  refine ⟨Z, l, e, st, w, ?_⟩
  unfold eOp2 at q
  cases hA : A e st with
  | bad => rw [hA] at q; exact q
  | ex c s1 => rw [hA] at q; exact q
  | ok x s1 =>
    rw [hA, R.bind_ok] at q
    intro v l1 H1 y1 r1
    have go : ∀ dx, x.stab = some dx → (match R.optv x.stab fun x => (B e s1).bind fun b s2 => (o x b.any).run s2 with
      | .ok x st' => ∀ v l' H', Ext K T Z s e l H st l' H' st' → VRep K T Z s e l' H' st' (fun a => H a = none) v x → Q v H'
      | .ex c st' => ∀ l' H', Ext K T Z s e l H st l' H' st' → W (T.err c) none s H'
      | .bad => False) → rdE K T W B s H1 (fun u H2 => r v u H2 Q) := fun dx hx q => by
      rw [hx, R.optv_some] at q
      refine ⟨Z, l1, e, s1, y1.wok, ?_⟩
      cases hB : B e s1 with
      | bad => rw [hB] at q; exact q
      | ex c s2 => rw [hB] at q; exact fun l' H' y2 => q l' H' (y1.trans y2)
      | ok z s2 =>
        rw [hB, R.bind_ok] at q
        intro u l2 H2 y2 r2
        exact h _ _ _ _ _ _ _ _ (r1.stab hx y2) (r2.any y2.wok) (or_end (y1.trans y2) q)
    cases x with
    | sh d => exact go d rfl q
    | bw i d => exact go d rfl q
    | ow d =>
      cases d with
      | lst xs => exact go _ rfl q
      | _ => exact q.elim
    | fb k f d =>
      cases r1 with
      | @fb _ _ _ _ pp dx vs ob h1 h2 h3 h4 =>
        refine ⟨Z, l1, e, { s1 with lk := true }, ⟨y1.wok.slots, y1.wok.stor, y1.wok.nd, y1.wok.zt, y1.wok.zd⟩, ?_⟩
        cases hB : B e { s1 with lk := true } with
        | bad => rw [hB] at q; exact q
        | ex c s2 => rw [hB] at q; exact fun l' H' y2 => q l' H' (y1.trans (Ext.un y2).2.2)
        | ok z s2 =>
          rw [hB] at q
          intro u l2 H2 y2 r2
          obtain ⟨rfl, eo, y3⟩ := Ext.un y2
          have r3 := r2.any y2.wok
          rw [eo] at r3
          obtain ⟨a, ea, _, qo⟩ := VRep.ownF y3.wok h1 h2 h3 h4
          exact h _ _ _ _ _ _ _ _ (.inr ⟨a, ea, qo⟩) r3 (or_end (y1.trans y3) q)
theorem je_bin {op : Operator} {o : D → D → OR} (ho : OpOk X (binaryOp op) o) (ha : PE X a (rdE X.K T W A)) (hb : PE X b (rdE X.K T W B)) : PE X (.BinOp a op b pos) (rdE X.K T W (eOp2 o A B)) := by
  obtain ⟨r, h1, h2⟩ := ho
  exact pe_imp (pe_op h1 ha hb) (rd_op2 h2)
theorem je_cmp {op : CmpOp} {o : D → D → OR} (ho : OpOk X (compareOp op) o) (ha : PE X a (rdE X.K T W A)) (hb : PE X b (rdE X.K T W B)) (hm : behindInMarks op b = false := by first | exact nomark _ | rfl) : PE X (.Compare a [op] [b] pos) (rdE X.K T W (eOp2 o A B)) := by
  obtain ⟨r, h1, h2⟩ := ho
  exact pe_imp (pe_cmpR h1 ha hb hm) (rd_op2 h2)
theorem asB_of {K : PySem.W.Frag} {Z : Addr → Prop} {l : Lay} {s : List (Option V)} {e : Env} {H : Hp} {N0 : Addr → Prop} {st : Store} {v : V} {x : Val} {k : Bool} (r : VRep K T Z s e l H st N0 v x) (h : x.asB = some k) : v = .bl k ∧ x = .sh (.bl k) := by
  cases x with
  | sh d =>
    cases d with
    | bl b => cases h; cases r with | sh r => cases r; exact ⟨rfl, rfl⟩
    | _ => cases h
  | _ => cases h
theorem asO_of {K : PySem.W.Frag} {Z : Addr → Prop} {l : Lay} {s : List (Option V)} {e : Env} {H : Hp} {N0 : Addr → Prop} {st : Store} {v : V} {x : Val} {k : Nat} (r : VRep K T Z s e l H st N0 v x) (h : x.asO = some k) : ∃ a, v = .ref a ∧ (rho l)[k]? = some a := by
  cases x with
  | sh d =>
    cases d with
    | obj b => cases h; cases r with | sh r => cases r with | obj r => exact ⟨_, rfl, r⟩
    | _ => cases h
  | _ => cases h
theorem rd_test {K : PySem.W.Frag} {t : TE} (h : ∀ s H Q, rdE K T W A s H Q → t s H Q) : ∀ s H Q, rdT K T W (tE A) s H Q → tTest t s H Q := by
  rintro s H Q ⟨Z, l, e, st, w, q⟩
  refine h s H _ ⟨Z, l, e, st, w, ?_⟩
  unfold tE at q
  cases hA : A e st with
  | bad => rw [hA] at q; exact q
  | ex c s1 => rw [hA] at q; exact q
  | ok x s1 =>
    rw [hA, R.bind_ok] at q
    intro v l' H' y r
    cases hx : x.asB with
    | none => rw [hx] at q; exact q.elim
    | some k =>
      rw [hx, R.optv_some] at q
      obtain ⟨rfl, _⟩ := asB_of r hx
      exact ⟨k, rfl, q l' H' y⟩
theorem jt_cmp {op : CmpOp} {o : D → D → OR} (ho : OpOk X (compareOp op) o) (ha : PE X a (rdE X.K T W A)) (hb : PE X b (rdE X.K T W B)) (hm : behindInMarks op b = false := by first | exact nomark _ | rfl) : PT X (.Compare a [op] [b] pos) (rdT X.K T W (tE (eOp2 o A B))) := by
  obtain ⟨r, h1, h2⟩ := ho
  exact pt_imp (pt_cmpR h1 ha hb hm) (rd_test (rd_op2 h2))
/-- any other expression whose value is a bool -/
theorem jt_val (ha : PE X a (rdE X.K T W A)) (he : ∀ whole, isTrue a X.env whole = (do let v ← whole; standAt a.pos; holding [v] (truthy v)) := by intro _; rfl) : PT X a (rdT X.K T W (tE A)) :=
  pt_imp (pt_val ha he) (rd_test (t := rdE X.K T W A) fun _ _ _ h => h)

theorem rd_op1 {K : PySem.W.Frag} {r : V → Hp → VK → Prop} {o : D → OR} (h : ∀ (rr : List Addr) (A : Addr → Prop) (H : Hp) (x : V) (dx : D) (Q : VK), CRep K rr A H x dx → orP K rr A H Q (o dx) → r x H Q) :
    ∀ s H Q, rdE K T W (eOp1 o A) s H Q → tUn r (rdE K T W A) s H Q := by
  rintro s H Q ⟨Z, l, e, st, w, q⟩
  refine ⟨Z, l, e, st, w, ?_⟩
  unfold eOp1 at q
  cases hA : A e st with
  | bad => rw [hA] at q; exact q
  | ex c s1 => rw [hA] at q; exact q
  | ok x s1 =>
    rw [hA, R.bind_ok] at q
    intro v l1 H1 y1 r1
    exact h _ _ _ _ _ _ (r1.any y1.wok) (or_end y1 q)
theorem je_un {op : UnaryOp} {o : D → OR} (ho : UnOk X (unaryOp op) o) (ha : PE X a (rdE X.K T W A)) : PE X (.UnaryOp op a pos) (rdE X.K T W (eOp1 o A)) := by
  obtain ⟨r, h1, h2⟩ := ho
  exact pe_imp (pe_un h1 ha) (rd_op1 h2)

/-! ### arguments -/
theorem ja_nil : PA X [] (rdA X.K T W aNil) := pa_imp pa_nil fun s H Q ⟨Z, l, e, st, w, q⟩ => q [] l H (Ext.refl w) .nil
theorem ja_cons {y : Expr} (ha : PE X y (rdE X.K T W A)) (hr : PA X es (rdA X.K T W As)) (hs : starEach (y :: es) X.env = (false, eval y X.env) :: starEach es X.env := by rfl) : PA X (y :: es) (rdA X.K T W (aCons A As)) := by
  refine pa_imp (pa_cons ha hr hs) ?_
  rintro s H Q ⟨Z, l, e, st, w, q⟩
  refine ⟨Z, l, e, st, w, ?_⟩
  unfold aCons at q
  cases hA : A e st with
  | bad => rw [hA] at q; exact q
  | ex c s1 => rw [hA] at q; exact q
  | ok x s1 =>
    rw [hA, R.bind_ok] at q
    intro v l1 H1 y1 r1
    cases hx : x.keep with
    | none => rw [hx] at q; exact q.elim
    | some dx =>
      rw [hx, R.optv_some] at q
      refine ⟨Z, l1, e, s1, y1.wok, ?_⟩
      cases hB : As e s1 with
      | bad => rw [hB] at q; exact q
      | ex c s2 => rw [hB] at q; exact fun l' H' y2 => q l' H' (y1.trans y2)
      | ok z s2 =>
        rw [hB, R.bind_ok] at q
        exact fun vs l2 H2 y2 r2 => q (v :: vs) l2 H2 (y1.trans y2) (.cons (y2.rep (r1.keep hx)) r2)
theorem rd_bOne {K : PySem.W.Frag} : ∀ s H (Q : List V → Hp → Prop), rdB K T W (bOne A) s H Q → rdE K T W A s H fun v H1 => Q [v] H1 := by
  rintro s H Q ⟨Z, l, e, st, w, q⟩
  refine ⟨Z, l, e, st, w, ?_⟩
  unfold bOne at q
  cases hA : A e st with
  | bad => rw [hA] at q; exact q
  | ex c s1 => rw [hA] at q; exact q
  | ok x s1 =>
    rw [hA, R.bind_ok] at q
    exact fun v l1 H1 y1 r1 => q [v] l1 H1 y1 (.cons (r1.any y1.wok) .nil)
theorem jb_one {y : Expr} (ha : PE X y (rdE X.K T W A)) (hs : starEach [y] X.env = (false, eval y X.env) :: starEach [] X.env := by rfl) : PA X [y] (rdB X.K T W (bOne A)) := pa_imp (pa_cons ha pa_nil hs) rd_bOne
theorem jb_cons {y : Expr} (ha : PE X y (rdE X.K T W A)) (hr : PA X es (rdB X.K T W As)) (hs : starEach (y :: es) X.env = (false, eval y X.env) :: starEach es X.env := by rfl) : PA X (y :: es) (rdB X.K T W (bCons A As)) := by
  refine pa_imp (pa_cons ha hr hs) ?_
  rintro s H Q ⟨Z, l, e, st, w, q⟩
  refine ⟨Z, l, e, st, w, ?_⟩
  unfold bCons at q
  cases hA : A e st with
  | bad => rw [hA] at q; exact q
  | ex c s1 => rw [hA] at q; exact q
  | ok x s1 =>
    rw [hA, R.bind_ok] at q
    intro v l1 H1 y1 r1
    cases hx : x.stab with
    | none => rw [hx] at q; exact q.elim
    | some dx =>
      rw [hx, R.optv_some] at q
      refine ⟨Z, l1, e, s1, y1.wok, ?_⟩
      cases hB : As e s1 with
      | bad => rw [hB] at q; exact q
      | ex c s2 => rw [hB] at q; exact fun l' H' y2 => q l' H' (y1.trans y2)
      | ok z s2 =>
        rw [hB, R.bind_ok] at q
        exact fun vs l2 H2 y2 r2 => q (v :: vs) l2 H2 (y1.trans y2) (.cons (r1.stab hx y2) r2)
/-- arguments on values: a built-in's call, a method of a built-in type, a display -/
theorem rd_opN {K : PySem.W.Frag} {r : List V → Hp → VK → Prop} {o : List D → OR} (h : ∀ (rr : List Addr) (A : Addr → Prop) (H : Hp) (xs : List V) (ds : List D) (Q : VK), Paired (CRep K rr A H) xs ds → orP K rr A H Q (o ds) → r xs H Q) :
    ∀ s H Q, rdE K T W (eOpN o As) s H Q → rdB K T W As s H fun vs H1 => r vs H1 Q := by
  rintro s H Q ⟨Z, l, e, st, w, q⟩
  refine ⟨Z, l, e, st, w, ?_⟩
  unfold eOpN at q
  cases hA : As e st with
  | bad => rw [hA] at q; exact q
  | ex c s1 => rw [hA] at q; exact q
  | ok x s1 =>
    rw [hA, R.bind_ok] at q
    exact fun vs l1 H1 y1 r1 => h _ _ _ _ _ _ r1 (or_end y1 q)
/-- f(e, ..), f a built-in -/
theorem je_callB {id : String} {n : Str} {o : List D → OR} {y : Expr} (hc : CallOk X (.builtin id) o) (hm : X.mg n = none) (hv : bootBuiltins n = some (.builtin id)) (ha : PA X (y :: es) (rdB X.K T W As)) (hg : Gl X n := by rfl) (hn : n ≠ "__name__" := by decide)
    (hdb : (n == ("__debug__" : Str)) = false := by decide) (he : starEach (y :: es) X.env = (false, eval y X.env) :: starEach es X.env := by rfl) (hpl : (backTo pos (starEach es X.env)).any (·.1) = false := by rfl) :
    PE X (.Call (.Name n p) (y :: es) [] pos) (rdE X.K T W (eOpN o As)) := by
  obtain ⟨r, h1, h2⟩ := hc
  exact pe_imp (pe_callB h1 hg hm hv ha hn hdb he hpl) (rd_opN h2)
theorem je_callTy {id : String} {n : Str} {o : List D → OR} {y : Expr} (hc : CallOk X (.type id) o) (hm : X.mg n = none) (hv : bootBuiltins n = some (.type id)) (ha : PA X (y :: es) (rdB X.K T W As)) (hg : Gl X n := by rfl) (hn : n ≠ "__name__" := by decide)
    (hdb : (n == ("__debug__" : Str)) = false := by decide) (he : starEach (y :: es) X.env = (false, eval y X.env) :: starEach es X.env := by rfl) (hpl : (backTo pos (starEach es X.env)).any (·.1) = false := by rfl) :
    PE X (.Call (.Name n p) (y :: es) [] pos) (rdE X.K T W (eOpN o As)) := by
  obtain ⟨r, h1, h2⟩ := hc
  exact pe_imp (pe_callTy h1 hg hm hv ha hn hdb he hpl) (rd_opN h2)
theorem small1000 {n : Nat} (h : n ≤ 1000) : n ≤ sizeLine := Nat.le_trans h (by decide)
/-- (a, b), [a, b] -/
theorem je_tup {k} (ha : PA X es (rdA X.K T W As)) : PE X (.Tuple es k pos) (rdE X.K T W (eTup As)) := by
  refine pe_imp (pe_tup ha) ?_
  rintro s H Q ⟨Z, l, e, st, w, q⟩
  refine ⟨Z, l, e, st, w, ?_⟩
  unfold eTup at q
  cases hA : As e st with
  | bad => rw [hA] at q; exact q
  | ex c s1 => rw [hA] at q; exact q
  | ok x s1 =>
    rw [hA, R.bind_ok] at q
    by_cases hz : x.length ≤ 1000
    · rw [if_pos hz] at q
      refine fun vs l1 H1 y1 r1 => ⟨small1000 (by rw [r1.length]; exact hz), fun t ht => ?_⟩
      have g : Grw H1 (upd H1 t (.tup vs)) := Grw.upd ht
      exact q (.ref t) l1 _ (y1.trans (Ext.grow y1.wok g)) (.sh (.tup (SqT.of upd_same) (r1.grw g)))
    · rw [if_neg hz] at q
      exact q.elim
theorem je_lst (ha : PA X es (rdA X.K T W As)) : PE X (.List es pos) (rdE X.K T W (eLst As)) := by
  refine pe_imp (pe_lst ha) ?_
  rintro s H Q ⟨Z, l, e, st, w, q⟩
  refine ⟨Z, l, e, st, w, ?_⟩
  unfold eLst at q
  cases hA : As e st with
  | bad => rw [hA] at q; exact q
  | ex c s1 => rw [hA] at q; exact q
  | ok x s1 =>
    rw [hA, R.bind_ok] at q
    by_cases hz : x.length ≤ 1000
    · rw [if_pos hz] at q
      refine fun vs l1 H1 y1 r1 => ⟨small1000 (by rw [r1.length]; exact hz), fun t ht => ?_⟩
      have g : Grw H1 (upd H1 t (.lst vs)) := Grw.upd ht
      have z := or_end (W := W) (Q := Q) (o := .nl x) y1 q
      exact z t vs _ ht g upd_same r1
    · rw [if_neg hz] at q
      exact q.elim

/-! ### and, or, not, if, chains -/
theorem rd_not {K : PySem.W.Frag} : ∀ s H Q, rdE K T W (eNot A) s H Q → tNotV (rdE K T W A) s H Q := by
  rintro s H Q ⟨Z, l, e, st, w, q⟩
  refine ⟨Z, l, e, st, w, ?_⟩
  unfold eNot at q
  cases hA : A e st with
  | bad => rw [hA] at q; exact q
  | ex c s1 => rw [hA] at q; exact q
  | ok x s1 =>
    rw [hA, R.bind_ok] at q
    intro v l1 H1 y1 r1
    cases hx : x.asB with
    | none => rw [hx] at q; exact q.elim
    | some k =>
      rw [hx, R.optv_some] at q
      obtain ⟨rfl, _⟩ := asB_of r1 hx
      exact ⟨k, rfl, q _ l1 H1 y1 (.sh (.bl _))⟩
theorem je_not (ha : PE X a (rdE X.K T W A)) : PE X (.UnaryOp .Not a pos) (rdE X.K T W (eNot A)) := pe_imp (pe_not ha) rd_not
theorem je_one {op} (h : PE X a (rdE X.K T W A)) : PE X (.BoolOp op [a] pos) (rdE X.K T W A) := pe_one h
theorem rd_and {K : PySem.W.Frag} : ∀ s H Q, rdE K T W (eAnd A B) s H Q → tAndV (rdE K T W A) (rdE K T W B) s H Q := by
  rintro s H Q ⟨Z, l, e, st, w, q⟩
  refine ⟨Z, l, e, st, w, ?_⟩
  unfold eAnd at q
  cases hA : A e st with
  | bad => rw [hA] at q; exact q
  | ex c s1 => rw [hA] at q; exact q
  | ok x s1 =>
    rw [hA, R.bind_ok] at q
    intro v l1 H1 y1 r1
    cases hx : x.asB with
    | none => rw [hx] at q; exact q.elim
    | some k =>
      rw [hx, R.optv_some] at q
      obtain ⟨rfl, _⟩ := asB_of r1 hx
      refine ⟨k, rfl, ?_⟩
      cases k with
      | false => exact q _ l1 H1 y1 (.sh (.bl _))
      | true =>
        refine ⟨Z, l1, e, s1, y1.wok, ?_⟩
        rw [if_pos rfl] at q
        cases hB : B e s1 with
        | bad => rw [hB] at q; exact q
        | ex c s2 => rw [hB] at q; exact fun l' H' y2 => q l' H' (y1.trans y2)
        | ok z s2 => rw [hB] at q; exact fun v l' H' y2 r2 => q v l' H' (y1.trans y2) (r2.ahead y1)
theorem je_and (ha : PE X a (rdE X.K T W A)) (hb : PE X (.BoolOp .And (b :: es) pos) (rdE X.K T W B)) : PE X (.BoolOp .And (a :: b :: es) pos) (rdE X.K T W (eAnd A B)) := pe_imp (pe_and ha hb) rd_and
theorem je_or (ha : PE X a (rdE X.K T W A)) (hb : PE X (.BoolOp .Or (b :: es) pos) (rdE X.K T W B)) : PE X (.BoolOp .Or (a :: b :: es) pos) (rdE X.K T W (eOr A B)) := by
  refine pe_imp (pe_or ha hb) ?_
  rintro s H Q ⟨Z, l, e, st, w, q⟩
  refine ⟨Z, l, e, st, w, ?_⟩
  unfold eOr at q
  cases hA : A e st with
  | bad => rw [hA] at q; exact q
  | ex c s1 => rw [hA] at q; exact q
  | ok x s1 =>
    rw [hA, R.bind_ok] at q
    intro v l1 H1 y1 r1
    cases hx : x.asB with
    | none => rw [hx] at q; exact q.elim
    | some k =>
      rw [hx, R.optv_some] at q
      obtain ⟨rfl, _⟩ := asB_of r1 hx
      refine ⟨k, rfl, ?_⟩
      cases k with
      | true => exact q _ l1 H1 y1 (.sh (.bl _))
      | false =>
        refine ⟨Z, l1, e, s1, y1.wok, ?_⟩
        rw [if_neg Bool.false_ne_true] at q
        cases hB : B e s1 with
        | bad => rw [hB] at q; exact q
        | ex c s2 => rw [hB] at q; exact fun l' H' y2 => q l' H' (y1.trans y2)
        | ok z s2 => rw [hB] at q; exact fun v l' H' y2 r2 => q v l' H' (y1.trans y2) (r2.ahead y1)
theorem je_if {t : TF} (hc : PT X c (rdT X.K T W t)) (ha : PE X a (rdE X.K T W A)) (hb : PE X b (rdE X.K T W B)) : PE X (.IfExp c a b pos) (rdE X.K T W (eIf t A B)) := by
  refine pe_imp (pe_ifExp hc ha hb) ?_
  rintro s H Q ⟨Z, l, e, st, w, q⟩
  refine ⟨Z, l, e, st, w, ?_⟩
  unfold eIf at q
  cases hA : t e st with
  | bad => rw [hA] at q; exact q
  | ex c s1 => rw [hA] at q; exact q
  | ok k s1 =>
    rw [hA, R.bind_ok] at q
    intro l1 H1 y1
    cases k with
    | true =>
      rw [if_pos rfl] at q ⊢
      refine ⟨Z, l1, e, s1, y1.wok, ?_⟩
      cases hB : A e s1 with
      | bad => rw [hB] at q; exact q
      | ex c s2 => rw [hB] at q; exact fun l' H' y2 => q l' H' (y1.trans y2)
      | ok z s2 => rw [hB] at q; exact fun v l' H' y2 r2 => q v l' H' (y1.trans y2) (r2.ahead y1)
    | false =>
      rw [if_neg Bool.false_ne_true] at q ⊢
      refine ⟨Z, l1, e, s1, y1.wok, ?_⟩
      cases hB : B e s1 with
      | bad => rw [hB] at q; exact q
      | ex c s2 => rw [hB] at q; exact fun l' H' y2 => q l' H' (y1.trans y2)
      | ok z s2 => rw [hB] at q; exact fun v l' H' y2 r2 => q v l' H' (y1.trans y2) (r2.ahead y1)
/-- an operation's answer as a bool -/
theorem orP_bl {K : PySem.W.Frag} {r : List Addr} {A : Addr → Prop} {H : Hp} {Q : VK} {o : OR} {k : Bool} (h : o.asB = some k) (q : ∀ H', Grw H H' → Q (.bl k) H') : orP K r A H Q o := by
  cases o with
  | v d =>
    cases d with
    | bl b => cases h; exact fun v H' g r => by cases r; exact q H' g
    | _ => cases h
  | _ => cases h
theorem rd_chain {K : PySem.W.Frag} {r r' : R2} {o o' : D → D → OR} (h : ∀ (rr : List Addr) (A : Addr → Prop) (H : Hp) (x y : V) (dx dy : D) (Q : VK), CRep K rr A H x dx → CRep K rr A H y dy → orP K rr A H Q (o dx dy) → r x y H Q)
    (h' : ∀ (rr : List Addr) (A : Addr → Prop) (H : Hp) (x y : V) (dx dy : D) (Q : VK), CRep K rr A H x dx → CRep K rr A H y dy → orP K rr A H Q (o' dx dy) → r' x y H Q) :
    ∀ s H Q, rdE K T W (eChain o o' A B C) s H Q → tChain r r' (rdE K T W A) (rdE K T W B) (rdE K T W C) s H Q := by
  rintro s H Q ⟨Z, l, e, st, w, q⟩
  refine ⟨Z, l, e, st, w, ?_⟩
  unfold eChain at q
  cases hA : A e st with
  | bad => rw [hA] at q; exact q
  | ex c s1 => rw [hA] at q; exact q
  | ok x s1 =>
    rw [hA, R.bind_ok] at q
    intro v l1 H1 y1 r1
    cases hx : x.stab with
    | none => rw [hx] at q; exact q.elim
    | some dx =>
      rw [hx, R.optv_some] at q
      refine ⟨Z, l1, e, s1, y1.wok, ?_⟩
      cases hB : B e s1 with
      | bad => rw [hB] at q; exact q
      | ex c s2 => rw [hB] at q; exact fun l' H' y2 => q l' H' (y1.trans y2)
      | ok z s2 =>
        rw [hB, R.bind_ok] at q
        intro u l2 H2 y2 r2
        cases hz : z.stab with
        | none => rw [hz] at q; exact q.elim
        | some dz =>
          rw [hz, R.optv_some] at q
          cases hk : (o dx dz).asB with
          | none => rw [hk] at q; exact q.elim
          | some k =>
            rw [hk, R.optv_some] at q
            refine h _ _ _ _ _ _ _ _ (r1.stab hx y2) (r2.stab hz (Ext.refl y2.wok)) (orP_bl hk fun H3 g => ⟨k, rfl, ?_⟩)
            have y3 := (y1.trans y2).trans (Ext.grow y2.wok g)
            cases k with
            | false =>
              rw [if_neg Bool.false_ne_true] at q ⊢
              exact q _ l2 H3 y3 (.sh (.bl _))
            | true =>
              rw [if_pos rfl] at q ⊢
              refine ⟨Z, l2, e, s2, y3.wok, ?_⟩
              cases hC : C e s2 with
              | bad => rw [hC] at q; exact q
              | ex c s3 => rw [hC] at q; exact fun l' H' y4 => q l' H' (y3.trans y4)
              | ok u3 s3 =>
                rw [hC, R.bind_ok] at q
                intro v3 l4 H4 y4 r4
                exact h' _ _ _ _ _ _ _ _ (r2.stab hz ((Ext.grow y2.wok g).trans y4)) (r4.any y4.wok) (or_end (y3.trans y4) q)
theorem je_chain {op op' : CmpOp} {o o' : D → D → OR} (ho : OpOk X (compareOp op) o) (ho' : OpOk X (compareOp op') o') (ha : PE X a (rdE X.K T W A)) (hb : PE X b (rdE X.K T W B)) (hc : PE X c (rdE X.K T W C)) (hm : lastMarks [op, op'] [b, c] = false := by rfl) :
    PE X (.Compare a [op, op'] [b, c] pos) (rdE X.K T W (eChain o o' A B C)) := by
  obtain ⟨r, h1, h2⟩ := ho
  obtain ⟨r', h1', h2'⟩ := ho'
  exact pe_imp (pe_chain h1 h1' ha hb hc (hm := hm)) (rd_chain h2 h2')
theorem jt_chain {op op' : CmpOp} {o o' : D → D → OR} (ho : OpOk X (compareOp op) o) (ho' : OpOk X (compareOp op') o') (ha : PE X a (rdE X.K T W A)) (hb : PE X b (rdE X.K T W B)) (hc : PE X c (rdE X.K T W C)) (hm : lastMarks [op, op'] [b, c] = false := by rfl) :
    PT X (.Compare a [op, op'] [b, c] pos) (rdT X.K T W (tE (eChain o o' A B C))) := by
  obtain ⟨r, h1, h2⟩ := ho
  obtain ⟨r', h1', h2'⟩ := ho'
  exact pt_imp (pt_chain h1 h1' ha hb hc (hm := hm)) (rd_test (rd_chain h2 h2'))

/-! ### tests -/
theorem rd_tand {K : PySem.W.Frag} {t u : TF} : ∀ s H Q, rdT K T W (Pz.tAnd t u) s H Q → L2.tAnd (rdT K T W t) (rdT K T W u) s H Q := by
  rintro s H Q ⟨Z, l, e, st, w, q⟩
  refine ⟨Z, l, e, st, w, ?_⟩
  unfold Pz.tAnd at q
  cases hA : t e st with
  | bad => rw [hA] at q; exact q
  | ex c s1 => rw [hA] at q; exact q
  | ok k s1 =>
    rw [hA, R.bind_ok] at q
    intro l1 H1 y1
    cases k with
    | true =>
      rw [if_pos rfl] at q ⊢
      refine ⟨Z, l1, e, s1, y1.wok, ?_⟩
      cases hB : u e s1 with
      | bad => rw [hB] at q; exact q
      | ex c s2 => rw [hB] at q; exact fun l' H' y2 => q l' H' (y1.trans y2)
      | ok z s2 => rw [hB] at q; exact fun l' H' y2 => q l' H' (y1.trans y2)
    | false =>
      rw [if_neg Bool.false_ne_true] at q ⊢
      exact q l1 H1 y1
theorem rd_tor {K : PySem.W.Frag} {t u : TF} : ∀ s H Q, rdT K T W (Pz.tOr t u) s H Q → L2.tOr (rdT K T W t) (rdT K T W u) s H Q := by
  rintro s H Q ⟨Z, l, e, st, w, q⟩
  refine ⟨Z, l, e, st, w, ?_⟩
  unfold Pz.tOr at q
  cases hA : t e st with
  | bad => rw [hA] at q; exact q
  | ex c s1 => rw [hA] at q; exact q
  | ok k s1 =>
    rw [hA, R.bind_ok] at q
    intro l1 H1 y1
    cases k with
    | true =>
      rw [if_pos rfl] at q ⊢
      exact q l1 H1 y1
    | false =>
      rw [if_neg Bool.false_ne_true] at q ⊢
      refine ⟨Z, l1, e, s1, y1.wok, ?_⟩
      cases hB : u e s1 with
      | bad => rw [hB] at q; exact q
      | ex c s2 => rw [hB] at q; exact fun l' H' y2 => q l' H' (y1.trans y2)
      | ok z s2 => rw [hB] at q; exact fun l' H' y2 => q l' H' (y1.trans y2)
theorem jw_and1 {t : TF} (h : PT X a (rdT X.K T W t)) : PW X (.BoolOp .And [a] pos) (rdT X.K T W t) := pw_and1 h
theorem jw_or1 {t : TF} (h : PT X a (rdT X.K T W t)) : PW X (.BoolOp .Or [a] pos) (rdT X.K T W t) := pw_or1 h
theorem jw_and {t u : TF} (h : PT X a (rdT X.K T W t)) (hb : PW X (.BoolOp .And (b :: es) pos) (rdT X.K T W u)) : PW X (.BoolOp .And (a :: b :: es) pos) (rdT X.K T W (Pz.tAnd t u)) :=
  ⟨fun whole pins s σ H Q I q => (pw_and h hb).run whole pins s σ H Q I (rd_tand _ _ _ q)⟩
theorem jw_or {t u : TF} (h : PT X a (rdT X.K T W t)) (hb : PW X (.BoolOp .Or (b :: es) pos) (rdT X.K T W u)) : PW X (.BoolOp .Or (a :: b :: es) pos) (rdT X.K T W (Pz.tOr t u)) :=
  ⟨fun whole pins s σ H Q I q => (pw_or h hb).run whole pins s σ H Q I (rd_tor _ _ _ q)⟩
theorem jt_w {t : TF} (h : PW X a (rdT X.K T W t)) : PT X a (rdT X.K T W t) := h.pt
theorem jt_not {t : TF} (h : PT X a (rdT X.K T W t)) : PT X (.UnaryOp .Not a pos) (rdT X.K T W (Pz.tNot t)) := by
  refine pt_imp (pt_not h) ?_
  rintro s H Q ⟨Z, l, e, st, w, q⟩
  refine ⟨Z, l, e, st, w, ?_⟩
  unfold Pz.tNot at q
  cases hA : t e st with
  | bad => rw [hA] at q; exact q
  | ex c s1 => rw [hA] at q; exact q
  | ok k s1 => rw [hA, R.bind_ok] at q; exact q

/-! ### fields -/
/-- what the text says of the classes -/
structure ClsOk (K : PySem.W.Frag) (T : CT) (c : Nat) : Prop where
  cl : Cls K (T.ad c)
  na : ∀ n ∈ T.names c, NoAttr K (T.ad c) n
  nd : (T.names c).Nodup
theorem lookup_zip : ∀ {ns : List Str} {vs : List V} {f : Nat} {n : Str} {v : V}, ns.Nodup → ns[f]? = some n → vs[f]? = some v → (ns.zip vs).lookup n = some v
  | [], _, _, _, _, _, h, _ => by simp at h
  | _ :: _, [], _, _, _, _, _, h => by simp at h
  | m :: ns, u :: vs, 0, n, v, _, h1, h2 => by
    simp at h1 h2; subst h1 h2
    simp [List.zip_cons_cons, List.lookup]
  | m :: ns, u :: vs, f + 1, n, v, nd, h1, h2 => by
    have nd' := List.nodup_cons.mp nd
    have hm : n ∈ ns := List.mem_iff_getElem?.mpr ⟨f, by simpa using h1⟩
    have ne : n ≠ m := fun q => nd'.1 (q ▸ hm)
    rw [List.zip_cons_cons, List.lookup_cons, beq_false_of_ne ne]
    exact lookup_zip nd'.2 (by simpa using h1) (by simpa using h2)
theorem ObOk.ins {K : PySem.W.Frag} {r : List Addr} {A : Addr → Prop} {H : Hp} {y : Addr × Addr × List V} {ob : Ob} {c : Nat} (h : ObOk K T r A H y ob) (hc : ob.cls = c) (h0 : c ≠ 0) :
    H y.1 = some (.ins (T.ad c) y.2.1 ((T.names c).zip y.2.2)) ∧ y.2.2.length ≤ (T.names c).length := by
  obtain ⟨_, h⟩ := h
  rw [hc] at h
  cases c with
  | zero => exact absurd rfl h0
  | succ c => exact h
theorem rho_get {l : Lay} {k : Nat} {p : Addr} (h : (rho l)[k]? = some p) : ∃ dx vs, l[k]? = some (p, dx, vs) := by
  unfold rho at h
  rw [List.getElem?_map] at h
  cases q : l[k]? with
  | none => rw [q] at h; cases h
  | some y => rw [q] at h; cases h; exact ⟨y.2.1, y.2.2, rfl⟩
theorem getF_some {s : Store} {c k f : Nat} {x : Slot} (h : getF s c k f = some x) : ∃ ob, s.obs[k]? = some ob ∧ ob.cls = c ∧ ob.fs[f]? = some x := by
  unfold getF at h
  cases q : s.obs[k]? with
  | none => rw [q] at h; cases h
  | some ob =>
    rw [q, Option.bind_some] at h
    by_cases hc : ob.cls = c
    · rw [if_pos hc] at h; exact ⟨ob, rfl, hc, h⟩
    · rw [if_neg hc] at h; cases h
/-- o.f: the class's number c, the field's place f and name n -/
theorem je_F {n : Str} {cn f : Nat} (hcls : ClsOk X.K T cn) (ha : PE X a (rdE X.K T W A)) (hf : (T.names cn)[f]? = some n := by rfl) (h0 : cn ≠ 0 := by decide)
    (hb : attributeBase a n X.env (eval a X.env) = eval a X.env := by rfl) : PE X (.Attribute a n pos) (rdE X.K T W (eF cn A f)) := by
  refine pe_imp (pe_fld ha hb) ?_
  rintro s H Q ⟨Z, l, e, st, w, q⟩
  refine ⟨Z, l, e, st, w, ?_⟩
  unfold eF at q
  cases hA : A e st with
  | bad => rw [hA] at q; exact q
  | ex c s1 => rw [hA] at q; exact q
  | ok x s1 =>
    rw [hA, R.bind_ok] at q
    intro v l1 H1 y1 r1
    cases hx : x.asO with
    | none => rw [hx] at q; exact q.elim
    | some k =>
      rw [hx, R.optv_some] at q
      obtain ⟨p, rfl, hk⟩ := asO_of r1 hx
      obtain ⟨dx, vs, hl⟩ := rho_get hk
      cases hg : getF s1 cn k f with
      | none => rw [hg] at q; exact q.elim
      | some sl =>
        rw [hg, R.optv_some] at q
        obtain ⟨ob, h1, h2, h3⟩ := getF_some hg
        have ok := Paired.get y1.wok.stor hl h1
        obtain ⟨i1, i2⟩ := ok.ins h2 h0
        obtain ⟨u, hu, fr⟩ := Paired.at ok.1 h3
        have hmem : n ∈ T.names cn := List.mem_iff_getElem?.mpr ⟨f, hf⟩
        refine ⟨p, _, _, _, u, rfl, i1, hcls.cl, hcls.na n hmem, lookup_zip hcls.nd hf hu, ?_⟩
        cases sl with
        | sh d => cases fr with | sh fr => exact q u l1 H1 y1 (.sh fr)
        | ow d => exact q u l1 H1 y1 (.fb hl hu h1 h3)
end
end Pz

/-! Operations on values. -/
namespace Pz
open PySem (Str)

def oAdd : D → D → OR
  | .int i, .int j => .v (.int (i + j))
  | .str a, .str b => if a.length + b.length ≤ 16777216 then .v (.str (a ++ b)) else .bad
  | .lst a, .lst b => if a.length + b.length ≤ 16777216 then .nl (a ++ b) else .bad
  | .tup a, .tup b => if a.length + b.length ≤ 16777216 then .v (.tup (a ++ b)) else .bad
  | _, _ => .bad
/-- +=: ints, texts -/
def oAddI : D → D → OR
  | .int i, .int j => .v (.int (i + j))
  | .str a, .str b => if a.length + b.length ≤ 16777216 then .v (.str (a ++ b)) else .bad
  | _, _ => .bad
def oSub : D → D → OR
  | .int i, .int j => .v (.int (i - j))
  | _, _ => .bad
def oMul : D → D → OR
  | .int i, .int j => if i.natAbs.log2 + j.natAbs.log2 < 1000000 then .v (.int (i * j)) else .bad
  | _, _ => .bad
def oFDiv : D → D → OR
  | .int i, .int j => if 0 < j ∧ j.natAbs.log2 < 9000 then .v (.int (i / j)) else .bad
  | _, _ => .bad
def oMod : D → D → OR
  | .int i, .int j => if 0 < j then .v (.int (i % j)) else .bad
  | _, _ => .bad
def oPow : D → D → OR
  | .int i, .int j => if 0 ≤ j ∧ j ≤ 1000000 ∧ i.natAbs < 2 ^ 64 then .v (.int (i ^ j.toNat)) else .bad
  | _, _ => .bad
def oLt : D → D → OR
  | .int i, .int j => .v (.bl (decide (i < j)))
  | .str i, .str j => .v (.bl (decide (i.cps.toList < j.cps.toList)))
  | _, _ => .bad
def oLe : D → D → OR
  | .int i, .int j => .v (.bl (decide (i ≤ j)))
  | .str i, .str j => .v (.bl (!decide (j.cps.toList < i.cps.toList)))
  | _, _ => .bad
def oGt : D → D → OR
  | .int i, .int j => .v (.bl (decide (j < i)))
  | .str i, .str j => .v (.bl (decide (j.cps.toList < i.cps.toList)))
  | _, _ => .bad
def oGe : D → D → OR
  | .int i, .int j => .v (.bl (decide (j ≤ i)))
  | .str i, .str j => .v (.bl (!decide (i.cps.toList < j.cps.toList)))
  | _, _ => .bad
mutual
/-- == -/
def eqD : D → D → Bool
  | .non, .non => true
  | .bl a, .bl b => a == b
  | .bl a, .int b => (if a then 1 else 0) == b
  | .int a, .bl b => a == (if b then 1 else 0)
  | .int a, .int b => a == b
  | .str a, .str b => a == b
  | .lst a, .lst b => eqDs a b
  | .tup a, .tup b => eqDs a b
  | _, _ => false
def eqDs : List D → List D → Bool
  | [], [] => true
  | a :: as, b :: bs => eqD a b && eqDs as bs
  | _, _ => false
end
/-- data that is compared: no objects, no dicts, not too deep -/
def lay : Nat → D → Bool
  | _, .non => true
  | _, .bl _ => true
  | _, .int _ => true
  | _, .str x => x.cps.all (· < 0x110000)
  | n + 1, .lst xs => xs.all (lay n)
  | n + 1, .tup xs => xs.all (lay n)
  | _, _ => false
def oEq (a b : D) : OR := if lay 64 a = true ∧ lay 64 b = true then .v (.bl (eqD a b)) else .bad
def oNe (a b : D) : OR := if lay 64 a = true ∧ lay 64 b = true then .v (.bl (!eqD a b)) else .bad
def isN : D → Bool
  | .non => true
  | _ => false
def oIs : D → D → OR
  | a, .non => .v (.bl (isN a))
  | .bl a, .bl b => .v (.bl (a == b))
  | _, _ => .bad
def oIsN : D → D → OR
  | a, .non => .v (.bl (!isN a))
  | .bl a, .bl b => .v (.bl (!(a == b)))
  | _, _ => .bad
/-- flat data in a row; data at any depth in a list; a sign in a text -/
def flatD : D → Bool
  | .non | .bl _ | .int _ | .str _ => true
  | _ => false
def oInB : D → D → Option Bool
  | .str c, .str z => match c.cps.toList with
    | [c] => some (decide (c ∈ z.cps.toList))
    | _ => none
  | x, .tup ys => if flatD x && ys.all flatD then some (ys.any fun y => eqD y x) else none
  | x, .lst ys => if lay 64 x && lay 64 (.lst ys) then some (ys.any fun y => eqD y x) else none
  | _, _ => none
def oIn (x y : D) : OR := match oInB x y with
  | some b => .v (.bl b)
  | none => .bad
def oNotIn (x y : D) : OR := match oInB x y with
  | some b => .v (.bl (!b))
  | none => .bad
def oNeg : D → OR
  | .int i => .v (.int (-i))
  | _ => .bad
/-- a[i] -/
def oIx : D → D → OR
  | .lst xs, .int i => match (ixP xs.length i).bind (xs[·]?) with
    | some d => .v d
    | none => .bad
  | .tup xs, .int i => match (ixP xs.length i).bind (xs[·]?) with
    | some d => .v d
    | none => .bad
  | .str z, .int i => if z.length ≤ 16777216 then match (ixP z.cps.toList.length i).bind (z.cps.toList[·]?) with
    | some c => .v (.str ⟨#[c]⟩)
    | none => .bad else .bad
  | _, _ => .bad

/-! ### built-ins -/
def oLen : List D → OR
  | [.lst xs] => .v (.int xs.length)
  | [.tup xs] => .v (.int xs.length)
  | [.str z] => if z.length ≤ 16777216 then .v (.int z.length) else .bad
  | _ => .bad
def oInt : List D → OR
  | [.int i] => .v (.int i)
  | [.bl b] => .v (.int (if b then 1 else 0))
  | _ => .bad
def oAbs : List D → OR
  | [.int i] => .v (.int (if i < 0 then -i else i))
  | _ => .bad
def oMax : List D → OR
  | [.int i, .int j] => .v (.int (if j > i then j else i))
  | _ => .bad
def oMin : List D → OR
  | [.int i, .int j] => .v (.int (if j < i then j else i))
  | _ => .bad
def oStr : List D → OR
  | [.int i] => if i.natAbs.log2 < 1920 then .v (.str (Str.ofString (toString i))) else .bad
  | _ => .bad
def oOrd : List D → OR
  | [.str x] => if x.length = 1 then .v (.int (x.cps.getD 0 0 : Nat)) else .bad
  | _ => .bad
def oList : List D → OR
  | [.lst xs] => .nl xs
  | [.tup xs] => .nl xs
  | _ => .bad
def oTuple : List D → OR
  | [.lst xs] => .v (.tup xs)
  | [.tup xs] => .v (.tup xs)
  | _ => .bad
end Pz

/-! Statements: the rules. -/
namespace Pz
open PySem L2

section
variable {K : PySem.W.Frag} {T : CT} {W : WX} {Z : Addr → Prop} {H H' H0 H1 H2 : Hp} {l l' l1 l2 : Lay} {s s' s1 s2 : List (Option V)} {e e' e1 e2 : Env} {st st' st1 st2 : Store}

def volS (s : List (Option V)) (e : Env) (l : Lay) (st : Store) : Addr → Prop := fun a => a ∈ ownsE s e ∨ vol l st a
/-- a step of a statement -/
structure SExt (K : PySem.W.Frag) (T : CT) (Z : Addr → Prop) (s : List (Option V)) (e : Env) (l : Lay) (H : Hp) (st : Store) (s' : List (Option V)) (e' : Env) (l' : Lay) (H' : Hp) (st' : Store) : Prop where
  wok : Wok K T Z l' s' e' H' st'
  step : Step (volS s e l st) H H'
  fe : ∀ a, a ∈ ownsE s' e' → a ∈ ownsE s e ∨ H a = none
  fo : ∀ a, a ∈ fpO l' st'.obs → a ∈ ownsE s e ++ fpO l st.obs ∨ H a = none
  pre : Pre (rho l) (rho l')
  lk : st'.lk = st.lk
  lkd : st.lk = true → l' = l ∧ st'.obs = st.obs
theorem Ext.toS (x : Ext K T Z s e l H st l' H' st') : SExt K T Z s e l H st s e l' H' st' :=
  ⟨x.wok, x.step.mono fun _ _ q => .inr q, fun a h => .inl h, fun a h => (x.fp a h).imp (List.mem_append_right _) id, x.pre, x.lk, x.lkd⟩
theorem SExt.fp (x : SExt K T Z s e l H st s' e' l' H' st') : ∀ a, a ∈ ownsE s' e' ++ fpO l' st'.obs → a ∈ ownsE s e ++ fpO l st.obs ∨ H a = none := fun a h => by
  rcases List.mem_append.mp h with h | h
  · exact (x.fe a h).imp (List.mem_append_left _) id
  · exact x.fo a h
theorem SExt.refl (w : Wok K T Z l s e H st) : SExt K T Z s e l H st s e l H st := (Ext.refl w).toS
theorem SExt.trans (a : SExt K T Z s e l H st s1 e1 l1 H1 st1) (w1 : Wok K T Z l1 s1 e1 H1 st1) (b : SExt K T Z s1 e1 l1 H1 st1 s2 e2 l2 H2 st2) : SExt K T Z s e l H st s2 e2 l2 H2 st2 where
  wok := b.wok
  step := a.step.trans b.step fun x hx q => by
    have go : x ∈ ownsE s1 e1 ++ fpO l1 st1.obs → (st.lk = true → x ∉ fpO l st.obs) → volS s e l st x := fun h n => by
      rcases a.fp x h with h | h
      · rcases List.mem_append.mp h with h | h
        · exact .inl h
        · cases hk : st.lk with
          | false => exact .inr ⟨hk, h⟩
          | true => exact absurd h (n hk)
      · exact absurd h hx
    rcases q with q | q
    · refine go (List.mem_append_left _ q) fun hk z => ?_
      obtain ⟨h1, h2⟩ := a.lkd hk
      have nd := w1.nd
      rw [h1, h2, List.nodup_append] at nd
      exact nd.2.2 x q x z rfl
    · refine go (List.mem_append_right _ q.2) fun hk => ?_
      have := q.1
      rw [a.lk, hk] at this
      cases this
  fe := fun x hx => by
    rcases b.fe x hx with h | h
    · exact a.fe x h
    · refine .inr ?_
      cases q : H x with
      | none => rfl
      | some o => exact absurd h (a.step.trk x (by rw [q]; simp))
  fo := fun x hx => by
    rcases b.fo x hx with h | h
    · exact a.fp x h
    · refine .inr ?_
      cases q : H x with
      | none => rfl
      | some o => exact absurd h (a.step.trk x (by rw [q]; simp))
  pre := a.pre.trans b.pre
  lk := b.lk.trans a.lk
  lkd := fun h => by
    obtain ⟨h1, h2⟩ := a.lkd h
    obtain ⟨h3, h4⟩ := b.lkd (by rw [a.lk]; exact h)
    exact ⟨h3.trans h1, h4.trans h2⟩
theorem SExt.tr (a : SExt K T Z s e l H st s1 e1 l1 H1 st1) (b : SExt K T Z s1 e1 l1 H1 st1 s2 e2 l2 H2 st2) : SExt K T Z s e l H st s2 e2 l2 H2 st2 := a.trans a.wok b
theorem SExt.new (a : SExt K T Z s e l H st s1 e1 l1 H1 st1) {x : Addr} (h : H1 x = none) : H x = none := by
  cases q : H x with
  | none => rfl
  | some o => exact absurd h (a.step.trk x (by rw [q]; simp))

/-- .. that leaves as many slots -/
structure NExt (K : PySem.W.Frag) (T : CT) (Z : Addr → Prop) (s : List (Option V)) (e : Env) (l : Lay) (H : Hp) (st : Store) (s' : List (Option V)) (e' : Env) (l' : Lay) (H' : Hp) (st' : Store) : Prop where
  x : SExt K T Z s e l H st s' e' l' H' st'
  len : s'.length = s.length
theorem Ext.toN (x : Ext K T Z s e l H st l' H' st') : NExt K T Z s e l H st s e l' H' st' := ⟨x.toS, rfl⟩
theorem NExt.refl (w : Wok K T Z l s e H st) : NExt K T Z s e l H st s e l H st := (Ext.refl w).toN
theorem NExt.tr (a : NExt K T Z s e l H st s1 e1 l1 H1 st1) (b : NExt K T Z s1 e1 l1 H1 st1 s2 e2 l2 H2 st2) : NExt K T Z s e l H st s2 e2 l2 H2 st2 := ⟨a.x.tr b.x, b.len.trans a.len⟩

theorem SExt.av (a : SExt K T Z s e l H st s1 e1 l1 H1 st1) {x : Addr} (hx : H x ≠ none) (h : ¬ AV Z s e l st.obs x) : ¬ AV Z s1 e1 l1 st1.obs x := fun q => by
  rcases q with q | q | q
  · exact h (.inl q)
  · rcases a.fe x q with z | z
    · exact h (.inr (.inl z))
    · exact hx z
  · rcases a.fo x q with z | z
    · rcases List.mem_append.mp z with z | z
      · exact h (.inr (.inl z))
      · exact h (.inr (.inr z))
    · exact hx z
theorem volS_sub {x : Addr} (h : volS s e l st x) : AV Z s e l st.obs x := by
  rcases h with h | h
  · exact .inr (.inl h)
  · exact .inr (.inr h.2)
theorem SExt.reps (a : SExt K T Z s e l H st s1 e1 l1 H1 st1) {v : List V} {d : List D} (h : Reps K (rho l) (AV Z s e l st.obs) H v d) : Reps K (rho l1) (AV Z s1 e1 l1 st1.obs) H1 v d :=
  h.step a.step a.pre (fun _ q => volS_sub q) fun _ q n => a.av q n
theorem SExt.rep (a : SExt K T Z s e l H st s1 e1 l1 H1 st1) {v : V} {d : D} (h : Rep K (rho l) (AV Z s e l st.obs) H v d) : Rep K (rho l1) (AV Z s1 e1 l1 st1.obs) H1 v d :=
  h.step a.step a.pre (fun _ q => volS_sub q) fun _ q n => a.av q n

def rdS (K : PySem.W.Frag) (T : CT) (W : WX) (B : SF) : TS := fun D s H => ∃ (Z : Addr → Prop) (l : Lay) (e : Env) (st : Store), Wok K T Z l s e H st ∧ match B e st with
  | .nx e' st' => ∀ s' l' H', NExt K T Z s e l H st s' e' l' H' st' → D.nx s' H'
  | .bk e' st' => ∀ s' l' H', NExt K T Z s e l H st s' e' l' H' st' → D.bk s' H'
  | .ct e' st' => ∀ s' l' H', NExt K T Z s e l H st s' e' l' H' st' → D.ct s' H'
  | .ex c e' st' => ∀ s' l' H', NExt K T Z s e l H st s' e' l' H' st' → W (T.err c) none s' H'
  | .rt x st' => ∀ v l' H', SExt K T Z s e l H st [] [] l' H' st' → VRep K T Z [] [] l' H' st' (fun a => H a = none ∨ a ∈ ownsE s e) v x → D.rt v H'
  | .bad => False

/-- what follows a statement's outcome, told once: G is what is wanted of it -/
def outP (K : PySem.W.Frag) (T : CT) (W : WX) (D : Ends) (Z : Addr → Prop) (s : List (Option V)) (e : Env) (l : Lay) (H : Hp) (st : Store) : Out → Prop
  | .nx e' st' => ∀ s' l' H', NExt K T Z s e l H st s' e' l' H' st' → D.nx s' H'
  | .bk e' st' => ∀ s' l' H', NExt K T Z s e l H st s' e' l' H' st' → D.bk s' H'
  | .ct e' st' => ∀ s' l' H', NExt K T Z s e l H st s' e' l' H' st' → D.ct s' H'
  | .ex c e' st' => ∀ s' l' H', NExt K T Z s e l H st s' e' l' H' st' → W (T.err c) none s' H'
  | .rt x st' => ∀ v l' H', SExt K T Z s e l H st [] [] l' H' st' → VRep K T Z [] [] l' H' st' (fun a => H a = none ∨ a ∈ ownsE s e) v x → D.rt v H'
  | .bad => False
theorem rdS_iff {B : SF} {D : Ends} {s : St} {H : Hp} : rdS K T W B D s H ↔ ∃ (Z : Addr → Prop) (l : Lay) (e : Env) (st : Store), Wok K T Z l s e H st ∧ outP K T W D Z s e l H st (B e st) := by
  constructor
  · rintro ⟨Z, l, e, st, w, q⟩
    refine ⟨Z, l, e, st, w, ?_⟩
    cases h : B e st <;> rw [h] at q <;> exact q
  · rintro ⟨Z, l, e, st, w, q⟩
    refine ⟨Z, l, e, st, w, ?_⟩
    cases h : B e st <;> rw [h] at q <;> exact q
theorem rds_mk {B : SF} {D : Ends} (w : Wok K T Z l s e H st) (q : outP K T W D Z s e l H st (B e st)) : rdS K T W B D s H := rdS_iff.mpr ⟨Z, l, e, st, w, q⟩
theorem VRep.aheadS {v : V} {x : Val} (h : VRep K T Z s2 e2 l2 H2 st2 (fun a => H1 a = none ∨ a ∈ ownsE s1 e1) v x) (y : SExt K T Z s e l H st s1 e1 l1 H1 st1) : VRep K T Z s2 e2 l2 H2 st2 (fun a => H a = none ∨ a ∈ ownsE s e) v x := by
  cases h with
  | sh h => exact .sh h
  | ow h1 hz h2 h3 =>
    refine .ow ?_ hz h2 h3
    rcases h1 with h1 | h1
    · exact .inl (y.new h1)
    · exact (y.fe _ h1).symm
  | bw h1 h2 => exact .bw h1 h2
  | fb h1 h2 h3 h4 => exact .fb h1 h2 h3 h4
/-- an outcome seen from further ahead -/
theorem outP.ahead {D : Ends} {o : Out} (y : NExt K T Z s e l H st s1 e1 l1 H1 st1) (h : outP K T W D Z s e l H st o) : outP K T W D Z s1 e1 l1 H1 st1 o := by
  cases o with
  | nx e' st' => exact fun s' l' H' x => h s' l' H' (y.tr x)
  | bk e' st' => exact fun s' l' H' x => h s' l' H' (y.tr x)
  | ct e' st' => exact fun s' l' H' x => h s' l' H' (y.tr x)
  | ex c e' st' => exact fun s' l' H' x => h s' l' H' (y.tr x)
  | rt x st' => exact fun v l' H' z r => h v l' H' (y.x.tr z) (r.aheadS y.x)
  | bad => exact h
/-- another end where the block goes on -/
theorem outP.then {D : Ends} {N : St → Hp → Prop} {o : Out} {f : Env → Store → Out} (h : outP K T W D Z s e l H st (o.then f))
    (hn : ∀ e' st', o = .nx e' st' → ∀ s' l' H', NExt K T Z s e l H st s' e' l' H' st' → outP K T W D Z s' e' l' H' st' (f e' st') → N s' H') : outP K T W { D with nx := N } Z s e l H st o := by
  cases o with
  | nx e' st' => exact fun s' l' H' x => hn e' st' rfl s' l' H' x (outP.ahead x h)
  | bk e' st' => exact h
  | ct e' st' => exact h
  | ex c e' st' => exact h
  | rt x st' => exact h
  | bad => exact h
end

section
variable {X : Cx} {T : CT} {W : WX} {pos p : Pos} {a b c x : Expr} {A B : EF} {S1 S2 : SF} {sn : Stmt} {sts rest : List Stmt}
theorem js_nil : PSs X [] (rdS X.K T W sPass) := pss_imp pss_nil fun D s H q => by
  obtain ⟨Z, l, e, st, w, q⟩ := rdS_iff.mp q
  exact q s l H (NExt.refl w)
theorem js_seq (h1 : PS X sn (rdS X.K T W S1)) (h2 : PSs X rest (rdS X.K T W S2)) : PSs X (sn :: rest) (rdS X.K T W (sSeq S1 S2)) := pss_imp (pss_cons h1 h2) fun D s H q => by
  obtain ⟨Z, l, e, st, w, q⟩ := rdS_iff.mp q
  exact rds_mk w (outP.then q fun e' st' _ s' l' H' x o => rds_mk x.x.wok o)
theorem js_one (h : PS X sn (rdS X.K T W S1)) : PSs X [sn] (rdS X.K T W S1) := pss_one h
theorem js_pass : PS X (.Pass pos) (rdS X.K T W sPass) := ps_imp ps_pass fun D s H q => by
  obtain ⟨Z, l, e, st, w, q⟩ := rdS_iff.mp q
  exact q s l H (NExt.refl w)
theorem js_brk : PS X (.Break pos) (rdS X.K T W sBrk) := ps_imp ps_break fun D s H q => by
  obtain ⟨Z, l, e, st, w, q⟩ := rdS_iff.mp q
  exact q s l H (NExt.refl w)
theorem js_cnt : PS X (.Continue pos) (rdS X.K T W sCnt) := ps_imp ps_continue fun D s H q => by
  obtain ⟨Z, l, e, st, w, q⟩ := rdS_iff.mp q
  exact q s l H (NExt.refl w)
/-- an expression ahead of a statement's own end -/
theorem rd_out {K : PySem.W.Frag} {D : Ends} {Z : Addr → Prop} {l : Lay} {s : List (Option V)} {e : Env} {H : Hp} {st : Store} {f : Val → Store → Out} {Q : VK} (w : Wok K T Z l s e H st) (q : outP K T W D Z s e l H st ((A e st).out e f))
    (hq : ∀ v x st' l' H', A e st = .ok x st' → Ext K T Z s e l H st l' H' st' → VRep K T Z s e l' H' st' (fun a => H a = none) v x → outP K T W D Z s e l H st (f x st') → Q v H') : rdE K T W A s H Q := by
  refine ⟨Z, l, e, st, w, ?_⟩
  cases hA : A e st with
  | bad => rw [hA] at q; exact q
  | ex c s1 => rw [hA] at q; exact fun l' H' y => q s l' H' y.toN
  | ok x s1 => rw [hA, R.out_ok] at q; exact fun v l' H' y r => hq v x s1 l' H' hA y r q
theorem rd_outT {K : PySem.W.Frag} {D : Ends} {Z : Addr → Prop} {l : Lay} {s : List (Option V)} {e : Env} {H : Hp} {st : Store} {t : TF} {f : Bool → Store → Out} {Q : Bool → Hp → Prop} (w : Wok K T Z l s e H st) (q : outP K T W D Z s e l H st ((t e st).out e f))
    (hq : ∀ k st' l' H', t e st = .ok k st' → Ext K T Z s e l H st l' H' st' → outP K T W D Z s e l H st (f k st') → Q k H') : rdT K T W t s H Q := by
  refine ⟨Z, l, e, st, w, ?_⟩
  cases hA : t e st with
  | bad => rw [hA] at q; exact q
  | ex c s1 => rw [hA] at q; exact fun l' H' y => q s l' H' y.toN
  | ok x s1 => rw [hA, R.out_ok] at q; exact fun l' H' y => hq x s1 l' H' hA y q
theorem js_if {t : TF} {as bs : List Stmt} (hc : PT X c (rdT X.K T W t)) (ha : PSs X as (rdS X.K T W S1)) (hb : PSs X bs (rdS X.K T W S2)) : PS X (.If c as bs pos) (rdS X.K T W (sIf t S1 S2)) := ps_imp (ps_if hc ha hb) fun D s H q => by
  obtain ⟨Z, l, e, st, w, q⟩ := rdS_iff.mp q
  refine rd_outT w q fun k st' l' H' _ y q => ?_
  cases k with
  | true => rw [if_pos rfl] at q ⊢; exact rds_mk y.wok (outP.ahead y.toN q)
  | false => rw [if_neg Bool.false_ne_true] at q ⊢; exact rds_mk y.wok (outP.ahead y.toN q)
theorem js_expr (ha : PE X a (rdE X.K T W A)) (hs : swapsWith a none pos.line X.env = pure false := by rfl) : PS X (.Expr a pos) (rdS X.K T W (sExpr A)) := ps_imp (ps_expr ha hs) fun D s H q => by
  obtain ⟨Z, l, e, st, w, q⟩ := rdS_iff.mp q
  exact rd_out w q fun v x st' l' H' _ y _ q => q s l' H' y.toN
/-- a def's end: the slots are left -/
theorem Wok.leave {K : PySem.W.Frag} {Z : Addr → Prop} {l : Lay} {s : List (Option V)} {e : Env} {H : Hp} {st : Store} (w : Wok K T Z l s e H st) : Wok K T Z l [] [] H st :=
  ⟨.nil, Paired.mono w.stor fun _ _ _ _ z => z.step (Step.refl (fun _ => False) H) (Pre.refl _) (fun _ z => z.elim) (fun a _ n z => n (by
    rcases z with z | z | z
    · exact .inl z
    · simp [ownsE] at z
    · exact .inr (.inr z))) (fun z => z) fun _ _ z => z, (List.nodup_append.mp w.nd).2.1, w.zt, fun a h => w.zd a (List.mem_append_right _ h)⟩
theorem Wok.leaveS {K : PySem.W.Frag} {Z : Addr → Prop} {l : Lay} {s : List (Option V)} {e : Env} {H : Hp} {st : Store} (w : Wok K T Z l s e H st) : SExt K T Z s e l H st [] [] l H st :=
  ⟨w.leave, Step.refl _ _, fun a h => (by simp [ownsE] at h), fun a h => .inl (List.mem_append_right _ h), Pre.refl _, rfl, fun _ => ⟨rfl, rfl⟩⟩
theorem js_retN : PS X (.Return none pos) (rdS X.K T W sRetN) := ps_imp ps_retN fun D s H q => by
  obtain ⟨Z, l, e, st, w, q⟩ := rdS_iff.mp q
  exact q .non l H w.leaveS (.sh .non)
theorem av_nil {Z : Addr → Prop} {l : Lay} {s : List (Option V)} {e : Env} {obs : List Ob} : ∀ a, AV Z [] [] l obs a → AV Z s e l obs a := fun a z => by
  rcases z with z | z | z
  · exact .inl z
  · simp [ownsE] at z
  · exact .inr (.inr z)
theorem rd_ret {K : PySem.W.Frag} : ∀ (D : Ends) (s : L2.St) (H : Hp), rdS K T W (sRet A) D s H → tRet (rdE K T W A) D s H := fun D s H q => by
  obtain ⟨Z, l, e, st, w, q⟩ := rdS_iff.mp q
  refine rd_out w q fun v x st' l' H' _ y r q => ?_
  cases x with
  | sh d =>
    cases r with
    | sh r => exact q v l' H' (y.toS.tr y.wok.leaveS) (.sh (r.weak av_nil))
  | ow d =>
    cases r with
    | ow h1 hz h2 h3 => exact q _ l' H' (y.toS.tr y.wok.leaveS) (.ow (.inl h1) hz h2.leave (h3.weak av_nil))
  | bw i d => exact q.elim
  | fb k f d => exact q.elim
theorem js_ret (ha : PE X a (rdE X.K T W A)) : PS X (.Return (some a) pos) (rdS X.K T W (sRet A)) := ps_imp (ps_ret ha) rd_ret

/-! ### slots stored -/
theorem ownsE_split : ∀ {s : List (Option V)} {e : Env} (i : Nat), i < s.length → i < e.length → ∃ L1 M L2 : List Addr, ownsE s e = L1 ++ (M ++ L2) ∧ (∀ v d, ownsE (s.set i (some v)) (e.set i (some (.sh d))) = L1 ++ L2) ∧ (∀ a d, ownsE (s.set i (some (.ref a))) (e.set i (some (.ow d))) = L1 ++ a :: L2) ∧
    (∀ v, ownsE (s.set i v) (e.set i none) = L1 ++ L2) ∧ (∀ a, a ∈ M → ∃ d, s[i]? = some (some (.ref a)) ∧ e[i]? = some (some (.ow d))) ∧ M.length ≤ 1
  | [], _, i, h, _ => by simp at h
  | _ :: _, [], i, _, h => by simp at h
  | x :: s, y :: e, 0, _, _ => by
    have hM : ∃ M : List Addr, ownsE (x :: s) (y :: e) = M ++ ownsE s e ∧ (∀ a, a ∈ M → ∃ d, (x :: s)[0]? = some (some (.ref a)) ∧ (y :: e)[0]? = some (some (.ow d))) ∧ M.length ≤ 1 := by
      cases y with
      | none => exact ⟨[], ownsE_cons_no, fun a h => (by simp at h), by simp⟩
      | some y =>
        cases y with
        | sh d => exact ⟨[], ownsE_cons_sh, fun a h => (by simp at h), by simp⟩
        | ow d =>
          cases x with
          | none => exact ⟨[], rfl, fun a h => (by simp at h), by simp⟩
          | some v =>
            cases v with
            | ref b => exact ⟨[b], rfl, fun a h => by simp at h; subst h; exact ⟨d, rfl, rfl⟩, by simp⟩
            | _ => exact ⟨[], rfl, fun a h => (by simp at h), by simp⟩
    obtain ⟨M, h1, h2, h3⟩ := hM
    exact ⟨[], M, ownsE s e, h1, fun v d => ownsE_cons_sh, fun a d => rfl, fun v => ownsE_cons_no, h2, h3⟩
  | x :: s, y :: e, i + 1, h1, h2 => by
    obtain ⟨L1, M, L2, q1, q2, q3, q4, q5, q6⟩ := ownsE_split (s := s) (e := e) i (by simpa using h1) (by simpa using h2)
    have hx : ∃ P : List Addr, ∀ s' e', ownsE (x :: s') (y :: e') = P ++ ownsE s' e' := by
      cases y with
      | none => exact ⟨[], fun s' e' => ownsE_cons_no⟩
      | some y =>
        cases y with
        | sh d => exact ⟨[], fun s' e' => ownsE_cons_sh⟩
        | ow d =>
          cases x with
          | none => exact ⟨[], fun s' e' => rfl⟩
          | some v =>
            cases v with
            | ref b => exact ⟨[b], fun s' e' => rfl⟩
            | _ => exact ⟨[], fun s' e' => rfl⟩
    obtain ⟨P, hP⟩ := hx
    refine ⟨P ++ L1, M, L2, by rw [hP, q1, List.append_assoc], fun v d => ?_, fun a d => ?_, fun v => ?_, fun a ha => ?_, q6⟩
    · rw [List.set_cons_succ, List.set_cons_succ, hP, q2, List.append_assoc]
    · rw [List.set_cons_succ, List.set_cons_succ, hP, q3, List.append_assoc]
    · rw [List.set_cons_succ, List.set_cons_succ, hP, q4, List.append_assoc]
    · obtain ⟨d, z1, z2⟩ := q5 a ha
      exact ⟨d, by simpa using z1, by simpa using z2⟩
section
variable {K : PySem.W.Frag} {Z : Addr → Prop} {H : Hp} {l : Lay} {s : List (Option V)} {e : Env} {st : Store}
theorem nodup_mid {α : Type} {L1 M L2 R : List α} (h : (L1 ++ (M ++ L2) ++ R).Nodup) : (L1 ++ L2 ++ R).Nodup :=
  List.Nodup.sublist (List.Sublist.append (List.Sublist.append (List.Sublist.refl _) (List.sublist_append_right _ _)) (List.Sublist.refl _)) h
theorem nodup_put {α : Type} {L1 L2 R : List α} {a : α} (h : (L1 ++ L2 ++ R).Nodup) (n : a ∉ L1 ++ L2 ++ R) : (L1 ++ a :: L2 ++ R).Nodup := by
  have p : List.Perm (L1 ++ a :: L2 ++ R) (a :: (L1 ++ L2 ++ R)) := by
    rw [List.append_assoc, List.append_assoc, List.cons_append]
    exact List.perm_middle
  exact p.nodup_iff.mpr (List.nodup_cons.mpr ⟨n, h⟩)
/-- a value that stays goes into the slot i -/
theorem Wok.setSh (w : Wok K T Z l s e H st) {i : Nat} {v : V} {d : D} (hi : i < e.length) (r : Rep K (rho l) (AV Z s e l st.obs) H v d) : Wok K T Z l (s.set i (some v)) (e.set i (some (.sh d))) H st ∧ ∀ a ∈ ownsE (s.set i (some v)) (e.set i (some (.sh d))), a ∈ ownsE s e := by
  obtain ⟨L1, M, L2, q1, q2, q3, q4, q5, q6⟩ := ownsE_split (s := s) (e := e) i (by rw [w.lenE]; exact hi) hi
  have sub : ∀ a ∈ ownsE (s.set i (some v)) (e.set i (some (.sh d))), a ∈ ownsE s e := fun a h => by
    rw [q2] at h
    rw [q1]
    rcases List.mem_append.mp h with h | h
    · exact List.mem_append_left _ h
    · exact List.mem_append_right _ (List.mem_append_right _ h)
  have hA : ∀ a, AV Z (s.set i (some v)) (e.set i (some (.sh d))) l st.obs a → AV Z s e l st.obs a := fun a z => by
    rcases z with z | z | z
    · exact .inl z
    · exact .inr (.inl (sub a z))
    · exact .inr (.inr z)
  have nd := w.nd
  refine ⟨⟨Paired.setI (.is (.sh (r.weak hA))) i w.slots fun j x y _ _ _ q => q.step (Step.refl (fun _ => False) H) (Pre.refl _) (fun _ z => z.elim) (fun a _ n z => n (hA a z)) fun _ _ _ _ z => z,
    Paired.mono w.stor fun _ _ _ _ q => q.step (Step.refl (fun _ => False) H) (Pre.refl _) (fun _ z => z.elim) (fun a _ n z => n (hA a z)) (fun z => z) fun _ _ z => z, ?_, w.zt, fun a h => w.zd a ?_⟩, sub⟩
  · rw [q2]; rw [q1] at nd
    exact nodup_mid nd
  · rcases List.mem_append.mp h with h | h
    · exact List.mem_append_left _ (sub a h)
    · exact List.mem_append_right _ h
/-- a list of the slot's own -/
theorem Wok.setOw {a : Addr} {d : D} {i : Nat} (w : Wok K T (fun b => Z b ∨ b = a) l s e H st) (hz : ¬ Z a) (hi : i < e.length) (r : Own K (rho l) (AV (fun b => Z b ∨ b = a) s e l st.obs) H a d) :
    Wok K T Z l (s.set i (some (.ref a))) (e.set i (some (.ow d))) H st ∧ ∀ b ∈ ownsE (s.set i (some (.ref a))) (e.set i (some (.ow d))), b ∈ ownsE s e ∨ b = a := by
  obtain ⟨L1, M, L2, q1, q2, q3, q4, q5, q6⟩ := ownsE_split (s := s) (e := e) i (by rw [w.lenE]; exact hi) hi
  have sub : ∀ b ∈ ownsE (s.set i (some (.ref a))) (e.set i (some (.ow d))), b ∈ ownsE s e ∨ b = a := fun b h => by
    rw [q3] at h
    rw [q1]
    rcases List.mem_append.mp h with h | h
    · exact .inl (List.mem_append_left _ h)
    · rcases List.mem_cons.mp h with h | h
      · exact .inr h
      · exact .inl (List.mem_append_right _ (List.mem_append_right _ h))
  have hA : ∀ b, AV Z (s.set i (some (.ref a))) (e.set i (some (.ow d))) l st.obs b → AV (fun b => Z b ∨ b = a) s e l st.obs b := fun b z => by
    rcases z with z | z | z
    · exact .inl (.inl z)
    · rcases sub b z with z | z
      · exact .inr (.inl z)
      · exact .inl (.inr z)
    · exact .inr (.inr z)
  have nd := w.nd
  have na : a ∉ ownsE s e ++ fpO l st.obs := fun h => w.zd a h (.inr rfl)
  refine ⟨⟨Paired.setI (.is (.ow (r.weak hA))) i w.slots fun j x y _ _ _ q => q.step (Step.refl (fun _ => False) H) (Pre.refl _) (fun _ z => z.elim) (fun a _ n z => n (hA a z)) fun _ _ _ _ z => z,
    Paired.mono w.stor fun _ _ _ _ q => q.step (Step.refl (fun _ => False) H) (Pre.refl _) (fun _ z => z.elim) (fun a _ n z => n (hA a z)) (fun z => z) fun _ _ z => z, ?_, fun b h => w.zt b (.inl h), fun b h => ?_⟩, sub⟩
  · rw [q3]; rw [q1] at nd na
    refine nodup_put (nodup_mid nd) fun h => na ?_
    rcases List.mem_append.mp h with h | h
    · rcases List.mem_append.mp h with h | h
      · exact List.mem_append_left _ (List.mem_append_left _ h)
      · exact List.mem_append_left _ (List.mem_append_right _ (List.mem_append_right _ h))
    · exact List.mem_append_right _ h
  · rcases List.mem_append.mp h with h | h
    · rcases sub b h with h | h
      · exact fun z => w.zd b (List.mem_append_left _ h) (.inl z)
      · subst h; exact hz
    · exact fun z => w.zd b (List.mem_append_right _ h) (.inl z)
/-- a slot is forgotten -/
theorem Wok.setNo (w : Wok K T Z l s e H st) {i : Nat} (v : Option V) (hi : i < e.length) : Wok K T Z l (s.set i v) (e.set i none) H st ∧ ∀ a ∈ ownsE (s.set i v) (e.set i none), a ∈ ownsE s e := by
  obtain ⟨L1, M, L2, q1, q2, q3, q4, q5, q6⟩ := ownsE_split (s := s) (e := e) i (by rw [w.lenE]; exact hi) hi
  have sub : ∀ a ∈ ownsE (s.set i v) (e.set i none), a ∈ ownsE s e := fun a h => by
    rw [q4] at h
    rw [q1]
    rcases List.mem_append.mp h with h | h
    · exact List.mem_append_left _ h
    · exact List.mem_append_right _ (List.mem_append_right _ h)
  have hA : ∀ a, AV Z (s.set i v) (e.set i none) l st.obs a → AV Z s e l st.obs a := fun a z => by
    rcases z with z | z | z
    · exact .inl z
    · exact .inr (.inl (sub a z))
    · exact .inr (.inr z)
  have nd := w.nd
  refine ⟨⟨Paired.setI .no i w.slots fun j x y _ _ _ q => q.step (Step.refl (fun _ => False) H) (Pre.refl _) (fun _ z => z.elim) (fun a _ n z => n (hA a z)) fun _ _ _ _ z => z,
    Paired.mono w.stor fun _ _ _ _ q => q.step (Step.refl (fun _ => False) H) (Pre.refl _) (fun _ z => z.elim) (fun a _ n z => n (hA a z)) (fun z => z) fun _ _ z => z, ?_, w.zt, fun a h => w.zd a ?_⟩, sub⟩
  · rw [q4]; rw [q1] at nd
    exact nodup_mid nd
  · rcases List.mem_append.mp h with h | h
    · exact List.mem_append_left _ (sub a h)
    · exact List.mem_append_right _ h
theorem setSh_ext (w : Wok K T Z l s e H st) {i : Nat} {v : V} {d : D} (hi : i < e.length) (r : Rep K (rho l) (AV Z s e l st.obs) H v d) : NExt K T Z s e l H st (s.set i (some v)) (e.set i (some (.sh d))) l H st := by
  obtain ⟨h1, h2⟩ := w.setSh hi r
  exact ⟨⟨h1, Step.refl _ _, fun a h => .inl (h2 a h), fun a h => .inl (List.mem_append_right _ h), Pre.refl _, rfl, fun _ => ⟨rfl, rfl⟩⟩, List.length_set⟩
end
/-- what a store into a slot asks of the place -/
theorem js_asg_core {K : PySem.W.Frag} {D : Ends} {Z : Addr → Prop} {l l' : Lay} {s : List (Option V)} {e : Env} {H H' : Hp} {st st' : Store} {i : Nat} {v : V} {x : Val} (hi : i < e.length) (y : Ext K T Z s e l H st l' H' st') (r : VRep K T Z s e l' H' st' (fun a => H a = none) v x)
    (q : outP K T W D Z s e l H st (Out.ofOpt x.slot fun z => .nx (e.set i (some z)) st')) : D.nx (s.set i (some v)) H' := by
  cases x with
  | sh d =>
    cases r with
    | sh r => exact q _ l' H' (y.toN.tr (setSh_ext y.wok hi r))
  | ow d =>
    cases r with
    | @ow a _ h1 hz h2 h3 =>
      obtain ⟨w1, w2⟩ := Wok.setOw h2 hz hi h3
      refine q _ l' H' ⟨⟨w1, y.step.mono fun _ _ q => .inr q, fun b h => ?_, fun b h => (y.fp b h).imp (List.mem_append_right _) id, y.pre, y.lk, y.lkd⟩, List.length_set⟩
      rcases w2 b h with h | h
      · exact .inl h
      · subst h; exact .inr h1
  | bw i d => exact q.elim
  | fb k f d => exact q.elim
theorem ps_impL {X : Cx} {x : Stmt} {t t' : TS} (h : PS X x t) (i : ∀ D s H, s.length = X.N.length → t' D s H → t D s H) : PS X x t' := ⟨fun pins s σ H D I q => h.run pins s σ H D I (i _ _ _ I.len q)⟩
theorem pss_impL {X : Cx} {x : List Stmt} {t t' : TS} (h : PSs X x t) (i : ∀ D s H, s.length = X.N.length → t' D s H → t D s H) : PSs X x t' := ⟨fun pins s σ H D I q => h.run pins s σ H D I (i _ _ _ I.len q)⟩
theorem lt_of_name {N : List Str} {i : Nat} {n : Str} (hi : N[i]? = some n) : i < N.length := (List.getElem?_eq_some_iff.mp hi).1
theorem js_asg {i : Nat} {n : Str} {pos' : Pos} (hN : X.N.Nodup) (ha : PE X a (rdE X.K T W A)) (hi : X.N[i]? = some n := by rfl) (hx : Loc X.env.scope n := by first | exact .inl rfl | exact .inr rfl) (hs : swapsWith a (some (.Name n pos')) pos.line X.env = pure false := by rfl)
    (hf : X.fn n = true ∨ X.env.scope.names.lookup n = some .local := by first | exact .inl rfl | exact .inr rfl) : PS X (.Assign [.Name n pos'] a pos) (rdS X.K T W (sAsg i A)) := ps_impL (ps_set hN hi hx ha hs hf) fun D s H hl q => by
  obtain ⟨Z, l, e, st, w, q⟩ := rdS_iff.mp q
  exact rd_out w q fun v x st' l' H' _ y r q => js_asg_core (by rw [← w.lenE, hl]; exact lt_of_name hi) y r q
theorem js_asgF {i : Nat} {n : Str} {pos' : Pos} (hN : X.N.Nodup) (ha : PE X a (rdE X.K T W A)) (hi : X.N[i]? = some n := by rfl) (hx : Loc X.env.scope n := by first | exact .inl rfl | exact .inr rfl) (hs : swapsWith a (some (.Name n pos')) pos.line X.env = pure false := by rfl)
    (hf : X.fn n = true ∨ X.env.scope.names.lookup n = some .local := by first | exact .inl rfl | exact .inr rfl) : PS X (.Assign [.Name n pos'] a pos) (rdS X.K T W (sAsgF i A)) := ps_impL (ps_set hN hi hx ha hs hf) fun D s H hl q => by
  obtain ⟨Z, l, e, st, w, q⟩ := rdS_iff.mp q
  refine rd_out w q fun v x st' l' H' _ y r q => ?_
  cases hk : x.keep with
  | none => rw [hk] at q; exact q.elim
  | some d =>
    rw [hk, Out.ofOpt_some] at q
    exact q _ l' H' (y.toN.tr (setSh_ext y.wok (by rw [← w.lenE, hl]; exact lt_of_name hi) (r.keep hk)))
/-- a slot's own list is never changed from here on (no statement of the text) -/
theorem js_frz {i : Nat} (h : PSs X sts (rdS X.K T W S1)) : PSs X sts (rdS X.K T W (sSeq (sFrz i) S1)) := pss_imp h fun D s H q => by
  obtain ⟨Z, l, e, st, w, q⟩ := rdS_iff.mp q
  unfold sSeq sFrz at q
  cases he : e[i]? with
  | none => rw [he] at q; exact q.elim
  | some o =>
    have hi : i < e.length := (List.getElem?_eq_some_iff.mp he).1
    rw [he] at q
    cases o with
    | none => exact q.elim
    | some f =>
      cases f with
      | sh d => exact rds_mk w q
      | ow d =>
        cases d with
        | lst xs =>
          obtain ⟨v, hv, z⟩ := Paired.at w.slots he
          cases z with
          | @is v _ z =>
            cases z with
            | @ow a _ z =>
              cases z with
              | @lst vs _ h1 h2 =>
                -- the list's address is avoided no longer
                have es : s.set i (some (.ref a)) = s := by
                  obtain ⟨hlt, hg⟩ := List.getElem?_eq_some_iff.mp hv
                  rw [← hg]; exact List.set_getElem_self hlt
                obtain ⟨L1, M, L2, q1, q2, q3, q4, q5, q6⟩ := ownsE_split (s := s) (e := e) i (by rw [w.lenE]; exact hi) hi
                have nd := w.nd
                have hee : e.set i (some (.ow (.lst xs))) = e := by
                  obtain ⟨hlt, hg⟩ := List.getElem?_eq_some_iff.mp he
                  rw [← hg]; exact List.set_getElem_self hlt
                have q3' := q3 a (.lst xs)
                rw [es, hee] at q3'
                have q2' := q2 (.ref a) (.lst xs)
                rw [es] at q2'
                have sub : ∀ b ∈ ownsE s (e.set i (some (.sh (.lst xs)))), b ∈ ownsE s e := fun b h => by
                  rw [q2'] at h
                  rw [q3']
                  rcases List.mem_append.mp h with h | h
                  · exact List.mem_append_left _ h
                  · exact List.mem_append_right _ (List.mem_cons_of_mem _ h)
                have na : ¬ AV Z s (e.set i (some (.sh (.lst xs)))) l st.obs a := fun z => by
                  rw [q3'] at nd
                  have nd2 : (a :: (L1 ++ L2 ++ fpO l st.obs)).Nodup := by
                    have p : List.Perm (L1 ++ a :: L2 ++ fpO l st.obs) (a :: (L1 ++ L2 ++ fpO l st.obs)) := by
                      rw [List.append_assoc, List.append_assoc, List.cons_append]
                      exact List.perm_middle
                    exact p.nodup_iff.mp nd
                  have n1 := (List.nodup_cons.mp nd2).1
                  rcases z with z | z | z
                  · exact w.zd a (List.mem_append_left _ (mem_ownsE_of hv he)) z
                  · rw [q2'] at z; exact n1 (List.mem_append_left _ z)
                  · exact n1 (List.mem_append_right _ z)
                have hA : ∀ b, AV Z s (e.set i (some (.sh (.lst xs)))) l st.obs b → AV Z s e l st.obs b := fun b z => by
                  rcases z with z | z | z
                  · exact .inl z
                  · exact .inr (.inl (sub b z))
                  · exact .inr (.inr z)
                have w' : Wok X.K T Z l s (e.set i (some (.sh (.lst xs)))) H st := by
                  have z := Paired.setI (G := SRep X.K (rho l) (AV Z s (e.set i (some (.sh (.lst xs)))) l st.obs) H) (a := some (V.ref a)) (b := some (Slot.sh (.lst xs))) (.is (.sh (.lst (.inl ⟨.inl h1, na⟩) (h2.weak hA)))) i w.slots
                    fun j x y _ _ _ q => q.step (Step.refl (fun _ => False) H) (Pre.refl _) (fun _ z => z.elim) (fun a _ n z => n (hA a z)) fun _ _ _ _ z => z
                  rw [es] at z
                  refine ⟨z, Paired.mono w.stor fun _ _ _ _ q => q.step (Step.refl (fun _ => False) H) (Pre.refl _) (fun _ z => z.elim) (fun a _ n z => n (hA a z)) (fun z => z) fun _ _ z => z, ?_, w.zt, fun b h => w.zd b ?_⟩
                  · rw [q2']; rw [q3'] at nd
                    exact nodup_mid (M := [a]) (by simpa using nd)
                  · rcases List.mem_append.mp h with h | h
                    · exact List.mem_append_left _ (sub b h)
                    · exact List.mem_append_right _ h
                refine rds_mk w' (outP.ahead (s1 := s) ⟨⟨w', Step.refl _ _, fun b h => .inl (sub b h), fun b h => .inl (List.mem_append_right _ h), Pre.refl _, rfl, fun _ => ⟨rfl, rfl⟩⟩, rfl⟩ q)
        | _ => exact q.elim
/-- return x, x a slot -/
theorem js_retV (i : Nat) {n : Str} (hN : X.N[i]? = some n := by rfl) (hv : Vis X.env.scope n := by first | exact Or.inl rfl | exact Or.inr (Or.inl rfl) | exact Or.inr (Or.inr rfl)) (hd : (n == ("__debug__" : Str)) = false := by decide)
    (hcd : (n == ("__classdict__" : Str)) = false := by decide) {pos' : Pos} : PS X (.Return (some (.Name n pos')) pos) (rdS X.K T W (sRetV i)) := ps_imp (ps_ret (pe_var hN hv hd hcd)) fun D s H q => by
  obtain ⟨Z, l, e, st, w, q⟩ := rdS_iff.mp q
  unfold sRetV at q
  cases he : e[i]? with
  | none => rw [he] at q; exact q.elim
  | some o =>
    rw [he] at q
    cases o with
    | none => exact q.elim
    | some f =>
      obtain ⟨u, hu, z⟩ := Paired.at w.slots he
      cases z with
      | @is v _ z =>
        refine ⟨v, hu, ?_⟩
        cases f with
        | sh d => cases z with | sh z => exact q v l H w.leaveS (.sh (z.weak av_nil))
        | ow d =>
          cases z with
          | @ow a _ z =>
            have hm := mem_ownsE_of hu he
            have nd := w.nd
            rw [List.nodup_append] at nd
            have hA : ∀ b, AV (fun b => Z b ∨ b = a) [] [] l st.obs b → AV Z s e l st.obs b := fun b z => by
              rcases z with (z | z) | z | z
              · exact .inl z
              · subst z; exact .inr (.inl hm)
              · simp [ownsE] at z
              · exact .inr (.inr z)
            refine q _ l H w.leaveS (.ow (.inr hm) (w.zd a (List.mem_append_left _ hm)) ⟨.nil, Paired.mono w.stor fun _ _ _ _ z => z.step (Step.refl (fun _ => False) H) (Pre.refl _) (fun _ z => z.elim) (fun a _ n z => n (hA a z)) (fun z => z) fun _ _ z => z,
              nd.2.1, fun b z => ?_, fun b h z => ?_⟩ (z.weak hA))
            · rcases z with z | z
              · exact w.zt b z
              · subst z; exact w.trkE hm
            · rcases z with z | z
              · exact w.zd b (List.mem_append_right _ h) z
              · subst z; exact nd.2.2 b hm b h rfl
end
end Pz

/-! Defs and their calls. -/
namespace Pz
open PySem L2

/-- a def's promise: it gives what F gives -/
def spF (K : PySem.W.Frag) (T : CT) (F : Fn) : Sp := fun vs H Q Ex => ∃ (Z : Addr → Prop) (l : Lay) (ds : List D) (st : Store), Wok K T Z l [] [] H st ∧ Reps K (rho l) (AV Z [] [] l st.obs) H vs ds ∧ match F ds st with
  | .ok x st' => ∀ v l' H', Ext K T Z [] [] l H st l' H' st' → VRep K T Z [] [] l' H' st' (fun a => H a = none) v x → Q v H'
  | .ex c st' => ∀ l' H', Ext K T Z [] [] l H st l' H' st' → Ex (T.err c) none H'
  | .bad => False
/-- a def of n arguments -/
def Ar (n : Nat) (F : Fn) : Prop := ∀ ds st, ds.length ≠ n → F ds st = .bad
theorem spF_len {K : PySem.W.Frag} {T : CT} {F : Fn} {n : Nat} (a : Ar n F) {vs : List V} {H : Hp} {Q : VK} {Ex : XK} (h : spF K T F vs H Q Ex) : vs.length = n := by
  obtain ⟨Z, l, ds, st, w, r, q⟩ := h
  by_cases e : ds.length = n
  · rw [r.length, e]
  · rw [a ds st e] at q; exact q.elim
theorem ar_fnOf {n m : Nat} {B : SF} : Ar n (fnOf n m B) := fun ds st h => by
  unfold fnOf
  rw [if_neg h]

section
variable {P : Program} {w : World} {K : PySem.W.Frag} {mg : Str → Option Value} {base : Heap} {T : CT}
theorem ownsE_start : ∀ (vs : List V) (ds : List D) (s : List (Option V)) (k : Nat), ownsE (vs.map some ++ s) (ds.map (fun d => some (Slot.sh d)) ++ List.replicate k none) = [] ∨ True := fun _ _ _ _ => .inr trivial
theorem ownsE_no : ∀ (s : List (Option V)) (k : Nat), ownsE s (List.replicate k none) = []
  | [], _ => ownsE_nil
  | x :: s, 0 => by simp [ownsE]
  | x :: s, k + 1 => by rw [List.replicate_succ, ownsE_cons_no]; exact ownsE_no s k
theorem ownsE_args {A : Addr → Prop} {r : List Addr} {H : Hp} {k : Nat} {s : List (Option V)} : ∀ {vs : List V} {ds : List D}, Reps K r A H vs ds → ownsE (vs.map some ++ s) (ds.map (fun d => some (Slot.sh d)) ++ List.replicate k none) = []
  | _, _, .nil => ownsE_no _ _
  | _, _, .cons _ t => by
    rw [List.map_cons, List.map_cons, List.cons_append, List.cons_append, ownsE_cons_sh]
    exact ownsE_args t
theorem slots_args {A : Addr → Prop} {r : List Addr} {H : Hp} : ∀ {vs : List V} {ds : List D}, Reps K r A H vs ds → ∀ k, Paired (SRep K r A H) (vs.map some ++ List.replicate k none) (ds.map (fun d => some (Slot.sh d)) ++ List.replicate k none)
  | _, _, .nil, 0 => .nil
  | _, _, .nil, k + 1 => .cons .no (slots_args (vs := []) (ds := []) .nil k)
  | _, _, .cons h t, k => .cons (.is (.sh h)) (slots_args t k)
theorem spF_start {N ps : List Str} {B : SF} {n m : Nat} (hn : ps.length = n) (hm : N.length = m) {vs : List V} {H : Hp} {Q : VK} {E : XK} (hsp : spF K T (fnOf n m B) vs H Q E) :
    rdS K T (fun cls d _ H' => E cls d H') B { nx := fun _ H' => Q .non H', rt := Q } (L2.start N vs) H := by
  have hl := spF_len ar_fnOf hsp
  obtain ⟨Z, l, ds, st, w, r, q⟩ := hsp
  have hd : ds.length = n := by rw [← r.length]; exact hl
  unfold fnOf at q
  rw [if_pos hd] at q
  have h0 : ∀ s', ownsE (vs.map some ++ s') (ds.map (fun d => some (Slot.sh d)) ++ List.replicate (m - n) none) = [] := fun s' => ownsE_args r
  have w0 : Wok K T Z l (L2.start N vs) (ds.map (fun d => some (Slot.sh d)) ++ List.replicate (m - n) none) H st := by
    have hA : AV Z (L2.start N vs) (ds.map (fun d => some (Slot.sh d)) ++ List.replicate (m - n) none) l st.obs = AV Z [] [] l st.obs := by
      unfold AV L2.start
      rw [h0]
      rfl
    refine ⟨?_, by rw [hA]; exact w.stor, by unfold L2.start; rw [h0]; exact w.nd, w.zt, fun a h => w.zd a (by unfold L2.start at h; rw [h0] at h; exact h)⟩
    rw [hA]
    unfold L2.start
    rw [hm, hl]
    exact slots_args r _
  have es : ownsE (L2.start N vs) (ds.map (fun d => some (Slot.sh d)) ++ List.replicate (m - n) none) = [] := by unfold L2.start; exact h0 _
  have toE : ∀ {l' H' st'}, SExt K T Z (L2.start N vs) (ds.map (fun d => some (Slot.sh d)) ++ List.replicate (m - n) none) l H st [] [] l' H' st' → Ext K T Z [] [] l H st l' H' st' := fun {l' H' st'} y =>
    ⟨y.wok, y.step.mono fun a _ z => by
      rcases z with z | z
      · rw [es] at z; simp at z
      · exact z, fun a h => by
      rcases y.fo a h with z | z
      · rw [es] at z; exact .inl z
      · exact .inr z, y.pre, y.lk, y.lkd⟩
  refine rds_mk w0 ?_
  cases hB : B (ds.map (fun d => some (Slot.sh d)) ++ List.replicate (m - n) none) st with
  | nx e' st' =>
    rw [hB] at q
    exact fun s' l' H' y => q .non l' H' (toE (y.x.tr y.x.wok.leaveS)) (.sh .non)
  | rt x st' =>
    rw [hB] at q
    refine fun v l' H' y z => q v l' H' (toE y) ?_
    cases z with
    | sh h => exact .sh h
    | ow h1 hz h2 h3 =>
      refine .ow ?_ hz h2 h3
      rcases h1 with h1 | h1
      · exact h1
      · rw [es] at h1; simp at h1
    | bw h1 h2 => exact .bw h1 h2
    | fb h1 h2 h3 h4 => exact .fb h1 h2 h3 h4
  | ex c e' st' =>
    rw [hB] at q
    exact fun s' l' H' y => q l' H' (toE (y.x.tr y.x.wok.leaveS))
  | bk e' st' => rw [hB] at q; exact q.elim
  | ct e' st' => rw [hB] at q; exact q.elim
  | bad => rw [hB] at q; exact q.elim
/-- THE RULE for a def: its body's derivation -/
theorem jf_ok {x qual : Str} {sn : Stmt} {f : Addr} {fd : FuncData} {N ps : List Str} {k : Nat} {B : SF} (F : Fun K x qual sn f fd) (S : FnScope N ps (defScope sn)) (n m : Nat) (hn : ps.length = n) (hm : N.length = m)
    (hbody : ∀ (cdv : Value) (A : Around) (outer : List PySem.Env) (s : Shared) (H : Hp) (E : XK), Room k (cxOf (L2N.CX P w) P w K mg base N qual (defScope sn) f cdv A outer s H E).A →
      PSs (cxOf (L2N.CX P w) P w K mg base N qual (defScope sn) f cdv A outer s H E) (defBody sn) (rdS K T (fun cls d _ H' => E cls d H') B)) :
    FnOk P w K mg base (L2N.CX P w) (k + 1) f fd ps (spF K T (fnOf n m B)) := by
  obtain ⟨oc, od, kV, doc, pm, an, cdv, ct, osl, rfl, lk, hcd⟩ := F.ex
  refine fn_of lk hcd S (fun vs H Q E h => by rw [spF_len ar_fnOf h, hn]) fun A outer s H vs Q E hr hsp => ?_
  exact ⟨_, hbody cdv A outer s H E hr, spF_start hn hm hsp⟩
end

section
variable {K : PySem.W.Frag} {T : CT} {W : WX} {Z : Addr → Prop} {H H' H0 H1 H2 : Hp} {l l' l1 l2 : Lay} {s s' s1 s2 : List (Option V)} {e e' e1 e2 : Env} {st st' st1 st2 : Store}
/-- the slots are kept away from a callee -/
theorem Wok.call (w : Wok K T Z l s e H st) : Wok K T (fun a => Z a ∨ a ∈ ownsE s e) l [] [] H st ∧ AV (fun a => Z a ∨ a ∈ ownsE s e) [] [] l st.obs = AV Z s e l st.obs := by
  have hA : AV (fun a => Z a ∨ a ∈ ownsE s e) [] [] l st.obs = AV Z s e l st.obs := by
    funext a
    unfold AV
    apply propext
    constructor
    · rintro ((h | h) | h | h)
      · exact .inl h
      · exact .inr (.inl h)
      · simp [ownsE] at h
      · exact .inr (.inr h)
    · rintro (h | h | h)
      · exact .inl (.inl h)
      · exact .inl (.inr h)
      · exact .inr (.inr h)
  refine ⟨⟨.nil, by rw [hA]; exact w.stor, (List.nodup_append.mp w.nd).2.1, fun a h => ?_, fun a h z => ?_⟩, hA⟩
  · rcases h with h | h
    · exact w.zt a h
    · exact w.trkE h
  · have h : a ∈ fpO l st.obs := by simpa [ownsE] using h
    rcases z with z | z
    · exact w.zd a (List.mem_append_right _ h) z
    · exact (List.nodup_append.mp w.nd).2.2 a z a h rfl
/-- behind a callee -/
theorem Wok.back (w : Wok K T Z l s e H st) (y : Ext K T (fun a => Z a ∨ a ∈ ownsE s e) [] [] l H st l' H' st') : Ext K T Z s e l H st l' H' st' := by
  have hA : AV (fun a => Z a ∨ a ∈ ownsE s e) [] [] l' st'.obs = AV Z s e l' st'.obs := by
    funext a
    unfold AV
    apply propext
    constructor
    · rintro ((h | h) | h | h)
      · exact .inl h
      · exact .inr (.inl h)
      · simp [ownsE] at h
      · exact .inr (.inr h)
    · rintro (h | h | h)
      · exact .inl (.inl h)
      · exact .inl (.inr h)
      · exact .inr (.inr h)
  refine ⟨⟨w.stepSlots y.step y.pre y.fp, by rw [← hA]; exact y.wok.stor, ?_, fun a h => y.wok.zt a (.inl h), fun a h z => ?_⟩, y.step, y.fp, y.pre, y.lk, y.lkd⟩
  · refine List.nodup_append.mpr ⟨(List.nodup_append.mp w.nd).1, by have := y.wok.nd; simpa [ownsE] using this, fun a ha b hb q => ?_⟩
    subst q
    exact y.wok.zd a (by simpa [ownsE] using hb) (.inr ha)
  · rcases List.mem_append.mp h with h | h
    · exact w.zd a (List.mem_append_left _ h) z
    · exact y.wok.zd a (by simpa [ownsE] using h) (.inl z)
theorem VRep.back {N0 : Addr → Prop} (w : Wok K T Z l s e H st) (y : Ext K T (fun a => Z a ∨ a ∈ ownsE s e) [] [] l H st l' H' st') {v : V} {x : Val} (h : VRep K T (fun a => Z a ∨ a ∈ ownsE s e) [] [] l' H' st' (fun a => H a = none) v x) :
    VRep K T Z s e l' H' st' (fun a => H a = none) v x := by
  have hA : AV (fun a => Z a ∨ a ∈ ownsE s e) [] [] l' st'.obs = AV Z s e l' st'.obs := by
    funext a
    unfold AV
    apply propext
    constructor
    · rintro ((h | h) | h | h)
      · exact .inl h
      · exact .inr (.inl h)
      · simp [ownsE] at h
      · exact .inr (.inr h)
    · rintro (h | h | h)
      · exact .inl (.inl h)
      · exact .inl (.inr h)
      · exact .inr (.inr h)
  cases h with
  | sh h => rw [hA] at h; exact .sh h
  | @ow a d h1 hz h2 h3 =>
    have yy := w.back y
    -- nothing of the slots leans on the new list
    have w2 : Wok K T (fun b => Z b ∨ b = a) l' s e H' st' := by
      have nE : a ∉ ownsE s e := fun q => hz (.inr q)
      have hB : ∀ b, AV (fun b => Z b ∨ b = a) s e l' st'.obs b → AV (fun b => (Z b ∨ b ∈ ownsE s e) ∨ b = a) [] [] l' st'.obs b := by
        rintro b ((h | h) | h | h)
        · exact .inl (.inl (.inl h))
        · exact .inl (.inr h)
        · exact .inl (.inl (.inr h))
        · exact .inr (.inr h)
      refine ⟨?_, Paired.mono h2.stor fun _ _ _ _ q => q.step (Step.refl (fun _ => False) H') (Pre.refl _) (fun _ z => z.elim) (fun a _ n z => n (hB a z)) (fun z => z) fun _ _ z => z, yy.wok.nd, fun b h => ?_, fun b h z => ?_⟩
      · refine Paired.monoI w.slots fun i u f hu hf q => q.step y.step y.pre (fun b z => .inr (.inr z.2)) (fun b hb n z => ?_) fun b d e1 e2 z => ?_
        · rcases z with (z | z) | z | z
          · exact n (.inl z)
          · subst z; exact hb h1
          · exact n (.inr (.inl z))
          · rcases y.fp b z with z | z
            · exact n (.inr (.inr z))
            · exact hb z
        · subst e1 e2
          exact (List.nodup_append.mp w.nd).2.2 b (mem_ownsE_of hu hf) b z.2 rfl
      · rcases h with h | h
        · exact yy.wok.zt b h
        · subst h; exact h2.zt b (.inr rfl)
      · rcases z with z | z
        · exact yy.wok.zd b h z
        · subst z
          rcases List.mem_append.mp h with h | h
          · exact nE h
          · exact h2.zd b (by simpa [ownsE] using h) (.inr rfl)
    refine .ow h1 (fun z => hz (.inl z)) w2 (h3.weak fun b z => ?_)
    rcases z with (z | z) | z | z
    · exact .inl (.inl (.inl z))
    · exact .inl (.inr z)
    · exact .inl (.inl (.inr z))
    · exact .inr (.inr z)
  | bw h1 h2 => simp at h1
  | fb h1 h2 h3 h4 => exact .fb h1 h2 h3 h4
/-- the promise at a call -/
theorem spF_at {F : Fn} {vs : List V} {ds : List D} {Q : VK} (y : Ext K T Z s e l H st l1 H1 st1) (r : Reps K (rho l1) (AV Z s e l1 st1.obs) H1 vs ds)
    (q : match F ds st1 with
      | .ok x st' => ∀ v l' H', Ext K T Z s e l H st l' H' st' → VRep K T Z s e l' H' st' (fun a => H a = none) v x → Q v H'
      | .ex c st' => ∀ l' H', Ext K T Z s e l H st l' H' st' → W (T.err c) none s H'
      | .bad => False) : spF K T F vs H1 Q (WE W s) := by
  obtain ⟨w1, hA⟩ := y.wok.call
  refine ⟨_, l1, ds, st1, w1, by rw [hA]; exact r, ?_⟩
  cases hF : F ds st1 with
  | bad => rw [hF] at q; exact q
  | ex c st' => rw [hF] at q; exact fun l' H' z => q l' H' (y.trans (y.wok.back z))
  | ok x st' => rw [hF] at q; exact fun v l' H' z r => q v l' H' (y.trans (y.wok.back z)) ((VRep.back (N0 := fun _ => False) y.wok z r).ahead y)
end

section
variable {X : Cx} {T : CT} {W : WX} {pos p apos : Pos} {a b c x y : Expr} {A B C : EF} {es : List Expr} {As Bs : AF} {k : Nat} {f : Addr} {fd : FuncData} {ps : List Str} {F : Fn} {n : Str}
theorem rd_call {K : PySem.W.Frag} : ∀ s H Q, rdE K T W (eCall F As) s H Q → tCallS (spF K T F) (WE W) (rdA K T W As) s H Q := by
  rintro s H Q ⟨Z, l, e, st, w, q⟩
  refine ⟨Z, l, e, st, w, ?_⟩
  unfold eCall at q
  cases hA : As e st with
  | bad => rw [hA] at q; exact q
  | ex c s1 => rw [hA] at q; exact q
  | ok ds s1 =>
    rw [hA, R.bind_ok] at q
    exact fun vs l1 H1 y1 r1 => spF_at y1 r1 q
/-- f(e, ..) -/
theorem je_call (G : FnOk X.prog X.w X.K X.mg X.base (L2N.CX X.prog X.w) k f fd ps (spF X.K T F)) (hr : Room k X.A) (hm : X.mg n = some (.ref f)) (hk : PySem.W.keepIn X.K (.ref f) = true) (hb : Binds X.K fd ps []) (tk : L2N.Takes X W)
    (ha : PA X (y :: es) (rdA X.K T W As)) (hg : Gl X n := by rfl) (hdb : (n == ("__debug__" : Str)) = false := by decide) (he : starEach (y :: es) X.env = (false, eval y X.env) :: starEach es X.env := by rfl) (hpl : (backTo pos (starEach es X.env)).any (·.1) = false := by rfl) :
    PE X (.Call (.Name n p) (y :: es) [] pos) (rdE X.K T W (eCall F As)) :=
  pe_imp (pe_callS G hr hg hm hk hb (fun s => L2N.passAt tk s) ha hdb he hpl) rd_call
/-- f() -/
theorem je_call0 (G : FnOk X.prog X.w X.K X.mg X.base (L2N.CX X.prog X.w) k f fd ps (spF X.K T F)) (hr : Room k X.A) (hm : X.mg n = some (.ref f)) (hk : PySem.W.keepIn X.K (.ref f) = true) (hb : Binds X.K fd ps []) (tk : L2N.Takes X W)
    (hg : Gl X n := by rfl) (hdb : (n == ("__debug__" : Str)) = false := by decide) : PE X (.Call (.Name n p) [] [] pos) (rdE X.K T W (eCall F aNil)) := by
  have h : PE X (.Call (.Name n p) [] [] pos) (tCallS (spF X.K T F) (WE W) tNil) := by
    refine ⟨fun pins s σ H Q I h => ?_⟩
    refine wpAny_Call_Name_kw (ld_glob I hg hm ?_ hdb)
    exact PySem.W.callWith_K0 I.kIn hk (run_fnS (us := []) G hr hb (L2N.passAt tk σ) I .nil h)
  refine pe_imp h ?_
  rintro s H Q ⟨Z, l, e, st, w, q⟩
  exact spF_at (Ext.refl w) .nil q

/-! ### methods -/
def tMethS (C : Addr) (m : Str) (sp : Sp) (E : St → XK) (ta : TE) (t : TA) : TE := fun σ H Q => ta σ H fun x H1 => ∃ a dx fs, x = .ref a ∧ H1 a = some (.ins C dx fs) ∧ fs.lookup m = none ∧ t σ H1 fun vs H2 => sp (x :: vs) H2 Q (E σ)
/-- o.m(e, ..): a method of the class number cn -/
theorem pe_methS2 {C : Addr} {o : Expr} {ta : TE} {m : Str} {sp : Sp} {t : TA} {CX : CXT} {E : St → XK} {pl : Sem Bool} (he : PE X o ta) (c : L2.Cls X.K C) (hm : Meth X.K C m f) (F : FnOk X.prog X.w X.K X.mg X.base CX k f fd ps sp) (hr : Room k X.A) (hb : Binds X.K fd ps []) (hx : ∀ σ, PassesAt CX X σ (E σ)) (ha : PA X (y :: es) t)
    (hst : starEach (y :: es) X.env = (false, eval y X.env) :: starEach es X.env := by rfl) (hpl : (backTo pos (starEach es X.env)).any (·.1) = false := by rfl)
    (ht : eval (.Call (.Attribute o m apos) (y :: es) [] pos) X.env = (do
      let ov ← eval o X.env
      standAt apos.atName
      let (f, first) ← holding [ov] (getMethod ov m pl)
      callWith pos f first (backTo pos (starEach (y :: es) X.env)) (backToKw pos (keywordEach [] X.env))) := by rfl) :
    PE X (.Call (.Attribute o m apos) (y :: es) [] pos) (tMethS C m sp E ta t) := by
  refine ⟨fun pins s σ H Q I h => ?_⟩
  refine PySem.W.methodCall_KW (pl := pl) (thn (he.run pins s σ H _ I h) fun u s1 ⟨x, H1, I1, rx, a, dx, fs, ex, ea, l, q⟩ => ?_) ht
  subst ex
  obtain rfl : u = Value.ref a := rx
  refine getmeth_ok I1 ea c hm l ?_
  refine PySem.W.callWith_K (first := [.ref a]) (h₀ := X.base) I.ok.mod.kin hm.kp (thn (ha.run pos pins s1 σ H1 _ I1 q) fun us s2 ⟨vs, H2, I2, r, q2⟩ => ⟨I2.kIn, ?_⟩) hst hpl
  exact run_fnS (us := .ref a :: us) (vs := .ref a :: vs) F hr hb (hx σ) I2 (.cons rfl r) q2
theorem pe_methS0 {C : Addr} {o : Expr} {ta : TE} {m : Str} {sp : Sp} {CX : CXT} {E : St → XK} {pl : Sem Bool} (he : PE X o ta) (c : L2.Cls X.K C) (hm : Meth X.K C m f) (F : FnOk X.prog X.w X.K X.mg X.base CX k f fd ps sp) (hr : Room k X.A) (hb : Binds X.K fd ps []) (hx : ∀ σ, PassesAt CX X σ (E σ))
    (ht : eval (.Call (.Attribute o m apos) [] [] pos) X.env = (do
      let ov ← eval o X.env
      standAt apos.atName
      let (f, first) ← holding [ov] (getMethod ov m pl)
      callWith pos f first (backTo pos (starEach [] X.env)) (backToKw pos (keywordEach [] X.env))) := by rfl) :
    PE X (.Call (.Attribute o m apos) [] [] pos) (tMethS C m sp E ta tNil) := by
  refine ⟨fun pins s σ H Q I h => ?_⟩
  refine PySem.W.methodCall_KW (pl := pl) (thn (he.run pins s σ H _ I h) fun u s1 ⟨x, H1, I1, rx, a, dx, fs, ex, ea, l, q⟩ => ?_) ht
  subst ex
  obtain rfl : u = Value.ref a := rx
  refine getmeth_ok I1 ea c hm l ?_
  exact PySem.W.callWith_K0 (first := [.ref a]) I1.kIn hm.kp (run_fnS (us := [.ref a]) (vs := [.ref a]) F hr hb (hx σ) I1 (.cons rfl .nil) q)

theorem isC_some {s : Store} {c k : Nat} {u : Unit} (h : isC s c k = some u) : ∃ ob, s.obs[k]? = some ob ∧ ob.cls = c := by
  unfold isC at h
  cases q : s.obs[k]? with
  | none => rw [q] at h; cases h
  | some ob =>
    rw [q, Option.bind_some] at h
    by_cases hc : ob.cls = c
    · exact ⟨ob, rfl, hc⟩
    · rw [if_neg hc] at h; cases h
theorem lookup_zip_none : ∀ {ns : List Str} {vs : List V} {m : Str}, m ∉ ns → (ns.zip vs).lookup m = none
  | [], _, _, _ => by simp
  | _ :: _, [], _, _ => by simp
  | n :: ns, v :: vs, m, h => by
    have h1 : m ≠ n := fun q => h (q ▸ List.mem_cons_self)
    rw [List.zip_cons_cons, List.lookup_cons, beq_false_of_ne h1]
    exact lookup_zip_none fun q => h (List.mem_cons_of_mem _ q)
theorem rd_meth {K : PySem.W.Frag} {cn : Nat} {m : Str} {ta : TA} (h0 : cn ≠ 0) (hm : m ∉ T.names cn) (ht : ∀ s H Q, rdA K T W As s H Q → ta s H Q) :
    ∀ s H Q, rdE K T W (eMeth cn F A As) s H Q → tMethS (T.ad cn) m (spF K T F) (WE W) (rdE K T W A) ta s H Q := by
  rintro s H Q ⟨Z, l, e, st, w, q⟩
  refine ⟨Z, l, e, st, w, ?_⟩
  unfold eMeth at q
  cases hA : A e st with
  | bad => rw [hA] at q; exact q
  | ex c s1 => rw [hA] at q; exact q
  | ok x s1 =>
    rw [hA, R.bind_ok] at q
    intro v l1 H1 y1 r1
    cases hx : x.asO with
    | none => rw [hx] at q; exact q.elim
    | some k =>
      rw [hx, R.optv_some] at q
      obtain ⟨p, rfl, hk⟩ := asO_of r1 hx
      obtain ⟨dx, vs, hl⟩ := rho_get hk
      cases hg : isC s1 cn k with
      | none => rw [hg] at q; exact q.elim
      | some sl =>
        rw [hg, R.optv_some] at q
        obtain ⟨ob, h1, h2⟩ := isC_some hg
        have ok := Paired.get y1.wok.stor hl h1
        obtain ⟨i1, i2⟩ := ok.ins h2 h0
        refine ⟨p, _, _, rfl, i1, lookup_zip_none hm, ht _ _ _ ⟨Z, l1, e, s1, y1.wok, ?_⟩⟩
        cases hB : As e s1 with
        | bad => rw [hB] at q; exact q
        | ex c s2 => rw [hB] at q; exact fun l' H' y2 => q l' H' (y1.trans y2)
        | ok ds s2 =>
          rw [hB, R.bind_ok] at q
          intro us l2 H2 y2 r2
          exact spF_at (y1.trans y2) (.cons (.obj (y2.pre _ _ hk)) r2) q
/-- what the text says of a method -/
structure MethOk (X : Cx) (T : CT) (cn : Nat) (m : Str) (k : Nat) (f : Addr) (fd : FuncData) (ps : List Str) (F : Fn) : Prop where
  cl : L2.Cls X.K (T.ad cn)
  me : Meth X.K (T.ad cn) m f
  no : m ∉ T.names cn
  ok : FnOk X.prog X.w X.K X.mg X.base (L2N.CX X.prog X.w) k f fd ps (spF X.K T F)
  bi : Binds X.K fd ps []
theorem je_meth {cn : Nat} {o : Expr} {m : Str} {pl : Sem Bool} (M : MethOk X T cn m k f fd ps F) (hr : Room k X.A) (tk : L2N.Takes X W) (ho : PE X o (rdE X.K T W A)) (ha : PA X (y :: es) (rdA X.K T W As)) (h0 : cn ≠ 0 := by decide)
    (hst : starEach (y :: es) X.env = (false, eval y X.env) :: starEach es X.env := by rfl) (hpl : (backTo pos (starEach es X.env)).any (·.1) = false := by rfl)
    (ht : eval (.Call (.Attribute o m apos) (y :: es) [] pos) X.env = (do
      let ov ← eval o X.env
      standAt apos.atName
      let (f, first) ← holding [ov] (getMethod ov m pl)
      callWith pos f first (backTo pos (starEach (y :: es) X.env)) (backToKw pos (keywordEach [] X.env))) := by rfl) :
    PE X (.Call (.Attribute o m apos) (y :: es) [] pos) (rdE X.K T W (eMeth cn F A As)) :=
  pe_imp (pe_methS2 ho M.cl M.me M.ok hr M.bi (fun s => L2N.passAt tk s) ha hst hpl ht) (rd_meth h0 M.no fun _ _ _ h => h)
theorem je_meth0 {cn : Nat} {o : Expr} {m : Str} {pl : Sem Bool} (M : MethOk X T cn m k f fd ps F) (hr : Room k X.A) (tk : L2N.Takes X W) (ho : PE X o (rdE X.K T W A)) (h0 : cn ≠ 0 := by decide)
    (ht : eval (.Call (.Attribute o m apos) [] [] pos) X.env = (do
      let ov ← eval o X.env
      standAt apos.atName
      let (f, first) ← holding [ov] (getMethod ov m pl)
      callWith pos f first (backTo pos (starEach [] X.env)) (backToKw pos (keywordEach [] X.env))) := by rfl) :
    PE X (.Call (.Attribute o m apos) [] [] pos) (rdE X.K T W (eMeth cn F A aNil)) :=
  pe_imp (pe_methS0 ho M.cl M.me M.ok hr M.bi (fun s => L2N.passAt tk s) ht) (rd_meth h0 M.no fun _ _ _ ⟨Z, l, e, st, w, q⟩ => q [] l _ (Ext.refl w) .nil)

/-! ### new objects -/
theorem run_makeS {C : Addr} {sp : Sp} {CX : CXT} {E : St → XK} {pins : List (Addr × Obj)} {σ : St} {H : Hp} {s : Shared} {Q : VK} {us : List Value} {vs : List V} (M : Mk X.K C f) (G : FnOk X.prog X.w X.K X.mg X.base CX k f fd ps sp) (hr : Room (k + 1) X.A) (hb : Binds X.K fd ps [])
    (hx : PassesAt CX X σ (E σ)) (I : Inv X pins σ H s) (r : Vals vs us)
    (h : ∀ x dx, H x = none → H dx = none → dx ≠ x → sp (.ref x :: vs) (upd (upd H dx (.own x)) x (.ins C dx [])) (fun v H2 => v = .non ∧ Q (.ref x) H2) (E σ)) :
    wpAny (model X.prog X.w) X.A (call (.ref C) us) (EP X pins σ Q) X.xe s := by
  have hq := h (s.heap.objs.size + 1) s.heap.objs.size (I.hok.fresh (Nat.le_succ _)) (I.hok.fresh (Nat.le_refl _)) (Nat.ne_of_lt (Nat.lt_succ_self _))
  have I2 := Inv.made (C := C) I
  have r2 : Vals (V.ref (s.heap.objs.size + 1) :: vs) (Value.ref (s.heap.objs.size + 1) :: us) := .cons rfl r
  have hl : (Value.ref (s.heap.objs.size + 1) :: us).length = ps.length := by
    have e := r2.length
    rw [G.len _ _ _ _ hq] at e
    exact e.symm
  have b := hb _ (Value.ref (s.heap.objs.size + 1) :: us) I2.kIn (by rw [List.append_nil]; exact hl)
  rw [List.append_nil] at b
  refine wpAny_call (make_map (f := f) I.kIn M.makes M.init (beq_iff_eq.mp M.fn) (codeAny_mono (G.run _ X.stack _ _ ⟨Value.ref (s.heap.objs.size + 1) :: us, []⟩ (Value.ref (s.heap.objs.size + 1) :: us) _ _ (E σ) (hr.make C us [])
    (I2.env0.make C us []) b r2 hq) fun r s' hq' => ?_))
  cases r with
  | error e => exact hx pins _ _ e s' I2 hq'
  | ok fl =>
    cases fl with
    | ret u =>
      obtain ⟨v, H', I3, rv, ev, q3⟩ := I2.after hq'
      subst ev
      exact ⟨rv, ⟨V.ref (s.heap.objs.size + 1), H', I3, rfl, q3⟩⟩
    | next => exact False.elim hq'
    | brk => exact False.elim hq'
    | cont => exact False.elim hq'
end
section
variable {K : PySem.W.Frag} {T : CT} {W : WX} {Z : Addr → Prop} {H H' H0 H1 H2 : Hp} {l l' l1 l2 : Lay} {s s' s1 s2 : List (Option V)} {e e' e1 e2 : Env} {st st' st1 st2 : Store}
theorem fpO_snoc : ∀ {l : Lay} {obs : List Ob} {y : Addr × Addr × List V} {ob : Ob}, l.length = obs.length → fpO (l ++ [y]) (obs ++ [ob]) = fpO l obs ++ y.1 :: ownsF y.2.2 ob.fs
  | [], [], (p, dx, vs), ob, _ => by simp [fpO]
  | [], _ :: _, _, _, h => by simp at h
  | _ :: _, [], _, _, h => by simp at h
  | (p, dx, vs) :: l, o :: obs, y, ob, h => by
    rw [List.cons_append, List.cons_append, fpO_cons, fpO_cons, fpO_snoc (by simpa using h), List.cons_append, List.append_assoc]
/-- a new object of the class c, without fields -/
theorem Wok.newO (w : Wok K T Z l s e H st) (hk : st.lk = false) {c : Nat} (hc : c ≠ 0) {x dx : Addr} (hx : H x = none) (hd : H dx = none) (hne : dx ≠ x) :
    Ext K T Z s e l H st (l ++ [(x, dx, [])]) (upd (upd H dx (.own x)) x (.ins (T.ad c) dx [])) { st with obs := st.obs ++ [⟨c, []⟩] } := by
  have g1 : Grw H (upd H dx (.own x)) := Grw.upd hd
  have hx1 : upd H dx (.own x) x = none := by rw [upd_ne hne.symm]; exact hx
  have g : Grw H (upd (upd H dx (.own x)) x (.ins (T.ad c) dx [])) := g1.trans (Grw.upd hx1)
  have nx : x ∉ fpO l st.obs := fun q => w.trkO q hx
  have hf : fpO (l ++ [(x, dx, [])]) (st.obs ++ [⟨c, []⟩]) = fpO l st.obs ++ [x] := by rw [fpO_snoc w.len]; rfl
  have pr : Pre (rho l) (rho (l ++ [(x, dx, [])])) := fun k a h => by
    unfold rho at h ⊢
    rw [List.map_append, List.getElem?_append_left (List.getElem?_eq_some_iff.mp h).1]
    exact h
  have fp : ∀ a ∈ fpO (l ++ [(x, dx, [])]) (st.obs ++ [⟨c, []⟩]), a ∈ fpO l st.obs ∨ H a = none := fun a h => by
    rw [hf] at h
    rcases List.mem_append.mp h with h | h
    · exact .inl h
    · simp at h; subst h; exact .inr hx
  have hA : ∀ a, H a ≠ none → ¬ AV Z s e l st.obs a → ¬ AV Z s e (l ++ [(x, dx, [])]) (st.obs ++ [⟨c, []⟩]) a := fun a ha n z => by
    rcases z with z | z | z
    · exact n (.inl z)
    · exact n (.inr (.inl z))
    · rcases fp a z with z | z
      · exact n (.inr (.inr z))
      · exact ha z
  refine ⟨⟨w.stepSlots (g.step _) pr fp, ?_, ?_, fun a h => (g.step fun _ => False).trk a (w.zt a h), fun a h z => ?_⟩, g.step _, fp, pr, rfl, fun q => by rw [hk] at q; cases q⟩
  · refine Paired.snoc ⟨.nil, ?_⟩ (Paired.mono w.stor fun y ob _ _ q => q.step (vl := fun _ => False) (g.step _) pr (fun _ z => z.elim) hA (fun z => z) fun _ _ z => z)
    cases c with
    | zero => exact absurd rfl hc
    | succ c => exact ⟨by rw [show ((T.names (c + 1)).zip ([] : List V)) = [] from List.zip_nil_right]; exact upd_same, Nat.zero_le _⟩
  · show (ownsE s e ++ fpO (l ++ [(x, dx, [])]) (st.obs ++ [⟨c, []⟩])).Nodup
    rw [hf, ← List.append_assoc]
    refine List.nodup_append.mpr ⟨w.nd, by simp, fun a ha b hb q => ?_⟩
    simp at hb
    subst q hb
    rcases List.mem_append.mp ha with ha | ha
    · exact w.trkE ha hx
    · exact w.trkO ha hx
  · have h : a ∈ ownsE s e ++ fpO (l ++ [(x, dx, [])]) (st.obs ++ [⟨c, []⟩]) := h
    rw [hf, ← List.append_assoc] at h
    rcases List.mem_append.mp h with h | h
    · exact w.zd a h z
    · simp at h; subst h; exact w.zt _ z hx
end
section
variable {X : Cx} {T : CT} {W : WX} {pos p apos : Pos} {a b c x y : Expr} {A B C : EF} {es : List Expr} {As Bs : AF} {k : Nat} {f : Addr} {fd : FuncData} {ps : List Str} {F : Fn} {n : Str}
def tMakeS (C : Addr) (sp : Sp) (E : St → XK) (t : TA) : TE := fun σ H Q => t σ H fun vs H1 => ∀ x dx, H1 x = none → H1 dx = none → dx ≠ x →
  sp (.ref x :: vs) (upd (upd H1 dx (.own x)) x (.ins C dx [])) (fun v H2 => v = .non ∧ Q (.ref x) H2) (E σ)
theorem rd_make {K : PySem.W.Frag} {cn : Nat} {ta : TA} (h0 : cn ≠ 0) (ht : ∀ s H Q, rdA K T W As s H Q → ta s H Q) : ∀ s H Q, rdE K T W (eMake cn F As) s H Q → tMakeS (T.ad cn) (spF K T F) (WE W) ta s H Q := by
  rintro s H Q ⟨Z, l, e, st, w, q⟩
  refine ht _ _ _ ⟨Z, l, e, st, w, ?_⟩
  unfold eMake at q
  cases hA : As e st with
  | bad => rw [hA] at q; exact q
  | ex c s1 => rw [hA] at q; exact q
  | ok ds s1 =>
    rw [hA, R.bind_ok] at q
    intro vs l1 H1 y1 r1 x dx hx hd hne
    cases hk : s1.lk with
    | true => rw [if_pos hk] at q; exact q.elim
    | false =>
      rw [if_neg (by rw [hk]; simp)] at q
      have y2 := y1.wok.newO hk h0 hx hd hne
      have px : (rho (l1 ++ [(x, dx, [])]))[s1.obs.length]? = some x := by
        unfold rho
        rw [List.map_append, List.getElem?_append_right (by rw [List.length_map, y1.wok.len]; exact Nat.le_refl _), List.length_map, y1.wok.len]
        simp
      refine spF_at (Ext.refl y2.wok) (.cons (.obj px) (y2.reps r1)) ?_
      · cases hF : F (.obj s1.obs.length :: ds) { s1 with obs := s1.obs ++ [⟨cn, []⟩] } with
        | bad => rw [hF] at q; exact q
        | ex c s3 => rw [hF] at q; exact fun l' H' y3 => q l' H' ((y1.trans y2).trans y3)
        | ok z s3 =>
          rw [hF, R.bind_ok] at q
          intro v l' H' y3 r3
          cases z with
          | sh d =>
            cases d with
            | non =>
              cases r3 with
              | sh r3 =>
                cases r3
                exact ⟨rfl, q (.ref x) l' H' ((y1.trans y2).trans y3) (.sh (.obj (y3.pre _ _ px)))⟩
            | _ => exact q.elim
          | _ => exact q.elim
theorem pe_makeS {C : Addr} {sp : Sp} {CX : CXT} {E : St → XK} {t : TA} (M : Mk X.K C f) (G : FnOk X.prog X.w X.K X.mg X.base CX k f fd ps sp) (hr : Room (k + 1) X.A) (hg : Gl X n) (hm : X.mg n = some (.ref C)) (hb : Binds X.K fd ps []) (hx : ∀ σ, PassesAt CX X σ (E σ))
    (ha : PA X (y :: es) t) (hdb : (n == ("__debug__" : Str)) = false := by decide) (he : starEach (y :: es) X.env = (false, eval y X.env) :: starEach es X.env := by rfl) (hpl : (backTo pos (starEach es X.env)).any (·.1) = false := by rfl) :
    PE X (.Call (.Name n p) (y :: es) [] pos) (tMakeS C sp E t) := by
  refine ⟨fun pins s σ H Q I h => ?_⟩
  refine wpAny_Call_Name_kw (ld_glob I hg hm ?_ hdb)
  refine PySem.W.callWith_K (h₀ := X.base) I.ok.mod.kin M.kp (thn (ha.run pos pins s σ H _ I h) fun us s1 ⟨vs, H1, I1, r, q⟩ => ⟨I1.kIn, ?_⟩) he hpl
  exact run_makeS M G hr hb (hx σ) I1 r q
theorem pe_makeS0 {C : Addr} {sp : Sp} {CX : CXT} {E : St → XK} (M : Mk X.K C f) (G : FnOk X.prog X.w X.K X.mg X.base CX k f fd ps sp) (hr : Room (k + 1) X.A) (hg : Gl X n) (hm : X.mg n = some (.ref C)) (hb : Binds X.K fd ps []) (hx : ∀ σ, PassesAt CX X σ (E σ))
    (hdb : (n == ("__debug__" : Str)) = false := by decide) : PE X (.Call (.Name n p) [] [] pos) (tMakeS C sp E tNil) := by
  refine ⟨fun pins s σ H Q I h => ?_⟩
  refine wpAny_Call_Name_kw (ld_glob I hg hm ?_ hdb)
  exact PySem.W.callWith_K0 I.kIn M.kp (run_makeS (us := []) M G hr hb (hx σ) I .nil h)
/-- what the text says of a class's making -/
structure MakeOk (X : Cx) (T : CT) (cn : Nat) (k : Nat) (f : Addr) (fd : FuncData) (ps : List Str) (F : Fn) : Prop where
  ma : Mk X.K (T.ad cn) f
  ok : FnOk X.prog X.w X.K X.mg X.base (L2N.CX X.prog X.w) k f fd ps (spF X.K T F)
  bi : Binds X.K fd ps []
theorem je_make {cn : Nat} (M : MakeOk X T cn k f fd ps F) (hr : Room (k + 1) X.A) (hm : X.mg n = some (.ref (T.ad cn))) (tk : L2N.Takes X W) (ha : PA X (y :: es) (rdA X.K T W As)) (h0 : cn ≠ 0 := by decide) (hg : Gl X n := by rfl)
    (hdb : (n == ("__debug__" : Str)) = false := by decide) (he : starEach (y :: es) X.env = (false, eval y X.env) :: starEach es X.env := by rfl) (hpl : (backTo pos (starEach es X.env)).any (·.1) = false := by rfl) :
    PE X (.Call (.Name n p) (y :: es) [] pos) (rdE X.K T W (eMake cn F As)) :=
  pe_imp (pe_makeS M.ma M.ok hr hg hm M.bi (fun s => L2N.passAt tk s) ha hdb he hpl) (rd_make h0 fun _ _ _ h => h)
theorem je_make0 {cn : Nat} (M : MakeOk X T cn k f fd ps F) (hr : Room (k + 1) X.A) (hm : X.mg n = some (.ref (T.ad cn))) (tk : L2N.Takes X W) (h0 : cn ≠ 0 := by decide) (hg : Gl X n := by rfl) (hdb : (n == ("__debug__" : Str)) = false := by decide) :
    PE X (.Call (.Name n p) [] [] pos) (rdE X.K T W (eMake cn F aNil)) :=
  pe_imp (pe_makeS0 M.ma M.ok hr hg hm M.bi (fun s => L2N.passAt tk s) hdb) (rd_make h0 fun _ _ _ ⟨Z, l, e, st, w, q⟩ => q [] l _ (Ext.refl w) .nil)
end
end Pz

/-! Loops and comprehensions. -/
namespace Pz
open PySem L2 PySem.Spec PyProof.Rows

/-- the iterator J yields what stands for ds, while all but vl stays as it is at H0 -/
def ItOk (K : PySem.W.Frag) (r : List Addr) (A : Addr → Prop) (H0 : Hp) (vl : Addr → Prop) (J : It) (ds : List D) : Prop :=
  ∀ (i : Nat) (Hi : Hp), Step vl H0 Hi → (∀ d, ds[i]? = some d → J.go i Hi ∧ ∀ x Hy, J.yld i Hi x Hy → Grw Hi Hy ∧ ∀ (r' : List Addr) (A' : Addr → Prop), Pre r r' → (∀ a, H0 a ≠ none → ¬ A a → ¬ A' a) → Rep K r' A' Hy x d) ∧ (ds[i]? = none → J.stop i Hi)
/-- what may change within a loop's body; within one over a field's own list the store stands still -/
def volL (b : Bool) (s : List (Option V)) (e : Env) (l : Lay) (st : Store) : Addr → Prop := fun a => a ∈ ownsE s e ∨ (b = false ∧ vol l st a)
def rdI (K : PySem.W.Frag) (T : CT) (W : WX) (I : IF) : TI := fun s H R => ∃ (Z : Addr → Prop) (l : Lay) (e : Env) (st : Store), Wok K T Z l s e H st ∧ match I e st with
  | .ok p st' => ∀ J l' H', Ext K T Z s e l H st l' H' st' → ItOk K (rho l') (AV Z s e l' st'.obs) H' (volL p.2 s e l' st') J p.1 → R J H'
  | .ex c st' => ∀ l' H', Ext K T Z s e l H st l' H' st' → W (T.err c) none s H'
  | .bad => False
theorem pi_imp {X : Cx} {tg x : Expr} {t t' : TI} (h : PI X tg x t) (i : ∀ s H R, t' s H R → t s H R) : PI X tg x t' := ⟨fun pins s σ H R I q => h.run pins s σ H R I (i _ _ _ q)⟩

section
variable {K : PySem.W.Frag} {T : CT} {W : WX} {Z A vl : Addr → Prop} {r : List Addr} {H H' H0 H1 H2 : Hp} {l l' l1 l2 : Lay} {s s' s1 s2 : List (Option V)} {e e' e1 e2 : Env} {st st' st1 st2 : Store}
theorem SqL.rd {a : Addr} {vs : List V} (h : Rd H a (.lst vs)) : SqL K H a vs := .inl h
theorem rd_fun {a : Addr} {vs ws : List V} (h : Rd H a (.lst vs)) (h' : SqL K H a ws) (hk : H a ≠ none := by exact Rd.trk h) : True := trivial
/-- a list at a that stays -/
theorem itOk_lst {a : Addr} {vs : List V} {ds : List D} (h : Rd H0 a (.lst vs)) (n : ¬ vl a) (hv : ∀ a, vl a → A a) (hr : Reps K r A H0 vs ds) : ItOk K r A H0 vl (Itl K a) ds := fun i Hi y => by
  have h1 : SqL K Hi a vs := SqL.rd (Rd.step h y n)
  refine ⟨fun d hd => ?_, fun hd => ⟨vs, h1, by rw [hr.length]; exact List.getElem?_eq_none_iff.mp hd⟩⟩
  obtain ⟨v, hv', rv⟩ := hr.get hd
  refine ⟨⟨vs, v, h1, hv'⟩, fun x Hy q => ?_⟩
  obtain ⟨rfl, q⟩ := q
  have := q vs h1
  rw [hv'] at this
  cases this
  exact ⟨Grw.refl _, fun r' A' p hA => rv.step y p hv hA⟩
theorem itOk_k {a : Addr} {vs : List V} {ds : List D} (h : KLst K a vs) (hv : ∀ a, vl a → A a) (hr : Reps K r A H0 vs ds) : ItOk K r A H0 vl (Itl K a) ds := fun i Hi y => by
  have h1 : SqL K Hi a vs := .inr h
  refine ⟨fun d hd => ?_, fun hd => ⟨vs, h1, by rw [hr.length]; exact List.getElem?_eq_none_iff.mp hd⟩⟩
  obtain ⟨v, hv', rv⟩ := hr.get hd
  refine ⟨⟨vs, v, h1, hv'⟩, fun x Hy q => ?_⟩
  obtain ⟨rfl, q⟩ := q
  have := q vs h1
  rw [hv'] at this
  cases this
  exact ⟨Grw.refl _, fun r' A' p hA => rv.step y p hv hA⟩
theorem itOk_ls {a : Addr} {vs : List V} {ds : List D} (h : LsA K A H0 a vs) (hv : ∀ a, vl a → A a) (hr : Reps K r A H0 vs ds) : ItOk K r A H0 vl (Itl K a) ds := by
  rcases h with h | h
  · exact itOk_lst h.1 (fun z => h.2 (hv _ z)) hv hr
  · exact itOk_k h hv hr
theorem itOk_tup {a : Addr} {vs : List V} {ds : List D} (h : SqT K H0 a vs) (hv : ∀ a, vl a → A a) (hr : Reps K r A H0 vs ds) : ItOk K r A H0 vl (Itt K a) ds := fun i Hi y => by
  have h1 : SqT K Hi a vs := SqT.step h y
  refine ⟨fun d hd => ?_, fun hd => ⟨vs, h1, by rw [hr.length]; exact List.getElem?_eq_none_iff.mp hd⟩⟩
  obtain ⟨v, hv', rv⟩ := hr.get hd
  refine ⟨⟨vs, v, h1, hv'⟩, fun x Hy q => ?_⟩
  obtain ⟨rfl, q⟩ := q
  have := q vs h1
  rw [hv'] at this
  cases this
  exact ⟨Grw.refl _, fun r' A' p hA => rv.step y p hv hA⟩
theorem upto_get : ∀ {n : Nat} {lo : Int} {i : Nat} {d : D}, (upto n lo)[i]? = some d → i < n ∧ d = .int (lo + i)
  | 0, _, _, _, h => by simp [upto] at h
  | n + 1, lo, 0, d, h => by
    simp [upto] at h
    exact ⟨by omega, by rw [← h]; simp⟩
  | n + 1, lo, i + 1, d, h => by
    have h : (upto n (lo + 1))[i]? = some d := by simpa [upto] using h
    obtain ⟨h1, h2⟩ := upto_get h
    refine ⟨by omega, ?_⟩
    rw [h2]
    congr 1
    push_cast
    omega
theorem upto_len : ∀ (n : Nat) (lo : Int), (upto n lo).length = n
  | 0, _ => rfl
  | n + 1, lo => by simp [upto, upto_len n]
theorem itOk_rng {lo : Int} {n : Nat} : ItOk K r A H0 vl (Itr lo n) (upto n lo) := fun i Hi y => by
  refine ⟨fun d hd => ?_, fun hd => ?_⟩
  · obtain ⟨h1, rfl⟩ := upto_get hd
    exact ⟨h1, fun x Hy q => by obtain ⟨rfl, rfl⟩ := q; exact ⟨Grw.refl _, fun _ _ _ _ => .int _⟩⟩
  · have := List.getElem?_eq_none_iff.mp hd
    rw [upto_len] at this
    exact this
theorem volL_sub {b : Bool} {a : Addr} (h : volL b s e l st a) : AV Z s e l st.obs a := by
  rcases h with h | h
  · exact .inr (.inl h)
  · exact .inr (.inr h.2.2)
theorem itOk_str {x : Str} : ItOk K r A H0 vl (Its x) (chars x) := fun i Hi y => by
  unfold chars
  refine ⟨fun d hd => ?_, fun hd => ?_⟩
  · rw [List.getElem?_map] at hd
    cases hc : x.cps.toList[i]? with
    | none => rw [hc] at hd; cases hd
    | some c =>
      rw [hc] at hd
      cases hd
      have hi : i < x.cps.size := by
        have := (List.getElem?_eq_some_iff.mp hc).1
        simpa using this
      refine ⟨hi, fun v Hy q => ?_⟩
      obtain ⟨rfl, c', hc', rfl⟩ := q
      have : c' = c := by
        rw [Array.getElem?_toList] at hc
        rw [hc] at hc'
        exact (Option.some.inj hc').symm
      subst this
      exact ⟨Grw.refl _, fun _ _ _ _ => .str _⟩
  · have := List.getElem?_eq_none_iff.mp hd
    show x.cps.size ≤ i
    simpa using this
end

/-! ### what is walked -/
section
variable {X : Cx} {T : CT} {W : WX} {pos p apos : Pos} {a b c x y tg : Expr} {A B C : EF} {es : List Expr}
/-- a list or a tuple -/
def iSeq (K : PySem.W.Frag) (tl : TE) : TI := fun σ H R => tl σ H fun x H1 => ∃ a, x = .ref a ∧ ((∃ xs, SqL K H1 a xs) ∧ R (Itl K a) H1 ∨ (∃ xs, SqT K H1 a xs) ∧ R (Itt K a) H1)
theorem pi_seq {tl : TE} (hl : PE X x tl) : PI X tg x (iSeq X.K tl) := by
  refine ⟨fun pins s σ H R I h => ?_⟩
  refine thn (hl.run pins s σ H _ I h) fun v s1 ⟨x, H1, I1, r1, q1⟩ => ?_
  obtain ⟨a, e, q1⟩ := q1
  subst e
  cases r1
  rcases q1 with ⟨⟨xs, hq⟩, q⟩ | ⟨⟨xs, hq⟩, q⟩
  · obtain ⟨its, rv, p, hz⟩ := I1.list hq
    refine wpAny_pyIter_list p.isList ?_
    refine ⟨s1.heap.objs.size, [s1.heap.objs.size], _, _, H1, rfl, I1.kept (t' := s1.toks) fun b o e => Heap.get?_push_of_some _ e, turn_list a _, ⟨_, Heap.get?_push_size _ rfl, rfl, rfl⟩, fun b hb => ?_, q⟩
    have e : b = s1.heap.objs.size := by simpa using hb
    subst e
    exact I1.fpOk (Nat.le_refl _) (I1.hok.fresh (Nat.le_refl _))
  · obtain ⟨its, rv, p, hz⟩ := I1.tuple hq
    refine wpAny_pyIter_tuple (show s1.heap.IsTuple a its.toArray from p) ?_
    refine ⟨s1.heap.objs.size, [s1.heap.objs.size], _, _, H1, rfl, I1.kept (t' := s1.toks) fun b o e => Heap.get?_push_of_some _ e, turn_tuple a _, ⟨_, Heap.get?_push_size _ rfl, rfl, rfl⟩, fun b hb => ?_, q⟩
    have e : b = s1.heap.objs.size := by simpa using hb
    subst e
    exact I1.fpOk (Nat.le_refl _) (I1.hok.fresh (Nat.le_refl _))

theorem ji_seq (ha : PE X x (rdE X.K T W A)) : PI X tg x (rdI X.K T W (itSeq A)) := by
  refine pi_imp (pi_seq ha) ?_
  rintro s H RR ⟨Z, l, e, st, w, q⟩
  refine ⟨Z, l, e, st, w, ?_⟩
  unfold itSeq at q
  cases hA : A e st with
  | bad => rw [hA] at q; exact q
  | ex c s1 => rw [hA] at q; exact q
  | ok z s1 =>
    rw [hA, R.bind_ok] at q
    intro v l1 H1 y1 r1
    cases z with
    | sh d =>
      cases d with
      | lst xs =>
        cases r1 with
        | sh r1 =>
          cases r1 with
          | @lst a vs _ h1 h3 => exact ⟨a, rfl, .inl ⟨⟨vs, h1.sq⟩, q _ l1 H1 y1 (itOk_ls h1 (fun _ z => volL_sub z) h3)⟩⟩
      | tup xs =>
        cases r1 with
        | sh r1 =>
          cases r1 with
          | @tup a vs _ h1 h3 => exact ⟨a, rfl, .inr ⟨⟨vs, h1⟩, q _ l1 H1 y1 (itOk_tup h1 (fun _ z => volL_sub z) h3)⟩⟩
      | _ => exact q.elim
    | ow d =>
      cases d with
      | lst xs =>
        have r2 := r1.frz
        cases r2 with
        | @lst a vs _ h1 h3 => exact ⟨a, rfl, .inl ⟨⟨vs, h1.sq⟩, q _ l1 H1 y1 (itOk_ls h1 (fun _ z => volL_sub z) h3)⟩⟩
      | _ => exact q.elim
    | bw i d => exact q.elim
    | fb k f d =>
      cases d with
      | lst xs =>
        cases r1 with
        | fb h1 h2 h3 h4 =>
          obtain ⟨a, rfl, hm, ho⟩ := VRep.ownF y1.wok h1 h2 h3 h4
          cases ho with
          | @lst vs _ g1 g2 =>
            refine ⟨a, rfl, .inl ⟨⟨vs, .inl (.inl g1)⟩, q _ l1 H1 y1 (itOk_lst (.inl g1) (fun z => ?_) (fun _ z => volL_sub z) g2)⟩⟩
            rcases z with z | z
            · exact (List.nodup_append.mp y1.wok.nd).2.2 a z a hm rfl
            · exact absurd z.1 (by simp)
      | _ => exact q.elim
theorem ji_range1 (ha : PE X a (rdE X.K T W A)) (hm : X.mg "range" = none) (hg : Gl X "range" := by rfl) (hs : starEach [a] X.env = [(false, eval a X.env)] := by rfl) (hs2 : starEach [a] X.env = (false, eval a X.env) :: starEach [] X.env := by rfl) : PI X tg (.Call (.Name "range" p) [a] [] pos) (rdI X.K T W (itR1 A)) := by
  refine pi_imp (pi_range1 hg hm (pa_cons ha pa_nil hs2) hs) ?_
  rintro s H RR ⟨Z, l, e, st, w, q⟩
  refine ⟨Z, l, e, st, w, ?_⟩
  unfold itR1 at q
  cases hA : A e st with
  | bad => rw [hA] at q; exact q
  | ex c s1 => rw [hA] at q; exact q
  | ok z s1 =>
    rw [hA, R.bind_ok] at q
    intro v l1 H1 y1 r1
    cases z with
    | sh d =>
      cases d with
      | int n =>
        cases r1 with
        | sh r1 =>
          cases r1
          by_cases hb : -(2 ^ 62) ≤ n ∧ n < 2 ^ 62
          · have q : (match (if -(2 ^ 62) ≤ n ∧ n < 2 ^ 62 then R.ok (upto n.toNat 0, false) s1 else .bad) with
              | .ok p st' => ∀ J l' H', Ext X.K T Z s e l H st l' H' st' → ItOk X.K (rho l') (AV Z s e l' st'.obs) H' (volL p.2 s e l' st') J p.1 → RR J H'
              | .ex c st' => ∀ l' H', Ext X.K T Z s e l H st l' H' st' → W (T.err c) none s H'
              | .bad => False) := q
            rw [if_pos hb] at q
            exact ⟨n, rfl, hb.1, hb.2, q _ l1 H1 y1 itOk_rng⟩
          · have q : (match (if -(2 ^ 62) ≤ n ∧ n < 2 ^ 62 then R.ok (upto n.toNat 0, false) s1 else .bad) with
              | .ok p st' => ∀ J l' H', Ext X.K T Z s e l H st l' H' st' → ItOk X.K (rho l') (AV Z s e l' st'.obs) H' (volL p.2 s e l' st') J p.1 → RR J H'
              | .ex c st' => ∀ l' H', Ext X.K T Z s e l H st l' H' st' → W (T.err c) none s H'
              | .bad => False) := q
            rw [if_neg hb] at q
            exact q.elim
      | _ => exact q.elim
    | _ => exact q.elim
theorem ji_str (ha : PE X a (rdE X.K T W A)) : PI X tg a (rdI X.K T W (itStr A)) := by
  refine pi_imp (pi_str ha) ?_
  rintro s H RR ⟨Z, l, e, st, w, q⟩
  refine ⟨Z, l, e, st, w, ?_⟩
  unfold itStr at q
  cases hA : A e st with
  | bad => rw [hA] at q; exact q
  | ex c s1 => rw [hA] at q; exact q
  | ok z s1 =>
    rw [hA, R.bind_ok] at q
    intro v l1 H1 y1 r1
    cases z with
    | sh d =>
      cases d with
      | str n =>
        cases r1 with
        | sh r1 => cases r1; exact ⟨n, rfl, q _ l1 H1 y1 itOk_str⟩
      | _ => exact q.elim
    | _ => exact q.elim
end

/-! ### targets -/
def rdG (K : PySem.W.Frag) (T : CT) (g : GF) : TG := fun v s H Q => ∃ (Z : Addr → Prop) (l : Lay) (e : Env) (st : Store) (d : D) (e' : Env), Wok K T Z l s e H st ∧ Rep K (rho l) (AV Z s e l st.obs) H v d ∧ g d e = some e' ∧ ∀ s', NExt K T Z s e l H st s' e' l H st → Q s' H
def rdGs (K : PySem.W.Frag) (T : CT) (g : GsF) : TGs := fun v s H Q => ∃ (Z : Addr → Prop) (l : Lay) (e : Env) (st : Store) (d : List D) (e' : Env), Wok K T Z l s e H st ∧ Reps K (rho l) (AV Z s e l st.obs) H v d ∧ g d e = some e' ∧ ∀ s', NExt K T Z s e l H st s' e' l H st → Q s' H
section
variable {X : Cx} {T : CT} {pos : Pos} {g : GF} {gs : GsF} {es : List Expr} {x : Expr}
theorem jg_name {i : Nat} {n : Str} (hN : X.N.Nodup) (hi : X.N[i]? = some n := by rfl) (hx : Loc X.env.scope n := by first | exact .inl rfl | exact .inr rfl) (hf : X.fn n = true ∨ X.env.scope.names.lookup n = some .local := by first | exact .inl rfl | exact .inr rfl) :
    PG X (.Name n pos) (rdG X.K T (gN i)) := by
  have h := pg_name (X := X) (pos := pos) hN hi hx hf
  refine ⟨fun pins s σ H v u Q I r hw => h.run pins s σ H v u Q I r ?_⟩
  obtain ⟨Z, l, e, st, d, e', w, rr, hg, k⟩ := hw
  have hl := I.len
  unfold gN at hg
  cases hg
  exact k _ (setSh_ext w (by rw [← w.lenE, hl]; exact lt_of_name hi) rr)
theorem jgs_nil : PGs X [] (rdGs X.K T gsNil) := by
  have h := pgs_nil (X := X)
  refine ⟨fun pins s σ H vs us Q I r hw => h.run pins s σ H vs us Q I r ?_⟩
  obtain ⟨Z, l, e, st, d, e', w, rr, hg, k⟩ := hw
  unfold gsNil at hg
  cases d with
  | nil => cases hg; cases rr; exact ⟨rfl, k _ (NExt.refl w)⟩
  | cons _ _ => cases hg
theorem jgs_cons (h1 : PG X x (rdG X.K T g)) (h2 : PGs X es (rdGs X.K T gs)) (hs : (assignEach (x :: es) X.env).map (·.2) = assign x X.env :: (assignEach es X.env).map (·.2) := by rfl) : PGs X (x :: es) (rdGs X.K T (gsCons g gs)) := by
  have h := pgs_cons h1 h2 hs
  refine ⟨fun pins s σ H vs us Q I r hw => h.run pins s σ H vs us Q I r ?_⟩
  obtain ⟨Z, l, e, st, d, e', w, rr, hg, k⟩ := hw
  cases rr with
  | nil => cases hg
  | @cons v vr d ds r1 r2 =>
    have hg : (g d e).bind (fun e1 => gs ds e1) = some e' := hg
    cases hg1 : g d e with
    | none => rw [hg1] at hg; cases hg
    | some e1 =>
      rw [hg1, Option.bind_some] at hg
      exact ⟨v, vr, rfl, Z, l, e, st, d, e1, w, r1, hg1, fun s' y => ⟨Z, l, e1, st, ds, e', y.x.wok, y.x.reps r2, hg, fun s'' y' => k s'' (y.tr y')⟩⟩
theorem jg_tup {n : Nat} {k : Nat} (hc : X.calm = true) (h1 : PGs X es (rdGs X.K T gs)) (hn : (assignEach es X.env).length = n := by rfl) (hst : (assignEach es X.env).findIdx? (·.1) = none := by rfl) : PG X (.Tuple es k pos) (rdG X.K T (gT n gs)) := by
  have h := pg_tup (pos := pos) (k := k) hc h1 hn hst
  refine ⟨fun pins s σ H v u Q I r hw => h.run pins s σ H v u Q I r ?_⟩
  obtain ⟨Z, l, e, st, d, e', w, rr, hg, k⟩ := hw
  cases rr with
  | @tup a vs ds q1 q2 =>
    have hg : (if ds.length = n then gs ds e else none) = some e' := hg
    by_cases hl : ds.length = n
    · rw [if_pos hl] at hg
      exact ⟨a, vs, rfl, q1, by rw [q2.length]; exact hl, Z, l, e, st, ds, e', w, q2, hg, k⟩
    · rw [if_neg hl] at hg; cases hg
  | _ => cases hg
end

/-! ### for -/
section
variable {K : PySem.W.Frag} {T : CT} {W : WX} {Z A vl : Addr → Prop} {H H' H0 H1 H2 : Hp} {l l' l1 l2 : Lay} {s s' s1 s2 : List (Option V)} {e e' e1 e2 : Env} {st st' st1 st2 : Store}
theorem Wok.lock (w : Wok K T Z l s e H st) (b : Bool) : Wok K T Z l s e H { st with lk := b } := ⟨w.slots, w.stor, w.nd, w.zt, w.zd⟩
theorem SExt.unlock (x : SExt K T Z s e l H { st with lk := true } s' e' l' H' st') : SExt K T Z s e l H st s' e' l' H' { st' with lk := st.lk } :=
  ⟨x.wok.lock _, x.step.mono fun a _ q => by
    rcases q with q | q
    · exact .inl q
    · exact absurd q.1 (by simp), x.fe, x.fo, x.pre, rfl, fun _ => x.lkd rfl⟩
theorem NExt.unlock (x : NExt K T Z s e l H { st with lk := true } s' e' l' H' st') : NExt K T Z s e l H st s' e' l' H' { st' with lk := st.lk } := ⟨x.x.unlock, x.len⟩
theorem VRep.lock {N0 : Addr → Prop} {v : V} {x : Val} {b : Bool} (h : VRep K T Z s e l H st N0 v x) : VRep K T Z s e l H { st with lk := b } N0 v x := by
  cases h with
  | sh h => exact .sh h
  | ow h1 hz h2 h3 => exact .ow h1 hz (h2.lock _) h3
  | bw h1 h2 => exact .bw h1 h2
  | fb h1 h2 h3 h4 => exact .fb h1 h2 h3 h4
theorem outP.unlock {D : Ends} {o : Out} (h : outP K T W D Z s e l H st (o.unlock st.lk)) : outP K T W D Z s e l H { st with lk := true } o := by
  cases o with
  | nx e' st' => exact fun s' l' H' x => h s' l' H' x.unlock
  | bk e' st' => exact fun s' l' H' x => h s' l' H' x.unlock
  | ct e' st' => exact fun s' l' H' x => h s' l' H' x.unlock
  | ex c e' st' => exact fun s' l' H' x => h s' l' H' x.unlock
  | rt x st' => exact fun v l' H' z r => h v l' H' z.unlock r.lock
  | bad => exact h
end
section
variable {X : Cx} {T : CT} {W : WX} {pos : Pos} {g : GF} {B : SF} {I : IF} {tg iter : Expr} {body : List Stmt}
theorem rd_for {K : PySem.W.Frag} {D : Ends} {Z : Addr → Prop} {l : Lay} {s : List (Option V)} {e : Env} {H : Hp} {st : Store} {J : It} {ds : List Pz.D} (w : Wok K T Z l s e H st)
    (ok : ItOk K (rho l) (AV Z s e l st.obs) H (volS s e l st) J ds) (q : outP K T W D Z s e l H st (forL g B ds e st)) :
    ∃ Wd : Nat → Nat → L2.St → Hp → Prop, (∃ m, Wd 0 m s H) ∧ ∀ i m σ H, Wd i m σ H →
      (J.stop i H ∧ D.nx σ H) ∨ (J.go i H ∧ ∃ N : L2.St → Hp → Prop, (∀ σ' H', N σ' H' → ∃ m', m' < m ∧ Wd (i + 1) m' σ' H') ∧ ∀ x H', J.yld i H x H' → rdG K T g x σ H' fun σ2 H2 => rdS K T W B { D with nx := N, ct := N, bk := D.nx } σ2 H2) := by
  refine ⟨fun i m σ H' => m = ds.length - i ∧ i ≤ ds.length ∧ ∃ e' l' st', NExt K T Z s e l H st σ e' l' H' st' ∧ outP K T W D Z σ e' l' H' st' (forL g B (ds.drop i) e' st'), ⟨ds.length, by simp, Nat.zero_le _, e, l, st, NExt.refl w, q⟩, ?_⟩
  rintro i m σ H' ⟨rfl, hi, e', l', st', x, o⟩
  obtain ⟨g1, g2⟩ := ok i H' x.x.step
  by_cases hlt : i < ds.length
  · have hd : ds[i]? = some ds[i] := List.getElem?_eq_getElem hlt
    have hdr : ds.drop i = ds[i] :: ds.drop (i + 1) := List.drop_eq_getElem_cons hlt
    obtain ⟨go, yl⟩ := g1 _ hd
    rw [hdr] at o
    unfold forL at o
    refine .inr ⟨go, fun σ' H'' => i + 1 ≤ ds.length ∧ ∃ e'' l'' st'', NExt K T Z s e l H st σ' e'' l'' H'' st'' ∧ outP K T W D Z σ' e'' l'' H'' st'' (forL g B (ds.drop (i + 1)) e'' st''), ?_, fun v Hy yy => ?_⟩
    · rintro σ' H'' ⟨h1, e'', l'', st'', x2, o2⟩
      exact ⟨ds.length - (i + 1), by omega, rfl, h1, e'', l'', st'', x2, o2⟩
    · obtain ⟨gr, rp⟩ := yl v Hy yy
      have xg : NExt K T Z σ e' l' H' st' σ e' l' Hy st' := (Ext.grow x.x.wok gr).toN
      have rv := rp (rho l') (AV Z σ e' l' st'.obs) x.x.pre fun a ha n => x.x.av ha n
      cases hg : g ds[i] e' with
      | none => rw [hg] at o; exact o.elim
      | some e1 =>
        rw [hg, Out.ofOpt_some] at o
        refine ⟨Z, l', e', st', ds[i], e1, xg.x.wok, rv, hg, fun s2 y2 => rds_mk y2.x.wok ?_⟩
        have xx := xg.tr y2
        cases hB : B e1 st' with
        | nx e2 st2 =>
          rw [hB] at o
          exact fun s3 l3 H3 y3 => ⟨hlt, e2, l3, st2, x.tr (xx.tr y3), outP.ahead (xx.tr y3) o⟩
        | ct e2 st2 =>
          rw [hB] at o
          exact fun s3 l3 H3 y3 => ⟨hlt, e2, l3, st2, x.tr (xx.tr y3), outP.ahead (xx.tr y3) o⟩
        | bk e2 st2 =>
          rw [hB] at o
          exact fun s3 l3 H3 y3 => o s3 l3 H3 (xx.tr y3)
        | ex c e2 st2 =>
          rw [hB] at o
          exact fun s3 l3 H3 y3 => o s3 l3 H3 (xx.tr y3)
        | rt v2 st2 =>
          rw [hB] at o
          exact fun u l3 H3 y3 r3 => o u l3 H3 (xx.x.tr y3) (r3.aheadS xx.x)
        | bad => rw [hB] at o; exact o
  · have hn : ds.drop i = [] := List.drop_eq_nil_of_le (by omega)
    rw [hn] at o
    exact .inl ⟨g2 (List.getElem?_eq_none_iff.mpr (by omega)), o σ l' H' (NExt.refl x.x.wok)⟩
theorem js_for (hp : PassesOwn (model X.prog X.w) X.A X.env X.xe) (hc : X.calm = true) (hi : PI X tg iter (rdI X.K T W I)) (hg : PG X tg (rdG X.K T g)) (hb : PSs X body (rdS X.K T W B)) (hs : ∀ x, foldedSetIterable iter X.env x = pure x := by intro _; rfl) :
    PS X (.For tg iter body [] pos) (rdS X.K T W (sFor g I B)) := ps_imp (ps_for hp hc hi hg hb hs) fun D s H q => by
  obtain ⟨Z, l, e, st, w, q⟩ := rdS_iff.mp q
  refine ⟨Z, l, e, st, w, ?_⟩
  unfold sFor at q
  cases hI : I e st with
  | bad => rw [hI] at q; exact q
  | ex c s1 => rw [hI] at q; exact fun l' H' y => q s l' H' y.toN
  | ok p s1 =>
    rw [hI, R.out_ok] at q
    intro J l1 H1 y ok
    cases hp2 : p.2 with
    | false =>
      rw [hp2, if_neg Bool.false_ne_true] at q
      rw [hp2] at ok
      have ok' : ItOk X.K (rho l1) (AV Z s e l1 s1.obs) H1 (volS s e l1 s1) J p.1 := fun i Hi x => ok i Hi (x.mono fun a _ z => z.imp id fun z => ⟨rfl, z⟩)
      exact rd_for y.wok ok' (outP.ahead y.toN q)
    | true =>
      rw [hp2, if_pos rfl] at q
      rw [hp2] at ok
      have ok' : ItOk X.K (rho l1) (AV Z s e l1 s1.obs) H1 (volS s e l1 { s1 with lk := true }) J p.1 := fun i Hi x => ok i Hi (x.mono fun a _ z => by
        rcases z with z | z
        · exact .inl z
        · exact absurd z.1 (by simp))
      exact rd_for (st := { s1 with lk := true }) (y.wok.lock true) ok' (outP.unlock (outP.ahead y.toN q))
theorem rd_while {K : PySem.W.Frag} {D : Ends} {t : TF} : ∀ (n : Nat) {Z : Addr → Prop} {l : Lay} {s : List (Option V)} {e : Env} {H : Hp} {st : Store}, Wok K T Z l s e H st → outP K T W D Z s e l H st (whileN t B n e st) →
    tWhile (rdT K T W t) (rdS K T W B) D s H := fun n Z l s e H st w q => by
  refine ⟨fun m σ H' => ∃ e' l' st', NExt K T Z s e l H st σ e' l' H' st' ∧ outP K T W D Z σ e' l' H' st' (whileN t B m e' st'), ⟨n, e, l, st, NExt.refl w, q⟩, ?_⟩
  rintro m σ H' ⟨e', l', st', x, o⟩
  cases m with
  | zero => exact o.elim
  | succ m =>
    unfold whileN at o
    refine rd_outT x.x.wok o fun k st1 l1 H1 _ y o => ?_
    cases k with
    | false =>
      rw [if_neg Bool.false_ne_true] at o ⊢
      exact o σ l1 H1 y.toN
    | true =>
      rw [if_pos rfl] at o ⊢
      refine ⟨fun σ' H'' => ∃ e'' l'' st'', NExt K T Z s e l H st σ' e'' l'' H'' st'' ∧ outP K T W D Z σ' e'' l'' H'' st'' (whileN t B m e'' st''), fun σ' H'' h => ⟨m, Nat.lt_succ_self m, h⟩, rds_mk y.wok ?_⟩
      have xx := y.toN
      cases hB : B e' st1 with
      | nx e2 st2 =>
        rw [hB] at o
        exact fun s3 l3 H3 y3 => ⟨e2, l3, st2, x.tr (xx.tr y3), outP.ahead (xx.tr y3) o⟩
      | ct e2 st2 =>
        rw [hB] at o
        exact fun s3 l3 H3 y3 => ⟨e2, l3, st2, x.tr (xx.tr y3), outP.ahead (xx.tr y3) o⟩
      | bk e2 st2 =>
        rw [hB] at o
        exact fun s3 l3 H3 y3 => o s3 l3 H3 (xx.tr y3)
      | ex c e2 st2 =>
        rw [hB] at o
        exact fun s3 l3 H3 y3 => o s3 l3 H3 (xx.tr y3)
      | rt v2 st2 =>
        rw [hB] at o
        exact fun u l3 H3 y3 r3 => o u l3 H3 (xx.x.tr y3) (r3.aheadS xx.x)
      | bad => rw [hB] at o; exact o
theorem js_while {t : TF} {c : Expr} (n : Nat) (hp : PassesOwn (model X.prog X.w) X.A X.env X.xe) (hc : PT X c (rdT X.K T W t)) (hb : PSs X body (rdS X.K T W B)) : PS X (.While c body [] pos) (rdS X.K T W (sWhile n t B)) := ps_imp (ps_while hp hc hb) fun D s H q => by
  obtain ⟨Z, l, e, st, w, q⟩ := rdS_iff.mp q
  exact rd_while n w q
end

/-! ### comprehensions -/
section
variable {K : PySem.W.Frag} {T : CT} {W : WX} {Z Z' A vl : Addr → Prop} {H H' H0 H1 H2 : Hp} {l l' l1 l2 : Lay} {s s' s1 s2 : List (Option V)} {e e' e1 e2 : Env} {st st' st1 st2 : Store}
/-- what is kept away has changed -/
theorem Wok.stepZ (w : Wok K T Z l s e H st) (x : Step vl H H') (hv : ∀ a, vl a → Z a) : Wok K T Z l s e H' st :=
  ⟨Paired.monoI w.slots fun i u f hu hf q => q.step x (Pre.refl _) (fun a z => .inl (hv a z)) (fun _ _ n => n) fun a d e1 e2 z => by
      subst e1 e2
      exact w.zd a (List.mem_append_left _ (mem_ownsE_of hu hf)) (hv a z),
   Paired.monoI w.stor fun i y ob hy hob q => q.step x (Pre.refl _) (fun a z => .inl (hv a z)) (fun _ _ n => n) (fun z => w.zd _ (List.mem_append_right _ (mem_fpO_of (l := l) (obs := st.obs) (p := y.1) (dx := y.2.1) (vs := y.2.2) hy hob (.inl rfl))) (hv _ z))
      fun a ha z => w.zd a (List.mem_append_right _ (mem_fpO_of (l := l) (obs := st.obs) (p := y.1) (dx := y.2.1) (vs := y.2.2) hy hob (.inr ha))) (hv _ z),
   w.nd, fun a h => x.trk a (w.zt a h), w.zd⟩
theorem step_upd {a : Addr} {o u : HO} (h : H a = some o) (n1 : ∀ vs, o ≠ .tup vs) (n2 : ∀ ob v, o ≠ .frz ob v) : Step (fun b => b = a) H (upd H a u) :=
  ⟨fun b v e n => by rw [upd_ne n]; exact e, fun b vs e => by
    by_cases hb : b = a
    · subst hb; rw [h] at e; cases e; exact absurd rfl (n1 vs)
    · rw [upd_ne hb]; exact e, fun b ob v e => by
    by_cases hb : b = a
    · subst hb; rw [h] at e; cases e; exact absurd rfl (n2 ob v)
    · rw [upd_ne hb]; exact e, fun b e => by
    by_cases hb : b = a
    · subst hb; rw [upd_same]; simp
    · rw [upd_ne hb]; exact e⟩
theorem Wok.reZ (w : Wok K T Z l s e H st) (hA : ∀ a, AV Z' s e l st.obs a → AV Z s e l st.obs a) (zt : ∀ a, Z' a → H a ≠ none) (zd : ∀ a, a ∈ ownsE s e ++ fpO l st.obs → ¬ Z' a) : Wok K T Z' l s e H st :=
  ⟨Paired.mono w.slots fun _ _ _ _ q => q.step (Step.refl (fun _ => False) H) (Pre.refl _) (fun _ z => z.elim) (fun a _ n z => n (hA a z)) fun _ _ _ _ z => z,
    Paired.mono w.stor fun _ _ _ _ q => q.step (Step.refl (fun _ => False) H) (Pre.refl _) (fun _ z => z.elim) (fun a _ n z => n (hA a z)) (fun z => z) fun _ _ z => z, w.nd, zt, zd⟩
/-- some slots forgotten: what they owned is kept away -/
theorem Wok.wipe (w : Wok K T Z l s e H st) : ∀ vs : List Nat, Wok K T (fun a => Z a ∨ (a ∈ ownsE s e ∧ a ∉ ownsE (L2.wipe s vs) (Pz.wipe e vs))) l (L2.wipe s vs) (Pz.wipe e vs) H st ∧ (∀ a ∈ ownsE (L2.wipe s vs) (Pz.wipe e vs), a ∈ ownsE s e)
  | [] => ⟨w.reZ (fun a z => by
      rcases z with (z | z) | z | z
      · exact .inl z
      · exact .inr (.inl z.1)
      · exact .inr (.inl z)
      · exact .inr (.inr z)) (fun a z => by
      rcases z with z | z
      · exact w.zt a z
      · exact absurd z.1 z.2) fun a h z => by
      rcases z with z | z
      · exact w.zd a h z
      · exact absurd z.1 z.2, fun _ h => h⟩
  | i :: vs => by
    obtain ⟨w1, h1⟩ := w.wipe vs
    by_cases hi : i < (Pz.wipe e vs).length
    · obtain ⟨w2, h2⟩ := w1.setNo none hi
      refine ⟨?_, fun a h => h1 a (h2 a h)⟩
      have hA : ∀ a, (Z a ∨ (a ∈ ownsE s e ∧ a ∉ ownsE (L2.wipe s (i :: vs)) (Pz.wipe e (i :: vs)))) ∨ a ∈ ownsE (L2.wipe s (i :: vs)) (Pz.wipe e (i :: vs)) ∨ a ∈ fpO l st.obs → AV (fun a => Z a ∨ (a ∈ ownsE s e ∧ a ∉ ownsE (L2.wipe s vs) (Pz.wipe e vs))) (L2.wipe s vs) (Pz.wipe e vs) l st.obs a := fun a z => by
        rcases z with (z | z) | z | z
        · exact .inl (.inl z)
        · by_cases hm : a ∈ ownsE (L2.wipe s vs) (Pz.wipe e vs)
          · exact .inr (.inl hm)
          · exact .inl (.inr ⟨z.1, hm⟩)
        · exact .inr (.inl (h2 a z))
        · exact .inr (.inr z)
      -- the slots' and objects' values avoid what they avoided
      refine ⟨?_, Paired.mono w1.stor fun _ _ _ _ q => q.step (Step.refl (fun _ => False) H) (Pre.refl _) (fun _ z => z.elim) (fun a _ n z => n (hA a z)) (fun z => z) fun _ _ z => z, w2.nd, fun a z => ?_, fun a h z => ?_⟩
      · exact Paired.setI .no i w1.slots fun j x y _ _ _ q => q.step (Step.refl (fun _ => False) H) (Pre.refl _) (fun _ z => z.elim) (fun a _ n z => n (hA a z)) fun _ _ _ _ z => z
      · rcases z with z | z
        · exact w.zt a z
        · exact w.trkE z.1
      · rcases z with z | z
        · exact w2.zd a h (.inl z)
        · rcases List.mem_append.mp h with h | h
          · exact z.2 h
          · exact (List.nodup_append.mp w.nd).2.2 a z.1 a h rfl
    · have e1 : (L2.wipe s (i :: vs)) = L2.wipe s vs := by
        show (L2.wipe s vs).set i none = _
        exact List.set_eq_of_length_le (by rw [w1.lenE]; omega)
      have e2 : (Pz.wipe e (i :: vs)) = Pz.wipe e vs := by
        show (Pz.wipe e vs).set i none = _
        exact List.set_eq_of_length_le (by omega)
      rw [e1, e2]
      exact ⟨w1, h1⟩
end
end Pz

/-! Comprehensions. -/
namespace Pz
open PySem L2 PySem.Spec PyProof.Rows
def W0 : WX := fun _ _ _ _ => False

section
variable {K : PySem.W.Frag} {T : CT} {W : WX} {Z Z' A vl : Addr → Prop} {H H' H0 H1 H2 : Hp} {l l' l1 l2 : Lay} {s s' s1 s2 : List (Option V)} {e e' e1 e2 : Env} {st st' st1 st2 : Store}
/-- a row of slots set -/
def setV (s : List (Option V)) : List Nat → List V → List (Option V)
  | i :: is, v :: vs => setV (s.set i (some v)) is vs
  | _, _ => s
def setD (e : Env) : List Nat → List D → Env
  | i :: is, d :: ds => setD (e.set i (some (.sh d))) is ds
  | _, _ => e
/-- a block's own slots: unset, or a value that stays -/
def NoOw (e : Env) (is : List Nat) : Prop := ∀ i ∈ is, ∀ d, e[i]? ≠ some (some (.ow d))
theorem setSh_same (w : Wok K T Z l s e H st) {i : Nat} {v : V} {d : D} (hi : i < e.length) (n : ∀ d, e[i]? ≠ some (some (.ow d))) (r : Rep K (rho l) (AV Z s e l st.obs) H v d) :
    Wok K T Z l (s.set i (some v)) (e.set i (some (.sh d))) H st ∧ ownsE (s.set i (some v)) (e.set i (some (.sh d))) = ownsE s e := by
  obtain ⟨L1, M, L2, q1, q2, q3, q4, q5, q6⟩ := ownsE_split (s := s) (e := e) i (by rw [w.lenE]; exact hi) hi
  have hM : M = [] := by
    cases M with
    | nil => rfl
    | cons a M =>
      obtain ⟨d, _, h⟩ := q5 a List.mem_cons_self
      exact absurd h (n d)
  refine ⟨(w.setSh hi r).1, ?_⟩
  rw [q2, q1, hM]
  rfl
theorem noOw_set {is : List Nat} {i : Nat} {d : D} (n : NoOw e is) : NoOw (e.set i (some (.sh d))) is := fun j hj d' h => by
  rw [List.getElem?_set] at h
  split at h
  · split at h
    · cases h
    · cases h
  · exact n j hj d' h
theorem setAll_ok : ∀ {is : List Nat} {vs : List V} {ds : List D} {s : List (Option V)} {e : Env}, Wok K T Z l s e H st → (∀ i ∈ is, i < e.length) → NoOw e is → Reps K (rho l) (AV Z s e l st.obs) H vs ds →
    Wok K T Z l (setV s is vs) (setD e is ds) H st ∧ ownsE (setV s is vs) (setD e is ds) = ownsE s e ∧ (setV s is vs).length = s.length
  | [], _, _, s, e, w, _, _, r => by cases r <;> exact ⟨w, rfl, rfl⟩
  | i :: is, _, _, s, e, w, hi, n, .nil => ⟨w, rfl, rfl⟩
  | i :: is, _, _, s, e, w, hi, n, .cons (v := v) (vs := vs) (d := d) (ds := ds) r rs => by
    obtain ⟨w1, h1⟩ := setSh_same w (hi i List.mem_cons_self) (n i List.mem_cons_self) r
    have hA : AV Z (s.set i (some v)) (e.set i (some (.sh d))) l st.obs = AV Z s e l st.obs := by unfold AV; rw [h1]
    obtain ⟨w2, h2, h3⟩ := setAll_ok (is := is) w1 (fun j hj => by rw [List.length_set]; exact hi j (List.mem_cons_of_mem _ hj)) (noOw_set fun j hj => n j (List.mem_cons_of_mem _ hj)) (by rw [hA]; exact rs)
    exact ⟨w2, h2.trans h1, h3.trans List.length_set⟩
theorem wipe_set {i : Nat} {v : Option V} : ∀ {vs : List Nat} {s : List (Option V)}, i ∈ vs → L2.wipe (s.set i v) vs = L2.wipe s vs
  | [], _, h => by simp at h
  | j :: vs, s, h => by
    show (L2.wipe (s.set i v) vs).set j none = (L2.wipe s vs).set j none
    by_cases hm : i ∈ vs
    · rw [wipe_set hm]
    · have e : i = j := by
        rcases List.mem_cons.mp h with h | h
        · exact h
        · exact absurd h hm
      subst e
      have comm : ∀ {vs : List Nat} {s : List (Option V)}, i ∉ vs → L2.wipe (s.set i v) vs = (L2.wipe s vs).set i v := by
        intro vs
        induction vs with
        | nil => intro s _; rfl
        | cons k vs ih =>
          intro s hk
          show (L2.wipe (s.set i v) vs).set k none = ((L2.wipe s vs).set k none).set i v
          rw [ih (fun z => hk (List.mem_cons_of_mem _ z)), List.set_comm _ _ (fun z : i = k => hk (z ▸ List.mem_cons_self))]
      rw [comm hm, List.set_set]
theorem wipe_mem {vs : List Nat} {s : List (Option V)} {j : Nat} (h : j ∈ vs) : (L2.wipe s vs).set j none = L2.wipe s vs := by
  induction vs with
  | nil => simp at h
  | cons k vs ih =>
    show ((L2.wipe s vs).set k none).set j none = (L2.wipe s vs).set k none
    by_cases e : j = k
    · subst e; rw [List.set_set]
    · have hm : j ∈ vs := by
        rcases List.mem_cons.mp h with h | h
        · exact absurd h e
        · exact h
      rw [List.set_comm _ _ (fun z : k = j => e z.symm), ih hm]
theorem wipe_more {vs : List Nat} {s : List (Option V)} : ∀ {ws : List Nat}, (∀ j ∈ ws, j ∈ vs) → L2.wipe (L2.wipe s vs) ws = L2.wipe s vs
  | [], _ => rfl
  | j :: ws, h => by
    show (L2.wipe (L2.wipe s vs) ws).set j none = _
    rw [wipe_more fun k hk => h k (List.mem_cons_of_mem _ hk), wipe_mem (h j List.mem_cons_self)]
theorem wipe_wipe {vs : List Nat} {s : List (Option V)} : L2.wipe (L2.wipe s vs) vs = L2.wipe s vs := wipe_more fun _ h => h
theorem wipe_setV {vs : List Nat} : ∀ {is : List Nat} {xs : List V} {s : List (Option V)}, (∀ i ∈ is, i ∈ vs) → L2.wipe (setV s is xs) vs = L2.wipe s vs
  | [], xs, s, _ => by cases xs <;> rfl
  | i :: is, [], s, _ => rfl
  | i :: is, x :: xs, s, h => by
    show L2.wipe (setV (s.set i (some x)) is xs) vs = _
    rw [wipe_setV fun j hj => h j (List.mem_cons_of_mem _ hj), wipe_set (h i List.mem_cons_self)]
theorem wipe_no : ∀ {vs : List Nat} {e : Env} {i : Nat}, i ∈ vs → ∀ d, (Pz.wipe e vs)[i]? ≠ some (some (.ow d))
  | [], _, _, h, _ => by simp at h
  | j :: vs, e, i, h, d => by
    show ((Pz.wipe e vs).set j none)[i]? ≠ _
    rw [List.getElem?_set]
    split
    · split
      · simp
      · simp
    · rename_i hne
      rcases List.mem_cons.mp h with h | h
      · exact absurd h.symm hne
      · exact wipe_no h d
theorem wipe_len : ∀ {vs : List Nat} {e : Env}, (Pz.wipe e vs).length = e.length
  | [], _ => rfl
  | j :: vs, e => by
    show ((Pz.wipe e vs).set j none).length = _
    rw [List.length_set, wipe_len]

/-! a target of a comprehension -/
/-- a name (i) or a tuple of names -/
inductive Tg where
  | nm (i : Nat) | tp (is : List Nat)
def Tg.ix : Tg → List Nat
  | .nm i => [i]
  | .tp is => is
def Tg.g : Tg → GF
  | .nm i => gN i
  | .tp is => gT is.length (gsN is)
def gRow : List Nat → TGs
  | [] => gNil
  | i :: is => gCons (gName i) (gRow is)
def Tg.t (K : PySem.W.Frag) : Tg → TG
  | .nm i => gName i
  | .tp is => gTup K is.length (gRow is)
theorem gRow_ok : ∀ {is : List Nat} {vs : List V} {s : List (Option V)} {H : Hp} {Q : L2.St → Hp → Prop}, vs.length = is.length → Q (setV s is vs) H → gRow is vs s H Q
  | [], [], _, _, _, _, q => ⟨rfl, q⟩
  | [], _ :: _, _, _, _, h, _ => by simp at h
  | _ :: _, [], _, _, _, h, _ => by simp at h
  | i :: is, v :: vs, s, H, Q, h, q => ⟨v, vs, rfl, gRow_ok (by simpa using h) q⟩
theorem gsN_ok : ∀ {is : List Nat} {ds : List D} {e e' : Env}, gsN is ds e = some e' → ds.length = is.length ∧ e' = setD e is ds
  | [], [], e, e', h => by cases h; exact ⟨rfl, rfl⟩
  | [], _ :: _, e, e', h => by cases h
  | _ :: _, [], e, e', h => by cases h
  | i :: is, d :: ds, e, e', h => by
    have h : gsN is ds (e.set i (some (.sh d))) = some e' := h
    obtain ⟨h1, h2⟩ := gsN_ok h
    exact ⟨by simp [h1], h2⟩
theorem Tg.ok (t : Tg) {v : V} {d : D} {Q : L2.St → Hp → Prop} (w : Wok K T Z l s e H st) (hi : ∀ i ∈ t.ix, i < e.length) (n : NoOw e t.ix) (r : Rep K (rho l) (AV Z s e l st.obs) H v d) (hg : t.g d e = some e')
    (k : ∀ s', Wok K T Z l s' e' H st → ownsE s' e' = ownsE s e → s'.length = s.length → (∀ vs, (∀ i ∈ t.ix, i ∈ vs) → L2.wipe s' vs = L2.wipe s vs) → Q s' H) : t.t K v s H Q := by
  cases t with
  | nm i =>
    have hg : some (e.set i (some (.sh d))) = some e' := hg
    cases hg
    obtain ⟨w1, h1⟩ := setSh_same w (hi i List.mem_cons_self) (n i List.mem_cons_self) r
    exact k _ w1 h1 List.length_set fun vs hv => wipe_set (hv i List.mem_cons_self)
  | tp is =>
    cases r with
    | @tup a vs ds q1 q2 =>
      have hg : (if ds.length = is.length then gsN is ds e else none) = some e' := hg
      by_cases hl : ds.length = is.length
      · rw [if_pos hl] at hg
        obtain ⟨_, rfl⟩ := gsN_ok hg
        obtain ⟨w1, h1, h2⟩ := setAll_ok w hi n q2
        exact ⟨a, vs, rfl, q1, by rw [q2.length]; exact hl, gRow_ok (by rw [q2.length]; exact hl) (k _ w1 h1 h2 fun vs hv => wipe_setV hv)⟩
      · rw [if_neg hl] at hg; cases hg
    | _ => cases hg

/-- from a block back to the slots around it -/
theorem Ext.unblk {Zb : Addr → Prop} (w : Wok K T Z l s e H st) (hb : ∀ a, (Zb a ∨ a ∈ ownsE s1 e1) ↔ (Z a ∨ a ∈ ownsE s e)) (y : Ext K T Zb s1 e1 l H st l' H' st') : Ext K T Z s e l H st l' H' st' := by
  have hA : ∀ a, AV Z s e l' st'.obs a → AV Zb s1 e1 l' st'.obs a := fun a z => by
    rcases z with z | z | z
    · rcases (hb a).mpr (.inl z) with q | q
      · exact .inl q
      · exact .inr (.inl q)
    · rcases (hb a).mpr (.inr z) with q | q
      · exact .inl q
      · exact .inr (.inl q)
    · exact .inr (.inr z)
  have nF : ∀ a, a ∈ fpO l' st'.obs → ¬ (Zb a ∨ a ∈ ownsE s1 e1) := fun a h z => by
    rcases z with z | z
    · exact y.wok.zd a (List.mem_append_right _ h) z
    · exact (List.nodup_append.mp y.wok.nd).2.2 a z a h rfl
  refine ⟨⟨w.stepSlots y.step y.pre y.fp, Paired.mono y.wok.stor fun _ _ _ _ q => q.step (Step.refl (fun _ => False) H') (Pre.refl _) (fun _ z => z.elim) (fun a _ n z => n (hA a z)) (fun z => z) fun _ _ z => z, ?_, fun a h => ?_, fun a h z => ?_⟩, y.step, y.fp, y.pre, y.lk, y.lkd⟩
  · exact List.nodup_append.mpr ⟨(List.nodup_append.mp w.nd).1, (List.nodup_append.mp y.wok.nd).2.1, fun a ha b hb' q => by subst q; exact nF a hb' ((hb a).mpr (.inr ha))⟩
  · rcases (hb a).mpr (.inl h) with q | q
    · exact y.wok.zt a q
    · exact y.wok.trkE q
  · rcases List.mem_append.mp h with h | h
    · exact w.zd a (List.mem_append_left _ h) z
    · exact nF a h ((hb a).mpr (.inl z))

theorem rd_lc {b : Bool} {t : Tg} {own : List Nat} (hown : ∀ i ∈ t.ix, i ∈ own) (hix : ∀ i ∈ t.ix, i < e.length) {J : It} {ds : List Pz.D} {tt : TF} {A : EF} {Q : VK} (w : Wok K T Z l s e H st) (hb : b = true → st.lk = true)
    (ok : ItOk K (rho l) (AV Z s e l st.obs) H (volL b s e l st) J ds)
    (q : match lcL t.g tt A (Pz.wipe e own) ds [] st with
      | .ok ys st' => ∀ Dd l' H', Ext K T Z s e l H st l' H' st' → VRep K T Z s e l' H' st' (fun a => H a = none) (.ref Dd) (.ow (.lst ys)) → Q (.ref Dd) H'
      | _ => False) :
    ∀ Dd, H Dd = none → ∃ Wd : Nat → Nat → Hp → Prop, (∃ m, Wd 0 m (upd H Dd (.lst []))) ∧ ∀ i m H, Wd i m H →
      (J.stop i H ∧ Q (.ref Dd) H) ∨ (J.go i H ∧ ∃ Nx : Hp → Prop, (∀ H', Nx H' → ∃ m', m' < m ∧ Wd (i + 1) m' H') ∧ ∀ x H', J.yld i H x H' → t.t K x (L2.wipe s own) H' fun s2 H2 => L2.wipe s2 own = L2.wipe s own ∧ rdT K T W0 tt s2 H2 fun b H3 =>
        if b = true then rdE K T W0 A s2 H3 fun y H4 => ∃ acc, H4 Dd = some (.lst acc) ∧ acc.length < sizeLine ∧ Nx (upd H4 Dd (.lst (acc ++ [y]))) else Nx H3) := by
  intro Dd hD
  -- the state at the turn i
  let Inv' : Nat → Hp → Prop := fun i H' => i ≤ ds.length ∧ ∃ l' st' accV acc, Ext K T Z s e l H st l' H' st' ∧ Wok K T (fun a => Z a ∨ a = Dd) l' s e H' st' ∧ H' Dd = some (.lst accV) ∧ Reps K (rho l') (AV (fun a => Z a ∨ a = Dd) s e l' st'.obs) H' accV acc ∧
    (match lcL t.g tt A (Pz.wipe e own) (ds.drop i) acc st' with
      | .ok ys st'' => ∀ Dd l'' H'', Ext K T Z s e l H st l'' H'' st'' → VRep K T Z s e l'' H'' st'' (fun a => H a = none) (.ref Dd) (.ow (.lst ys)) → Q (.ref Dd) H''
      | _ => False)
  have nZD : ¬ Z Dd := fun z => w.zt Dd z hD
  refine ⟨fun i m H' => m = ds.length - i ∧ Inv' i H', ⟨ds.length, by simp, Nat.zero_le _, l, st, [], [], Ext.grow w (Grw.upd hD), w.addZ (Grw.upd hD) hD (by rw [upd_same]; simp), upd_same, .nil, q⟩, ?_⟩
  rintro i m H' ⟨rfl, hi, l', st', accV, acc, y, wd, hDd, ra, q⟩
  have hbf : st.lk = false → b = false := fun z => by
    cases hb' : b with
    | false => rfl
    | true => rw [hb hb'] at z; cases z
  have yst : Step (volL b s e l st) H H' := y.step.mono fun a _ z => .inr ⟨hbf z.1, z⟩
  obtain ⟨g1, g2⟩ := ok i H' yst
  by_cases hlt : i < ds.length
  · have hd : ds[i]? = some ds[i] := List.getElem?_eq_getElem hlt
    have hdr : ds.drop i = ds[i] :: ds.drop (i + 1) := List.drop_eq_getElem_cons hlt
    obtain ⟨go, yl⟩ := g1 _ hd
    rw [hdr] at q
    unfold lcL at q
    refine .inr ⟨go, Inv' (i + 1), fun H'' h => ⟨ds.length - (i + 1), by omega, rfl, h⟩, fun v Hy yy => ?_⟩
    obtain ⟨gr, rp⟩ := yl v Hy yy
    have wdy : Wok K T (fun a => Z a ∨ a = Dd) l' s e Hy st' := wd.grw gr
    have rv := rp (rho l') (AV (fun a => Z a ∨ a = Dd) s e l' st'.obs) y.pre fun a ha n z => by
      rcases z with (z | z) | z | z
      · exact n (.inl z)
      · subst z; exact ha hD
      · exact n (.inr (.inl z))
      · rcases y.fp a z with z | z
        · exact n (.inr (.inr z))
        · exact ha z
    obtain ⟨wb, hwb⟩ := wdy.wipe own
    have iff1 : ∀ a, ((Z a ∨ a = Dd) ∨ (a ∈ ownsE s e ∧ a ∉ ownsE (L2.wipe s own) (Pz.wipe e own))) ∨ a ∈ ownsE (L2.wipe s own) (Pz.wipe e own) ↔ ((Z a ∨ a = Dd) ∨ a ∈ ownsE s e) := fun a => by
      constructor
      · rintro ((z | z) | z)
        · exact .inl z
        · exact .inr z.1
        · exact .inr (hwb a z)
      · rintro (z | z)
        · exact .inl (.inl z)
        · by_cases hm : a ∈ ownsE (L2.wipe s own) (Pz.wipe e own)
          · exact .inr hm
          · exact .inl (.inr ⟨z, hm⟩)
    have rvb : Rep K (rho l') (AV (fun a => (Z a ∨ a = Dd) ∨ (a ∈ ownsE s e ∧ a ∉ ownsE (L2.wipe s own) (Pz.wipe e own))) (L2.wipe s own) (Pz.wipe e own) l' st'.obs) Hy v ds[i] := rv.weak fun a z => by
      rcases z with z | z | z
      · rcases (iff1 a).mp (.inl z) with z | z
        · exact .inl z
        · exact .inr (.inl z)
      · exact .inr (.inl (hwb a z))
      · exact .inr (.inr z)
    cases hg : t.g ds[i] (Pz.wipe e own) with
    | none => rw [hg] at q; exact q.elim
    | some e1 =>
      rw [hg, R.optv_some] at q
      refine t.ok wb (fun j hj => by rw [wipe_len]; exact hix j hj) (fun j hj => wipe_no (hown j hj)) rvb hg fun s2 w2 ho hl hw => ⟨(hw own hown).trans wipe_wipe, ?_⟩
      have iff2 : ∀ a, ((Z a ∨ a = Dd) ∨ (a ∈ ownsE s e ∧ a ∉ ownsE (L2.wipe s own) (Pz.wipe e own))) ∨ a ∈ ownsE s2 e1 ↔ ((Z a ∨ a = Dd) ∨ a ∈ ownsE s e) := fun a => by rw [ho]; exact iff1 a
      -- the way back from the block
      have back : ∀ {l3 H3 st3}, Ext K T (fun a => (Z a ∨ a = Dd) ∨ (a ∈ ownsE s e ∧ a ∉ ownsE (L2.wipe s own) (Pz.wipe e own))) s2 e1 l' Hy st' l3 H3 st3 → Ext K T (fun a => Z a ∨ a = Dd) s e l' Hy st' l3 H3 st3 := fun {l3 H3 st3} x => x.unblk wdy iff2
      have hDy : Hy Dd = some (.lst accV) := gr _ _ hDd
      have stayD : ∀ {l3 H3 st3}, Ext K T (fun a => Z a ∨ a = Dd) s e l' Hy st' l3 H3 st3 → H3 Dd = some (.lst accV) := fun {l3 H3 st3} x => x.step.keep _ _ hDy fun z => wdy.zd Dd (List.mem_append_right _ z.2) (.inr rfl)
      have toZ : ∀ {l3 H3 st3}, Ext K T (fun a => Z a ∨ a = Dd) s e l' Hy st' l3 H3 st3 → Ext K T Z s e l H st l3 H3 st3 := fun {l3 H3 st3} x =>
        (y.trans (Ext.grow y.wok gr)).trans ⟨x.wok.weakZ fun a z => .inl z, x.step, x.fp, x.pre, x.lk, x.lkd⟩
      have ra2 : ∀ {l3 H3 st3}, Ext K T (fun a => Z a ∨ a = Dd) s e l' Hy st' l3 H3 st3 → Reps K (rho l3) (AV (fun a => Z a ∨ a = Dd) s e l3 st3.obs) H3 accV acc := fun {l3 H3 st3} x => x.reps (ra.grw gr)
      refine ⟨_, l', e1, st', w2, ?_⟩
      cases ht : tt e1 st' with
      | bad => rw [ht] at q; exact q
      | ex c s3 => rw [ht] at q; exact q.elim
      | ok k s3 =>
        rw [ht, R.bind_ok] at q
        intro l3 H3 x3
        cases k with
        | false =>
          rw [if_neg Bool.false_ne_true] at q ⊢
          exact ⟨hlt, l3, s3, accV, acc, toZ (back x3), (back x3).wok, stayD (back x3), ra2 (back x3), q⟩
        | true =>
          rw [if_pos rfl] at q ⊢
          refine ⟨_, l3, e1, s3, x3.wok, ?_⟩
          cases hA : A e1 s3 with
          | bad => rw [hA] at q; exact q
          | ex c s4 => rw [hA] at q; exact q.elim
          | ok a s4 =>
            rw [hA, R.bind_ok] at q
            intro u l4 H4 x4 r4
            cases hk : a.keep with
            | none => rw [hk] at q; exact q.elim
            | some d =>
              rw [hk, R.optv_some] at q
              have r5 := r4.keep hk
              by_cases hz : acc.length < 100000
              · rw [if_pos hz] at q
                have xb := back (x3.trans x4)
                have hD4 := stayD xb
                refine ⟨accV, hD4, Nat.lt_of_lt_of_le (by rw [(ra2 xb).length]; exact hz) (by decide), hlt, l4, s4, accV ++ [u], acc ++ [d], ?_⟩
                have sp : Step (fun z => z = Dd) H4 (upd H4 Dd (.lst (accV ++ [u]))) := step_upd hD4 (fun vs z => by cases z) (fun ob v z => by cases z)
                have wd4 : Wok K T (fun a => Z a ∨ a = Dd) l4 s e (upd H4 Dd (.lst (accV ++ [u]))) s4 := xb.wok.stepZ sp fun a z => .inr z
                have e4 := toZ xb
                have r6 : Rep K (rho l4) (AV (fun a => Z a ∨ a = Dd) s e l4 s4.obs) H4 u d := r5.weak fun z hz' => by
                  rcases hz' with hz' | hz' | hz'
                  · rcases (iff2 z).mpr (.inl hz') with q | q
                    · exact .inl q
                    · exact .inr (.inl q)
                  · rcases (iff2 z).mpr (.inr hz') with q | q
                    · exact .inl q
                    · exact .inr (.inl q)
                  · exact .inr (.inr hz')
                have rr : Reps K (rho l4) (AV (fun a => Z a ∨ a = Dd) s e l4 s4.obs) (upd H4 Dd (.lst (accV ++ [u]))) (accV ++ [u]) (acc ++ [d]) :=
                  ((ra2 xb).append (.one r6)).step sp (Pre.refl _) (fun a z => .inl (.inr z)) fun _ _ n => n
                refine ⟨⟨wd4.weakZ fun a z => .inl z, ⟨fun b o eb nb => ?_, fun b vs eb => ?_, fun b o v eb => ?_, fun b nb => sp.trk b (e4.step.trk b nb)⟩, e4.fp, e4.pre, e4.lk, e4.lkd⟩, wd4, upd_same, rr, q⟩
                · rw [upd_ne (ne_of_none eb hD)]
                  exact e4.step.keep b o eb nb
                · rw [upd_ne (ne_of_none eb hD)]
                  exact e4.step.tups b vs eb
                · rw [upd_ne (ne_of_none eb hD)]
                  exact e4.step.frzs b o v eb
              · rw [if_neg hz] at q; exact q.elim
  · have hn : ds.drop i = [] := List.drop_eq_nil_of_le (by omega)
    rw [hn] at q
    exact .inl ⟨g2 (List.getElem?_eq_none_iff.mpr (by omega)), q Dd l' H' y (.ow hD nZD wd (.lst hDd ra))⟩
end

section
variable {X : Cx} {T : CT} {W : WX} {pos spos : Pos} {I : IF} {tg iter elt : Expr} {ifs : List Expr} {scope : Scope} {own : List (Str × Nat)} {tt : TF} {A : EF}
theorem pts_no : PTs X [] (rdT X.K T W tYes) := ⟨fun pins s σ H Q I h => pts_nil.run pins s σ H Q I (by
  obtain ⟨Z, l, e, st, w, q⟩ := h
  exact q l H (Ext.refl w))⟩
theorem pts_if {c : Expr} (h : PT X c (rdT X.K T W tt)) : PTs X [c] (rdT X.K T W tt) := pts_one h
/-- a target's term: a name -/
theorem jt_nm {i : Nat} {n : Str} (hN : X.N.Nodup) (hi : X.N[i]? = some n := by rfl) (hx : Loc X.env.scope n := by first | exact .inl rfl | exact .inr rfl) (hf : X.fn n = true ∨ X.env.scope.names.lookup n = some .local := by first | exact .inl rfl | exact .inr rfl) :
    PG X (.Name n pos) ((Tg.nm i).t X.K) := pg_name hN hi hx hf
theorem rd_lcE {K : PySem.W.Frag} {t : Tg} {own : List Nat} (hown : ∀ i ∈ t.ix, i ∈ own) : ∀ (s : L2.St) (H : Hp) (Q : VK), (∀ i ∈ t.ix, i < s.length) → rdE K T W (eLc t.g I tt A own) s H Q → tLc (rdI K T W I) (t.t K) (rdT K T W0 tt) (rdE K T W0 A) own s H Q := by
  rintro s H Q hix ⟨Z, l, e, st, w, q⟩
  refine ⟨Z, l, e, st, w, ?_⟩
  unfold eLc at q
  cases hI : I e st with
  | bad => rw [hI] at q; exact q
  | ex c s1 => rw [hI] at q; exact q
  | ok p s1 =>
    rw [hI, R.bind_ok] at q
    intro J l1 H1 y ok
    have hix' : ∀ i ∈ t.ix, i < e.length := fun i hi => by rw [← w.lenE]; exact hix i hi
    cases hp2 : p.2 with
    | false =>
      rw [hp2, if_neg Bool.false_ne_true] at q
      rw [hp2] at ok
      refine rd_lc (b := false) hown hix' y.wok (fun z => by cases z) ok ?_
      cases hL : lcL t.g tt A (Pz.wipe e own) p.1 [] s1 with
      | bad => rw [hL] at q; exact q
      | ex c s2 => rw [hL] at q; exact q
      | ok ys s2 =>
        rw [hL] at q
        exact fun Dd l' H' x r => q (.ref Dd) l' H' (y.trans x) (r.ahead y)
    | true =>
      rw [hp2, if_pos rfl] at q
      rw [hp2] at ok
      have ok' : ItOk K (rho l1) (AV Z s e l1 s1.obs) H1 (volL true s e l1 { s1 with lk := true }) J p.1 := fun i Hi x => ok i Hi (x.mono fun a _ z => by
        rcases z with z | z
        · exact .inl z
        · exact absurd z.1 (by simp))
      refine rd_lc (b := true) (st := { s1 with lk := true }) hown hix' (y.wok.lock true) (fun _ => rfl) ok' ?_
      cases hL : lcL t.g tt A (Pz.wipe e own) p.1 [] { s1 with lk := true } with
      | bad => rw [hL] at q; exact q
      | ex c s2 => rw [hL] at q; exact q
      | ok ys s2 =>
        rw [hL] at q
        refine fun Dd l' H' x r => q (.ref Dd) l' H' (y.trans ⟨x.wok.lock _, x.step.mono fun a _ z => absurd z.1 (by simp), x.fp, x.pre, rfl, fun h => x.lkd rfl⟩) ?_
        exact VRep.ahead (st2 := { s2 with lk := s1.lk }) r.lock y
theorem je_lc (t : Tg) (hc : X.calm = true) (hN : X.N.Nodup) (hi : PI X tg iter (rdI X.K T W I)) (ok : BlkOk X.N X.env.scope scope own) (hown : ∀ i ∈ t.ix, i ∈ own.map (·.2)) (hix : ∀ i ∈ t.ix, i < X.N.length)
    (hg : ∀ (s : Shared) (H : Hp) (C : Addr) (cl : List (Str × Addr)) (fp : List Addr), PG (X.blk s H scope (compEnvC scope cl C X.env) fp) tg (t.t X.K))
    (ht : ∀ (s : Shared) (H : Hp) (C : Addr) (cl : List (Str × Addr)) (fp : List Addr), PTs (X.blk s H scope (compEnvC scope cl C X.env) fp) ifs (rdT X.K T W0 tt))
    (he : ∀ (s : Shared) (H : Hp) (C : Addr) (cl : List (Str × Addr)) (fp : List Addr), PE (X.blk s H scope (compEnvC scope cl C X.env) fp) elt (rdE X.K T W0 A)) (hs : ∀ x, foldedSetIterable iter X.env x = pure x := by intro _; rfl) :
    PE X (.ListComp elt [⟨tg, iter, ifs, 0⟩] scope pos) (rdE X.K T W (eLc t.g I tt A (own.map (·.2)))) := by
  have h := pe_lc (pos := pos) hc hN hi ok hg ht he hs
  exact ⟨fun pins s σ H Q I q => h.run pins s σ H Q I (rd_lcE hown σ H Q (fun i hi => by rw [I.len]; exact hix i hi) q)⟩
/-- y = [..] -/
theorem js_setLc {i : Nat} {y : Str} {py : Pos} (t : Tg) (hc : X.calm = true) (hN : X.N.Nodup) (hsw : swapsWith (.ListComp elt [⟨tg, iter, ifs, 0⟩] scope pos) (some (.Name y py)) spos.line X.env = pure true)
    (hi : PI X tg iter (rdI X.K T W I)) (ok : BlkOk X.N X.env.scope scope own) (hown : ∀ i ∈ t.ix, i ∈ own.map (·.2)) (hix : ∀ i ∈ t.ix, i < X.N.length)
    (hg : ∀ (s : Shared) (H : Hp) (C : Addr) (cl : List (Str × Addr)) (fp : List Addr), PG (X.blk s H scope (compEnvC scope cl C X.env) fp) tg (t.t X.K))
    (ht : ∀ (s : Shared) (H : Hp) (C : Addr) (cl : List (Str × Addr)) (fp : List Addr), PTs (X.blk s H scope (compEnvC scope cl C X.env) fp) ifs (rdT X.K T W0 tt))
    (he : ∀ (s : Shared) (H : Hp) (C : Addr) (cl : List (Str × Addr)) (fp : List Addr), PE (X.blk s H scope (compEnvC scope cl C X.env) fp) elt (rdE X.K T W0 A)) (hy : X.N[i]? = some y := by rfl) (hyl : X.env.scope.names.lookup y = some .local := by rfl) (hs : ∀ x, foldedSetIterable iter X.env x = pure x := by intro _; rfl) :
    PS X (.Assign [.Name y py] (.ListComp elt [⟨tg, iter, ifs, 0⟩] scope pos) spos) (rdS X.K T W (sAsg i (eLc t.g I tt A (own.map (·.2))))) := by
  have h := ps_setLc hc hN hy hyl hsw hi ok hg ht he hs
  refine ps_impL h fun D s H hl q => ?_
  obtain ⟨Z, l, e, st, w, q⟩ := rdS_iff.mp q
  refine rd_lcE hown s H _ (fun i hi => by rw [hl]; exact hix i hi) (rd_out w q fun v x st' l' H' _ y r q => js_asg_core (by rw [← w.lenE, hl]; exact lt_of_name hy) y r q)
theorem js_setLcF {i : Nat} {y : Str} {py : Pos} (t : Tg) (hc : X.calm = true) (hN : X.N.Nodup) (hsw : swapsWith (.ListComp elt [⟨tg, iter, ifs, 0⟩] scope pos) (some (.Name y py)) spos.line X.env = pure true)
    (hi : PI X tg iter (rdI X.K T W I)) (ok : BlkOk X.N X.env.scope scope own) (hown : ∀ i ∈ t.ix, i ∈ own.map (·.2)) (hix : ∀ i ∈ t.ix, i < X.N.length)
    (hg : ∀ (s : Shared) (H : Hp) (C : Addr) (cl : List (Str × Addr)) (fp : List Addr), PG (X.blk s H scope (compEnvC scope cl C X.env) fp) tg (t.t X.K))
    (ht : ∀ (s : Shared) (H : Hp) (C : Addr) (cl : List (Str × Addr)) (fp : List Addr), PTs (X.blk s H scope (compEnvC scope cl C X.env) fp) ifs (rdT X.K T W0 tt))
    (he : ∀ (s : Shared) (H : Hp) (C : Addr) (cl : List (Str × Addr)) (fp : List Addr), PE (X.blk s H scope (compEnvC scope cl C X.env) fp) elt (rdE X.K T W0 A)) (hy : X.N[i]? = some y := by rfl) (hyl : X.env.scope.names.lookup y = some .local := by rfl) (hs : ∀ x, foldedSetIterable iter X.env x = pure x := by intro _; rfl) :
    PS X (.Assign [.Name y py] (.ListComp elt [⟨tg, iter, ifs, 0⟩] scope pos) spos) (rdS X.K T W (sAsgF i (eLc t.g I tt A (own.map (·.2))))) := by
  have h := ps_setLc hc hN hy hyl hsw hi ok hg ht he hs
  refine ps_impL h fun D s H hl q => ?_
  obtain ⟨Z, l, e, st, w, q⟩ := rdS_iff.mp q
  refine rd_lcE hown s H _ (fun i hi => by rw [hl]; exact hix i hi) (rd_out w q fun v x st' l' H' _ y r q => ?_)
  cases hk : x.keep with
  | none => rw [hk] at q; exact q.elim
  | some d =>
    rw [hk, Out.ofOpt_some] at q
    exact q _ l' H' (y.toN.tr (setSh_ext y.wok (by rw [← w.lenE, hl]; exact lt_of_name hy) (r.keep hk)))
end
end Pz

/-! Errors: raise, try with clauses that may name the error. -/
namespace Pz
open PySem L2 PySem.Spec PyProof.Rows

/-- one clause: its class, the slot of its name, its suite -/
abbrev Cl := Value × Option Nat × (Addr → Value → Option Addr → TS)
def endsOf (o : Option Nat) (D : Ends) : Ends := match o with
  | none => D
  | some i => { nx := fun s H => D.nx (s.set i none) H, rt := D.rt, bk := fun s H => D.bk (s.set i none) H, ct := fun s H => D.ct (s.set i none) H }
def slotsOf (o : Option Nat) (a : Addr) (s : List (Option V)) : List (Option V) := match o with
  | none => s
  | some i => s.set i (some (.ref a))
def wCl (K : PySem.W.Frag) (Wout : WX) (D : Ends) : List Cl → WX
  | [] => Wout
  | (c, o, ts) :: r => fun cls d s H => ∃ b, PySem.W.exmOne K cls c = some b ∧ (b = true → ∀ a, H a = none → ts a cls d (endsOf o D) (slotsOf o a s) H) ∧ (b = false → wCl K Wout D r cls d s H)
/-- the clauses of the text -/
inductive Clauses (X : Cx) : List ExceptHandler → List Cl → Prop
  | nil : Clauses X [] []
  | plain {x : Str} {c : Value} {ts : Addr → Value → Option Addr → TS} {q : Stmt} {suite : List Stmt} {np pos : Pos} {hs : List ExceptHandler} {r : List Cl} (hc : Names X x c)
      (hb : ∀ (a : Addr) (oe : Obj) (cls : Value) (d : Option Addr) (pn : List (Addr × Obj)), L2N.Zn cls d oe → (∃ vs, oe.data = .fields vs) → PSs (X.suite a ((a, oe) :: pn)) (q :: suite) (ts a cls d)) (t : Clauses X hs r) :
      Clauses X (.ExceptHandler (some (.Name x np)) none (q :: suite) pos :: hs) ((c, none, ts) :: r)
  | named {x n : Str} {c : Value} {i : Nat} {ts : Addr → Value → Option Addr → TS} {q : Stmt} {suite : List Stmt} {np pos : Pos} {hs : List ExceptHandler} {r : List Cl} (hc : Names X x c) (hN : X.N.Nodup) (hi : X.N[i]? = some n) (hn : X.env.kindOf n = some .local)
      (hb : ∀ (a : Addr) (oe : Obj) (cls : Value) (d : Option Addr) (pn : List (Addr × Obj)), L2N.Zn cls d oe → (∃ vs, oe.data = .fields vs) → PSs (X.suite a ((a, oe) :: pn)) (q :: suite) (ts a cls d)) (t : Clauses X hs r) :
      Clauses X (.ExceptHandler (some (.Name x np)) (some n) (q :: suite) pos :: hs) ((c, some i, ts) :: r)

/-- an error that has come to the clauses of X's frame -/
structure Come (X : Cx) (pins : List (Addr × Obj)) (s : List (Option V)) (H : Hp) (cls : Value) (d : Option Addr) (a : Addr) (B : Heap) (sI s' : Shared) (h3 : Heap) : Prop where
  inv : Inv X pins s H sI
  gr : ∀ b o, sI.heap.get? b = some o → b ∉ frs X.stack → B.get? b = some o
  up : sI.heap.UpToSlots h3
  fly : HandSPX.FlyingZ B (X.env :: X.outer) a (L2N.Zn cls d) h3
  new : H a = none
  os : s'.os = sI.os
  ag : AllBare s'.gens
section
variable {X : Cx} {pins : List (Addr × Obj)} {s : List (Option V)} {H : Hp} {cls : Value} {d : Option Addr} {a : Addr} {B : Heap} {sI s' : Shared} {h3 : Heap}
theorem Come.ground (c : Come X pins s H cls d a B sI s' h3) : Inv X pins s H { s' with heap := h3 } := c.inv.landed c.gr c.fly.1 c.up c.os c.ag
theorem Come.apart (c : Come X pins s H cls d a B sI s' h3) (hf : X.env.frame = some X.env.locals) {oe : Obj} {vs : Array Value} (he : h3.get? a = some oe) (hd : oe.data = .fields vs) : a ≠ X.env.locals ∧ a ∉ X.fs := by
  have key : a ∉ frs (X.env :: X.outer) := fun hm => by
    obtain ⟨_, o', e', hn⟩ := c.fly.2.2.1.mem hm
    rw [he] at e'
    cases e'
    exact hn _ hd
  refine ⟨fun z => key (List.mem_filterMap.mpr ⟨X.env, List.mem_cons_self, ?_⟩), fun hm => ?_⟩
  · rw [hf, z]
  · obtain ⟨v, hv, q⟩ := List.mem_filterMap.mp hm
    exact key (List.mem_filterMap.mpr ⟨v, List.mem_cons_of_mem _ hv, q⟩)
/-- the clauses, one after the other -/
theorem clauses_run {D : Ends} {Wout : WX} (hs : X.stack = X.env :: X.outer) (hf : X.env.frame = some X.env.locals) (tk : L2N.Takes X Wout) (c : Come X pins s H cls d a B sI s' h3) {hds : List ExceptHandler} {r : List Cl} (h : Clauses X hds r) :
    wCl X.K Wout D r cls d s H → wpAny (model X.prog X.w) X.A (handleBy (.ref a) X.env hds) (SP X pins D) X.xe { s' with heap := h3 } := by
  have ok := c.inv.ok
  obtain ⟨oe3, vs3, he3, hz3, hd3⟩ := c.fly.there
  obtain ⟨nL, nF⟩ := c.apart hf he3 hd3
  have S3 := c.ground.suite he3 hd3 c.new nL nF
  have LT : PySem.W.Looks (model X.prog X.w) h3 (typeOf (.ref a)) cls := fun A Q E s k q => wpAny_typeOf_ref (k _ _ he3) (by rw [hz3.1]; exact q)
  -- a clause's test
  have test : ∀ {x : Str} {cv : Value} {np : Pos} {Q : Value → Shared → Prop} {E : Value → Shared → Prop}, Names X x cv → Q cv { s' with heap := h3 } → wpAny (model X.prog X.w) (X.A.mark (some (.ref a))) (eval (.Name x np) X.env) Q E { s' with heap := h3 } := by
    rintro x cv np Q E ⟨g, gd, hm | ⟨hm, hv, hx⟩⟩ q
    · exact ld_glob (X := X.suite a ((a, oe3) :: (X.pn ++ pins))) S3 g hm q gd
    · exact ld_blt (X := X.suite a ((a, oe3) :: (X.pn ++ pins))) S3 g hm hv q hx gd
  induction h with
  | nil =>
    intro w
    refine wpAny_handleBy_nil ?_
    obtain ⟨k1, k2, k3, oe, vs, Tr, oT, ts', he, hz, hd, h1, hr⟩ := id c.fly
    unfold PySem.passOn
    refine wpAny_bind (wpAny_field he hd h1 ?_)
    rw [if_neg (by simp : ¬ ((Value.ref Tr == Value.none) = true))]
    have go : wpAny (model X.prog X.w) X.A (setFlight (.ref a) X.env.frame) (fun _ s4 => wpAny (model X.prog X.w) X.A (throw (.ref a) : Sem Flow) (SP X pins D) X.xe s4) X.xe { s' with heap := h3 } := by
      rw [hf]
      exact HandSPX.setFlight_upZ c.fly fun h4 hh up4 => wpAny_throw (tk _ _ ⟨a, B, sI, pins, s, H, cls, d, rfl, c.inv, c.gr, c.up.trans up4, .inr (.inr (by rw [hs]; exact hh)), c.new, c.os, c.ag, w⟩)
    first
      | exact wpAny_bind (wpAny_pure (wpAny_bind go))
      | exact wpAny_bind go
  | plain hc hb t ih =>
    rintro ⟨b, hb1, yes, no⟩
    refine wpAny_handleBy_cons (codeAny_handlers_test (test hc ((PySem.W.exm_one (M := model X.prog X.w) c.ground.kIn LT hb1).here ?_))) (by intro q; cases q)
    cases b with
    | false => exact ih (no rfl)
    | true =>
      refine codeAny_handlers_suite (HandSPX.lands_againZ c.fly fun h4 fl4 up4 => ?_)
      have c4 : Come X pins s H cls d a B sI s' h4 := ⟨c.inv, c.gr, c.up.trans up4, fl4, c.new, c.os, c.ag⟩
      obtain ⟨oe4, vs4, he4, hz4, hd4⟩ := fl4.there
      have S4 := c4.ground.suite he4 hd4 c.new nL nF
      refine wpAny_mono ((hb a oe4 cls d (X.pn ++ pins) hz4 ⟨_, hd4⟩).run [] _ _ H _ S4 (yes rfl a c.new)) (fun f s6 hsp => ?_) (fun _ _ z => False.elim z)
      cases f with
      | ret u => obtain ⟨v, σ, H6, S6, r6, q6⟩ := hsp; exact ⟨v, σ, H6, S6.unsuite ok, r6, q6⟩
      | next => obtain ⟨σ, H6, S6, q6⟩ := hsp; exact ⟨σ, H6, S6.unsuite ok, q6⟩
      | brk => obtain ⟨σ, H6, S6, q6⟩ := hsp; exact ⟨σ, H6, S6.unsuite ok, q6⟩
      | cont => obtain ⟨σ, H6, S6, q6⟩ := hsp; exact ⟨σ, H6, S6.unsuite ok, q6⟩
  | @named x n cv i ts q suite np pos' hs2 r2 hc hN hi hn hb t ih =>
    rintro ⟨b, hb1, yes, no⟩
    refine wpAny_handleBy_cons (codeAny_handlers_test (test hc ((PySem.W.exm_one (M := model X.prog X.w) c.ground.kIn LT hb1).here ?_))) (by intro q; cases q)
    cases b with
    | false => exact ih (no rfl)
    | true =>
      refine codeAny_handlers_suite_as (HandSPX.lands_againZ c.fly fun h4 fl4 up4 => ?_)
      have c4 : Come X pins s H cls d a B sI s' h4 := ⟨c.inv, c.gr, c.up.trans up4, fl4, c.new, c.os, c.ag⟩
      obtain ⟨oe4, vs4, he4, hz4, hd4⟩ := fl4.there
      have S4 := c4.ground.suite he4 hd4 c.new nL nF
      refine store_ok (X := X.suite a ((a, oe4) :: (X.pn ++ pins))) (v := .ref a) S4 hN hi (.inl hn) rfl (fun s5 S5 => ?_) (.inr hn)
      refine wpAny_mono ((hb a oe4 cls d (X.pn ++ pins) hz4 ⟨_, hd4⟩).run [] s5 _ H _ S5 (yes rfl a c.new)) (fun f s6 hsp => ?_) (fun _ _ z => False.elim z)
      cases f with
      | ret u => obtain ⟨v, σ, H6, S6, r6, q6⟩ := hsp; exact gone_ok (S6.unsuite ok) hN hi hn fun s7 J7 => ⟨v, _, H6, J7, r6, q6⟩
      | next => obtain ⟨σ, H6, S6, q6⟩ := hsp; exact gone_ok (S6.unsuite ok) hN hi hn fun s7 J7 => ⟨_, H6, J7, q6⟩
      | brk => obtain ⟨σ, H6, S6, q6⟩ := hsp; exact gone_ok (S6.unsuite ok) hN hi hn fun s7 J7 => ⟨_, H6, J7, q6⟩
      | cont => obtain ⟨σ, H6, S6, q6⟩ := hsp; exact gone_ok (S6.unsuite ok) hN hi hn fun s7 J7 => ⟨_, H6, J7, q6⟩
end
section
variable {X : Cx} {body : List Stmt} {h0 : ExceptHandler} {hds : List ExceptHandler} {r : List Cl} {pos : Pos} {tb : WX → TS} {Wout : WX}
theorem ps_try_cl (hs : X.stack = X.env :: X.outer) (hf : X.env.frame = some X.env.locals) (tk : L2N.Takes X Wout)
    (hb : ∀ (W : WX) (pn : List (Addr × Obj)) (xe : Value → Shared → Prop), L2N.Takes (X.tr pn xe) W → PassesOwn (model X.prog X.w) X.A X.env xe → PSs (X.tr pn xe) body (tb W)) (hh : Clauses X (h0 :: hds) r) :
    PS X (.Try body (h0 :: hds) [] [] pos) (fun D s H => tb (wCl X.K Wout D r) D s H) := by
  refine ⟨fun pins st s H D I h => wpAny_Try_except ?_⟩
  have ok := I.ok
  refine wpAny_mono ((hb (wCl X.K Wout D r) (X.pn ++ pins) _ (fun u s' xx => ?_) PassesOwn.looking).run [] st s H D (I.toTry _) h) (fun f s1 hsp => ?_) (fun e s1 he => he)
  · obtain ⟨a, B, sI, pins', s2, H2, cls, d, rfl, J, nb, up, sky, na, os, ag, w⟩ := xx
    have sky' : Sky B (X.env :: X.outer) a (L2N.Zn cls d) X.env.locals s'.heap := by rw [← hs]; exact sky
    exact L2N.Sky.land L2N.Zn.steady (by rw [ok.frames, hs]) hf sky' fun h3 fl3 up3 => clauses_run hs hf tk ⟨J.ofTry ok, nb, up.trans up3, fl3, na, os, ag⟩ hh w
  · cases f with
    | ret u => obtain ⟨v, s2, H2, J, rv, q⟩ := hsp; exact ⟨v, s2, H2, J.ofTry ok, rv, q⟩
    | next => obtain ⟨s2, H2, J, q⟩ := hsp; exact wpAny_execs_nil ⟨s2, H2, J.ofTry ok, q⟩
    | brk => obtain ⟨s2, H2, J, q⟩ := hsp; exact ⟨s2, H2, J.ofTry ok, q⟩
    | cont => obtain ⟨s2, H2, J, q⟩ := hsp; exact ⟨s2, H2, J.ofTry ok, q⟩
end

/-! ### the rules -/
section
variable {X : Cx} {T : CT} {W : WX} {pos p2 p pos' : Pos} {B : SF}
/-- raise C('..'): the class number c -/
theorem js_raise {bmB : List Value} {Bn newId initId : String} {C : Addr} {x m : Str} {j : Nat} (c : Nat) (hc : X.calm = true) (tk : L2N.Takes X W) (F : ExcBaseFacts Bn newId initId bmB) (q : PySem.W.excIn X.K C bmB newId = true) (gC : X.mg x = some (.ref C))
    (kC : PySem.W.keepIn X.K (.ref C) = true) (r : Raises X (.ref C)) (he : T.err c = .ref C) (hg : Gl X x := by rfl) (hdb : (x == ("__debug__" : Str)) = false := by decide) :
    PS X (.Raise (some (.Call (.Name x p) [.Constant (.str m) j p2] [] pos')) none pos) (rdS X.K T W (sRaise c)) := ps_imp (L2N.ps_raise hc tk (L2N.pmk_own F q gC kC r hg hdb)) fun D s H h => by
  obtain ⟨Z, l, e, st, w, h⟩ := rdS_iff.mp h
  have z := h s l H (NExt.refl w)
  rw [he] at z
  exact z

abbrev ClS := Nat × Option Nat × (Nat → SF)
inductive CPz (X : Cx) (T : CT) : List ExceptHandler → List ClS → Prop
  | nil : CPz X T [] []
  | plain {x : Str} {d : Nat} {S : Nat → SF} {q : Stmt} {suite : List Stmt} {np pos : Pos} {hs : List ExceptHandler} {r : List ClS} (hc : Names X x (T.err d)) (hx : ∀ c, PySem.W.exmOne X.K (T.err c) (T.err d) = some (sub c d))
      (hb : ∀ (a : Addr) (oe : Obj) (c : Nat) (pn : List (Addr × Obj)), L2N.Zn (T.err c) none oe → (∃ vs, oe.data = .fields vs) → PSs (X.suite a ((a, oe) :: pn)) (q :: suite) (rdS X.K T W0 (S c))) (t : CPz X T hs r) :
      CPz X T (.ExceptHandler (some (.Name x np)) none (q :: suite) pos :: hs) ((d, none, S) :: r)
  | named {x n : Str} {i d : Nat} {S : Nat → SF} {q : Stmt} {suite : List Stmt} {np pos : Pos} {hs : List ExceptHandler} {r : List ClS} (hc : Names X x (T.err d)) (hx : ∀ c, PySem.W.exmOne X.K (T.err c) (T.err d) = some (sub c d)) (hN : X.N.Nodup) (hi : X.N[i]? = some n) (hn : X.env.kindOf n = some .local)
      (hb : ∀ (a : Addr) (oe : Obj) (c : Nat) (pn : List (Addr × Obj)), L2N.Zn (T.err c) none oe → (∃ vs, oe.data = .fields vs) → PSs (X.suite a ((a, oe) :: pn)) (q :: suite) (fun D s H => s[i]? = some (some (.ref a)) ∧ rdS X.K T W0 (S c) D s H)) (t : CPz X T hs r) :
      CPz X T (.ExceptHandler (some (.Name x np)) (some n) (q :: suite) pos :: hs) ((d, some i, S) :: r)
def clOf (K : PySem.W.Frag) (T : CT) : ClS → Cl
  | (d, none, S) => (T.err d, none, fun _ cls dd D s H => ∃ c, cls = T.err c ∧ dd = none ∧ rdS K T W0 (S c) D s H)
  | (d, some i, S) => (T.err d, some i, fun a cls dd D s H => ∃ c, cls = T.err c ∧ dd = none ∧ s[i]? = some (some (.ref a)) ∧ rdS K T W0 (S c) D s H)
theorem CPz.to {hs : List ExceptHandler} {r : List ClS} (h : CPz X T hs r) : Clauses X hs (r.map (clOf X.K T)) := by
  induction h with
  | nil => exact .nil
  | plain hc hx hb t ih =>
    refine .plain hc (fun a oe cls d pn hz hv => ⟨fun pins s σ H D I q => ?_⟩) ih
    obtain ⟨c, rfl, rfl, q⟩ := q
    exact (hb a oe c pn hz hv).run pins s σ H D I q
  | named hc hx hN hi hn hb t ih =>
    refine .named hc hN hi hn (fun a oe cls d pn hz hv => ⟨fun pins s σ H D I q => ?_⟩) ih
    obtain ⟨c, rfl, rfl, q⟩ := q
    exact (hb a oe c pn hz hv).run pins s σ H D I q
theorem outP_suite {K : PySem.W.Frag} {D : Ends} {Z : Addr → Prop} {l : Lay} {s : List (Option V)} {e : Env} {H : Hp} {st : Store} {o : Out} (q : outP K T W D Z s e l H st (o.suite none)) : outP K T W0 D Z s e l H st o := by
  cases o with
  | ex c e s => exact q.elim
  | bad => exact q
  | _ => exact q
theorem setNo_ext {K : PySem.W.Frag} {Z : Addr → Prop} {l : Lay} {s : List (Option V)} {e : Env} {H : Hp} {st : Store} (w : Wok K T Z l s e H st) {i : Nat} (v : Option V) (hi : i < e.length) : NExt K T Z s e l H st (s.set i v) (e.set i none) l H st := by
  obtain ⟨h1, h2⟩ := w.setNo v hi
  exact ⟨⟨h1, Step.refl _ _, fun a h => .inl (h2 a h), fun a h => .inl (List.mem_append_right _ h), Pre.refl _, rfl, fun _ => ⟨rfl, rfl⟩⟩, List.length_set⟩
theorem outP_suiteN {K : PySem.W.Frag} {D : Ends} {Z : Addr → Prop} {l : Lay} {s : List (Option V)} {e : Env} {H : Hp} {st : Store} {o : Out} {i : Nat} (hi : i < s.length) (q : outP K T W D Z s e l H st (o.suite (some i))) : outP K T W0 (endsOf (some i) D) Z s e l H st o := by
  have go : ∀ {s' e' l' H' st'}, NExt K T Z s e l H st s' e' l' H' st' → NExt K T Z s e l H st (s'.set i none) (e'.set i none) l' H' st' := fun {s' e' l' H' st'} y => y.tr (setNo_ext y.x.wok none (by rw [← y.x.wok.lenE, y.len]; exact hi))
  cases o with
  | ex c e s => exact q.elim
  | bad => exact q
  | rt v s => exact q
  | nx e' s' => exact fun s2 l2 H2 y => q _ l2 H2 (go y)
  | bk e' s' => exact fun s2 l2 H2 y => q _ l2 H2 (go y)
  | ct e' s' => exact fun s2 l2 H2 y => q _ l2 H2 (go y)
theorem wcl_of {D : Ends} {Z : Addr → Prop} {hs : List ExceptHandler} {r : List ClS} (h : CPz X T hs r) {c : Nat} {l : Lay} {s : List (Option V)} {e : Env} {H : Hp} {st : Store} (w : Wok X.K T Z l s e H st) (hl : s.length = X.N.length) (q : outP X.K T W D Z s e l H st (tryC r c e st)) :
    wCl X.K W D (r.map (clOf X.K T)) (T.err c) none s H := by
  induction h with
  | nil => exact q s l H (NExt.refl w)
  | @plain x d S qs suite np pos hs r hc hx hb t ih =>
    refine ⟨sub c d, hx c, fun hb' a ha => ?_, fun hb' => ?_⟩
    · unfold tryC at q
      rw [if_pos hb'] at q
      exact ⟨c, rfl, rfl, rds_mk w (outP_suite q)⟩
    · unfold tryC at q
      rw [if_neg (by rw [hb']; simp)] at q
      exact ih q
  | @named x n i d S qs suite np pos hs r hc hx hN hi hn hb t ih =>
    refine ⟨sub c d, hx c, fun hb' a ha => ?_, fun hb' => ?_⟩
    · unfold tryC at q
      rw [if_pos hb'] at q
      have hlt : i < s.length := by rw [hl]; exact lt_of_name hi
      have y := setNo_ext w (some (V.ref a)) (by rw [← w.lenE]; exact hlt)
      exact ⟨c, rfl, rfl, by show (s.set i (some (V.ref a)))[i]? = _; rw [List.getElem?_set_self hlt], rds_mk y.x.wok (outP_suiteN (by show i < (s.set i (some (V.ref a))).length; rw [List.length_set]; exact hlt) (outP.ahead y q))⟩
    · unfold tryC at q
      rw [if_neg (by rw [hb']; simp)] at q
      exact ih q
theorem js_try {body : List Stmt} {h0 : ExceptHandler} {hds : List ExceptHandler} {r : List ClS} (tk : L2N.Takes X W) (hb : ∀ (W : WX) (pn : List (Addr × Obj)) (xe : Value → Shared → Prop), L2N.Takes (X.tr pn xe) W → PassesOwn (model X.prog X.w) X.A X.env xe → PSs (X.tr pn xe) body (rdS X.K T W B)) (hh : CPz X T (h0 :: hds) r)
    (hs : X.stack = X.env :: X.outer := by rfl) (hf : X.env.frame = some X.env.locals := by rfl) : PS X (.Try body (h0 :: hds) [] [] pos) (rdS X.K T W (sTry B r)) := ps_impL (ps_try_cl hs hf tk hb hh.to) fun D s H hl q => by
  obtain ⟨Z, l, e, st, w, q⟩ := rdS_iff.mp q
  refine rds_mk w ?_
  unfold sTry at q
  cases hB : B e st with
  | ex c e1 s1 =>
    rw [hB] at q
    exact fun s' l' H' y => wcl_of hh y.x.wok (by rw [y.len]; exact hl) (outP.ahead y q)
  | bad => rw [hB] at q; exact q
  | nx _ _ => rw [hB] at q; exact q
  | rt _ _ => rw [hB] at q; exact q
  | bk _ _ => rw [hB] at q; exact q
  | ct _ _ => rw [hB] at q; exact q
end
end Pz

/-! What is changed in place. -/
namespace Pz
open PySem L2 PySem.Spec PyProof.Rows

section
variable {K : PySem.W.Frag} {T : CT} {W : WX} {Z A : Addr → Prop} {r : List Addr} {H H' H0 H1 H2 : Hp} {l l' l1 l2 : Lay} {s s' s1 s2 : List (Option V)} {e e' e1 e2 : Env} {st st' st1 st2 : Store}
theorem ownsE_inj : ∀ {s : List (Option V)} {e : Env} {i j : Nat} {a : Addr} {d d' : D}, (ownsE s e).Nodup → s[i]? = some (some (.ref a)) → e[i]? = some (some (.ow d)) → s[j]? = some (some (.ref a)) → e[j]? = some (some (.ow d')) → i = j
  | [], _, _, _, _, _, _, _, h, _, _, _ => by simp at h
  | _ :: _, [], _, _, _, _, _, _, _, h, _, _ => by simp at h
  | x :: s, y :: e, 0, 0, _, _, _, _, _, _, _, _ => rfl
  | x :: s, y :: e, 0, j + 1, a, d, d', nd, h1, h2, h3, h4 => by
    simp at h1 h2
    subst h1 h2
    rw [ownsE_cons_ow] at nd
    exact absurd (mem_ownsE_of (i := j) (by simpa using h3) (by simpa using h4)) (List.nodup_cons.mp nd).1
  | x :: s, y :: e, i + 1, 0, a, d, d', nd, h1, h2, h3, h4 => by
    simp at h3 h4
    subst h3 h4
    rw [ownsE_cons_ow] at nd
    exact absurd (mem_ownsE_of (i := i) (by simpa using h1) (by simpa using h2)) (List.nodup_cons.mp nd).1
  | x :: s, y :: e, i + 1, j + 1, a, d, d', nd, h1, h2, h3, h4 => by
    have nd' : (ownsE s e).Nodup := by
      cases y with
      | none => rw [ownsE_cons_no] at nd; exact nd
      | some y =>
        cases y with
        | sh d => rw [ownsE_cons_sh] at nd; exact nd
        | ow d =>
          cases x with
          | none => exact nd
          | some v => cases v <;> first | exact nd | exact (List.nodup_cons.mp nd).2
    have := ownsE_inj (i := i) (j := j) nd' (by simpa using h1) (by simpa using h2) (by simpa using h3) (by simpa using h4)
    omega
theorem ownsF_inj : ∀ {s : List V} {e : List Slot} {i j : Nat} {a : Addr} {d d' : D}, (ownsF s e).Nodup → s[i]? = some (.ref a) → e[i]? = some (.ow d) → s[j]? = some (.ref a) → e[j]? = some (.ow d') → i = j
  | [], _, _, _, _, _, _, _, h, _, _, _ => by simp at h
  | _ :: _, [], _, _, _, _, _, _, _, h, _, _ => by simp at h
  | x :: s, y :: e, 0, 0, _, _, _, _, _, _, _, _ => rfl
  | x :: s, y :: e, 0, j + 1, a, d, d', nd, h1, h2, h3, h4 => by
    simp at h1 h2
    subst h1 h2
    rw [ownsF_cons_ow] at nd
    exact absurd (mem_ownsF_of (i := j) (by simpa using h3) (by simpa using h4)) (List.nodup_cons.mp nd).1
  | x :: s, y :: e, i + 1, 0, a, d, d', nd, h1, h2, h3, h4 => by
    simp at h3 h4
    subst h3 h4
    rw [ownsF_cons_ow] at nd
    exact absurd (mem_ownsF_of (i := i) (by simpa using h1) (by simpa using h2)) (List.nodup_cons.mp nd).1
  | x :: s, y :: e, i + 1, j + 1, a, d, d', nd, h1, h2, h3, h4 => by
    have nd' : (ownsF s e).Nodup := by
      cases y with
      | sh d => rw [ownsF_cons_sh] at nd; exact nd
      | ow d => cases x <;> first | exact nd | exact (List.nodup_cons.mp nd).2
    have := ownsF_inj (i := i) (j := j) nd' (by simpa using h1) (by simpa using h2) (by simpa using h3) (by simpa using h4)
    omega
theorem ownsE_setD : ∀ {s : List (Option V)} {e : Env} {i : Nat} {d d' : D}, e[i]? = some (some (.ow d)) → ownsE s (e.set i (some (.ow d'))) = ownsE s e
  | [], e, _, _, _, _ => by rw [ownsE_nil, ownsE_nil]
  | _ :: _, [], _, _, _, h => by simp at h
  | x :: s, y :: e, 0, d, d', h => by
    simp at h; subst h
    cases x with
    | none => rfl
    | some v => cases v <;> rfl
  | x :: s, y :: e, i + 1, d, d', h => by
    have ih := ownsE_setD (s := s) (e := e) (i := i) (d' := d') (by simpa using h)
    rw [List.set_cons_succ]
    cases y with
    | none => rw [ownsE_cons_no, ownsE_cons_no, ih]
    | some y =>
      cases y with
      | sh d => rw [ownsE_cons_sh, ownsE_cons_sh, ih]
      | ow d =>
        cases x with
        | none => exact ih
        | some v => cases v <;> first | exact ih | exact congrArg (List.cons _) ih
theorem ownsF_setD : ∀ {s : List V} {e : List Slot} {i : Nat} {d d' : D}, e[i]? = some (.ow d) → ownsF s (e.set i (.ow d')) = ownsF s e
  | [], e, _, _, _, _ => by rw [ownsF_nil, ownsF_nil]
  | _ :: _, [], _, _, _, h => by simp at h
  | x :: s, y :: e, 0, d, d', h => by
    simp at h; subst h
    cases x <;> rfl
  | x :: s, y :: e, i + 1, d, d', h => by
    have ih := ownsF_setD (s := s) (e := e) (i := i) (d' := d') (by simpa using h)
    rw [List.set_cons_succ]
    cases y with
    | sh d => rw [ownsF_cons_sh, ownsF_cons_sh, ih]
    | ow d => cases x <;> first | exact ih | exact congrArg (List.cons _) ih
/-- a slot's own list (dict) has changed -/
theorem cellE (w : Wok K T Z l s e H st) {i : Nat} {a : Addr} {d d' : D} {o o' : HO} (h1 : e[i]? = some (some (.ow d))) (h2 : s[i]? = some (some (.ref a))) (ho : H a = some o) (n1 : ∀ vs, o ≠ .tup vs) (n2 : ∀ ob v, o ≠ .frz ob v)
    (hw : Own K (rho l) (AV Z s e l st.obs) (upd H a o') a d') : NExt K T Z s e l H st s (e.set i (some (.ow d'))) l (upd H a o') st := by
  have eo : ownsE s (e.set i (some (.ow d'))) = ownsE s e := ownsE_setD h1
  have eA : AV Z s (e.set i (some (.ow d'))) l st.obs = AV Z s e l st.obs := by unfold AV; rw [eo]
  have hm : a ∈ ownsE s e := mem_ownsE_of h2 h1
  have nd := List.nodup_append.mp w.nd
  have sp : Step (fun z => z = a) H (upd H a o') := step_upd ho n1 n2
  have va : ∀ z, z = a → AV Z s e l st.obs z := fun z q => by subst q; exact .inr (.inl hm)
  have es : s = s.set i (some (.ref a)) := by
    obtain ⟨hlt, hg⟩ := List.getElem?_eq_some_iff.mp h2
    rw [← hg]; exact (List.set_getElem_self hlt).symm
  refine ⟨⟨⟨?_, ?_, by rw [eo]; exact w.nd, fun b hb => sp.trk b (w.zt b hb), fun b hb => w.zd b (by rw [eo] at hb; exact hb)⟩, sp.mono fun b _ q => by subst q; exact .inl hm, fun b hb => .inl (by rw [eo] at hb; exact hb), fun b hb => .inl (List.mem_append_right _ hb), Pre.refl _, rfl, fun _ => ⟨rfl, rfl⟩⟩, rfl⟩
  · rw [eA]
    have z := Paired.setI (G := SRep K (rho l) (AV Z s e l st.obs) (upd H a o')) (a := some (V.ref a)) (b := some (Slot.ow d')) (.is (.ow hw)) i w.slots fun j x y hj hx hy q => q.step sp (Pre.refl _) va (fun _ _ n => n) fun b d2 e1 e2 hb => by
      subst e1 e2 hb
      exact hj (ownsE_inj nd.1 hx hy h2 h1)
    rw [← es] at z
    exact z
  · rw [eA]
    exact Paired.monoI w.stor fun k y ob hy hob q => q.step sp (Pre.refl _) va (fun _ _ n => n) (fun hb => nd.2.2 a hm y.1 (mem_fpO_of (l := l) (obs := st.obs) (p := y.1) (dx := y.2.1) (vs := y.2.2) hy hob (.inl rfl)) hb.symm)
      fun b hb hab => by subst hab; exact nd.2.2 b hm b (mem_fpO_of (l := l) (obs := st.obs) (p := y.1) (dx := y.2.1) (vs := y.2.2) hy hob (.inr hb)) rfl

/-! ### objects by places -/
theorem fpO_split : ∀ {l : Lay} {obs : List Ob} {k : Nat} {p dx : Addr} {vs : List V} {ob : Ob}, l[k]? = some (p, dx, vs) → obs[k]? = some ob → ∃ L1 L2 : List Addr, fpO l obs = L1 ++ (p :: ownsF vs ob.fs) ++ L2 ∧
    (∀ vs' ob', fpO (l.set k (p, dx, vs')) (obs.set k ob') = L1 ++ (p :: ownsF vs' ob'.fs) ++ L2) ∧ (∀ j q dy us ob2 b, j ≠ k → l[j]? = some (q, dy, us) → obs[j]? = some ob2 → (b = q ∨ b ∈ ownsF us ob2.fs) → b ∈ L1 ++ L2)
  | [], _, _, _, _, _, _, h, _ => by simp at h
  | _ :: _, [], _, _, _, _, _, _, h => by simp at h
  | (p', dx', vs') :: l, ob' :: obs, 0, p, dx, vs, ob, h1, h2 => by
    simp at h1 h2
    obtain ⟨rfl, rfl, rfl⟩ := h1
    subst h2
    refine ⟨[], fpO l obs, by simp [fpO_cons], fun vs' ob' => by simp [fpO_cons], fun j q dy us ob2 b hj h3 h4 h5 => ?_⟩
    cases j with
    | zero => exact absurd rfl hj
    | succ j => exact mem_fpO_of (k := j) (by simpa using h3) (by simpa using h4) h5
  | (p', dx', vs') :: l, ob' :: obs, k + 1, p, dx, vs, ob, h1, h2 => by
    obtain ⟨L1, L2, q1, q2, q3⟩ := fpO_split (l := l) (obs := obs) (k := k) (by simpa using h1) (by simpa using h2)
    refine ⟨p' :: (ownsF vs' ob'.fs ++ L1), L2, by rw [fpO_cons, q1]; simp, fun us ob2 => by rw [List.set_cons_succ, List.set_cons_succ, fpO_cons, q2]; simp, fun j q dy us ob2 b hj h3 h4 h5 => ?_⟩
    cases j with
    | zero =>
      simp at h3 h4
      obtain ⟨rfl, rfl, rfl⟩ := h3
      subst h4
      rcases h5 with rfl | h5
      · simp
      · simp [h5]
    | succ j =>
      have := q3 j q dy us ob2 b (by omega) (by simpa using h3) (by simpa using h4) h5
      simp at this ⊢
      rcases this with h | h
      · exact .inr (.inr (.inl h))
      · exact .inr (.inr (.inr h))

theorem rho_set {l : Lay} {k : Nat} {p dx : Addr} {vs vs' : List V} (h : l[k]? = some (p, dx, vs)) : rho (l.set k (p, dx, vs')) = rho l := by
  unfold rho
  rw [List.map_set]
  obtain ⟨hlt, hg⟩ := List.getElem?_eq_some_iff.mp h
  have : (l.map (·.1))[k]'(by simpa using hlt) = p := by simp [hg]
  show (l.map (·.1)).set k p = l.map (·.1)
  conv => lhs; rw [← this]
  exact List.set_getElem_self _
/-- one object has changed: its fields, its own lists -/
theorem obStep {Zn vl : Addr → Prop} (w : Wok K T Zn l s e H st) (hZ : ∀ a, Z a → Zn a) {k : Nat} {p dx : Addr} {vs vs' : List V} {ob ob' : Ob} (hl : l[k]? = some (p, dx, vs)) (ho : st.obs[k]? = some ob)
    (sp : Step vl H H') (hv : ∀ a, vl a → a = p ∨ a ∈ ownsF vs ob.fs) (sub : ∀ a ∈ ownsF vs' ob'.fs, a ∈ ownsF vs ob.fs ∨ (Zn a ∧ ¬ Z a)) (nd : (ownsF vs' ob'.fs).Nodup) (hob : ObOk K T (rho l) (AV Zn s e l st.obs) H' (p, dx, vs') ob') :
    Wok K T Z (l.set k (p, dx, vs')) s e H' { st with obs := st.obs.set k ob' } ∧ ∀ b ∈ fpO (l.set k (p, dx, vs')) (st.obs.set k ob'), b ∈ fpO l st.obs ∨ (Zn b ∧ ¬ Z b) := by
  obtain ⟨L1, L2, q1, q2, q3⟩ := fpO_split hl ho
  have q2' := q2 vs' ob'
  have wn := w.nd
  rw [q1] at wn
  have hmem : ∀ b ∈ p :: ownsF vs ob.fs, b ∈ fpO l st.obs := fun b h => by rw [q1]; simp at h ⊢; rcases h with h | h <;> simp [h]
  have hsub : ∀ b ∈ fpO (l.set k (p, dx, vs')) (st.obs.set k ob'), b ∈ fpO l st.obs ∨ (Zn b ∧ ¬ Z b) := fun b h => by
    rw [q2'] at h
    rcases List.mem_append.mp h with h | h
    · rcases List.mem_append.mp h with h | h
      · exact .inl (by rw [q1]; exact List.mem_append_left _ (List.mem_append_left _ h))
      · rcases List.mem_cons.mp h with h | h
        · exact .inl (hmem b (by rw [h]; exact List.mem_cons_self))
        · exact (sub b h).imp (fun z => hmem b (List.mem_cons_of_mem _ z)) id
    · exact .inl (by rw [q1]; exact List.mem_append_right _ h)
  have hA : ∀ b, AV Z s e (l.set k (p, dx, vs')) (st.obs.set k ob') b → AV Zn s e l st.obs b := fun b z => by
    rcases z with z | z | z
    · exact .inl (hZ b z)
    · exact .inr (.inl z)
    · rcases hsub b z with z | z
      · exact .inr (.inr z)
      · exact .inl z.1
  have va : ∀ b, vl b → AV Zn s e l st.obs b := fun b z => .inr (.inr (hmem b (by rcases hv b z with z | z <;> simp [z])))
  -- what is the object's is nobody else's
  have apart : ∀ b ∈ p :: ownsF vs ob.fs, b ∉ ownsE s e ∧ b ∉ L1 ++ L2 := fun b hb => by
    have n1 := List.nodup_append.mp wn
    refine ⟨fun h => n1.2.2 b h b (by simp at hb ⊢; rcases hb with hb | hb <;> simp [hb]) rfl, fun h => ?_⟩
    have n2 := List.nodup_append.mp n1.2.1
    rcases List.mem_append.mp h with h | h
    · exact (List.nodup_append.mp n2.1).2.2 b h b hb rfl
    · exact n2.2.2 b (List.mem_append_right _ hb) b h rfl
  have nv : ∀ b, b ∈ ownsE s e ∨ b ∈ L1 ++ L2 → ¬ vl b := fun b h z => by
    have hb : b ∈ p :: ownsF vs ob.fs := by rcases hv b z with z | z <;> simp [z]
    rcases h with h | h
    · exact (apart b hb).1 h
    · exact (apart b hb).2 h
  refine ⟨⟨?_, ?_, ?_, fun b h => sp.trk b (w.zt b (hZ b h)), fun b h z => ?_⟩, hsub⟩
  · rw [rho_set hl]
    exact Paired.monoI w.slots fun i u f hu hf q => q.step sp (Pre.refl _) va (fun b _ n z => n (hA b z)) fun b d e1 e2 => by
      subst e1 e2
      exact nv b (.inl (mem_ownsE_of hu hf))
  · rw [rho_set hl]
    refine Paired.setI (G := ObOk K T (rho l) (AV Z s e (l.set k (p, dx, vs')) (st.obs.set k ob')) H') ?_ k w.stor fun j y ob2 hj hy hob2 q => q.step sp (Pre.refl _) va (fun b _ n z => n (hA b z)) (nv _ (.inr (q3 j y.1 y.2.1 y.2.2 ob2 _ hj hy hob2 (.inl rfl)))) fun b hb => nv b (.inr (q3 j y.1 y.2.1 y.2.2 ob2 b hj hy hob2 (.inr hb)))
    have z := hob
    refine ⟨Paired.mono z.1 fun _ _ _ _ q => q.step (Step.refl (fun _ => False) H') (Pre.refl _) (fun _ z => z.elim) (fun a _ n z => n (hA a z)) fun _ _ _ _ z => z, z.2⟩
  · show (ownsE s e ++ fpO (l.set k (p, dx, vs')) (st.obs.set k ob')).Nodup
    rw [q2']
    have n1 := List.nodup_append.mp wn
    have n2 := List.nodup_append.mp n1.2.1
    have n3 := List.nodup_append.mp n2.1
    have n4 := List.nodup_cons.mp n3.2.1
    have own : ∀ b, b ∈ ownsE s e ++ fpO l st.obs → ¬ Zn b := w.zd
    -- the new own ones are apart from all others
    have ap2 : ∀ b ∈ ownsF vs' ob'.fs, b ∉ ownsE s e ∧ b ∉ L1 ++ L2 ∧ b ≠ p := fun b hb => by
      rcases sub b hb with h | h
      · exact ⟨(apart b (List.mem_cons_of_mem _ h)).1, (apart b (List.mem_cons_of_mem _ h)).2, fun q => n4.1 (q ▸ h)⟩
      · refine ⟨fun q => own b (List.mem_append_left _ q) h.1, fun q => own b (List.mem_append_right _ ?_) h.1, fun q => own b (List.mem_append_right _ (hmem b (by simp [q]))) h.1⟩
        rw [q1]
        rcases List.mem_append.mp q with q | q
        · exact List.mem_append_left _ (List.mem_append_left _ q)
        · exact List.mem_append_right _ q
    refine List.nodup_append.mpr ⟨n1.1, List.nodup_append.mpr ⟨List.nodup_append.mpr ⟨n3.1, List.nodup_cons.mpr ⟨fun h => (ap2 p h).2.2 rfl, nd⟩, fun a ha b hb q => ?_⟩, n2.2.1, fun a ha b hb q => ?_⟩, fun a ha b hb q => ?_⟩
    · subst q
      rcases List.mem_cons.mp hb with hb | hb
      · exact (apart p List.mem_cons_self).2 (List.mem_append_left _ (hb ▸ ha))
      · exact (ap2 a hb).2.1 (List.mem_append_left _ ha)
    · subst q
      rcases List.mem_append.mp ha with ha | ha
      · exact n2.2.2 a (List.mem_append_left _ ha) a hb rfl
      · rcases List.mem_cons.mp ha with ha | ha
        · exact (apart p List.mem_cons_self).2 (List.mem_append_right _ (ha ▸ hb))
        · exact (ap2 a ha).2.1 (List.mem_append_right _ hb)
    · subst q
      rcases List.mem_append.mp hb with hb | hb
      · rcases List.mem_append.mp hb with hb | hb
        · exact n1.2.2 a ha a (List.mem_append_left _ (List.mem_append_left _ hb)) rfl
        · rcases List.mem_cons.mp hb with hb | hb
          · exact (apart p List.mem_cons_self).1 (hb ▸ ha)
          · exact (ap2 a hb).1 ha
      · exact n1.2.2 a ha a (List.mem_append_right _ hb) rfl
  · rcases List.mem_append.mp h with h | h
    · exact w.zd b (List.mem_append_left _ h) (hZ b z)
    · rcases hsub b h with h | h
      · exact w.zd b (List.mem_append_right _ h) (hZ b z)
      · exact h.2 z
/-- a field's own list (dict) has changed -/
theorem cellF (w : Wok K T Z l s e H st) (hk : st.lk = false) {k f : Nat} {p dx a : Addr} {vs : List V} {ob : Ob} {d d' : D} {o o' : HO} (hl : l[k]? = some (p, dx, vs)) (hob : st.obs[k]? = some ob) (hv : vs[f]? = some (.ref a)) (hf : ob.fs[f]? = some (.ow d))
    (ho : H a = some o) (n1 : ∀ vs, o ≠ .tup vs) (n2 : ∀ ob v, o ≠ .frz ob v) (hw : Own K (rho l) (AV Z s e l st.obs) (upd H a o') a d') :
    NExt K T Z s e l H st s e (l.set k (p, dx, vs)) (upd H a o') { st with obs := st.obs.set k { ob with fs := ob.fs.set f (.ow d') } } := by
  have hm : a ∈ ownsF vs ob.fs := mem_ownsF_of hv hf
  have eo : ownsF vs (ob.fs.set f (.ow d')) = ownsF vs ob.fs := ownsF_setD hf
  have sp : Step (fun z => z = a) H (upd H a o') := step_upd ho n1 n2
  obtain ⟨L1, L2, q1, _, _⟩ := fpO_split hl hob
  have wn := w.nd
  rw [q1] at wn
  have nF := List.nodup_cons.mp (List.nodup_append.mp (List.nodup_append.mp (List.nodup_append.mp wn).2.1).1).2.1
  have ok := Paired.get w.stor hl hob
  have hmO : a ∈ fpO l st.obs := mem_fpO_of hl hob (.inr hm)
  have hap : a ≠ p := fun q => nF.1 (q ▸ hm)
  have vav : ∀ z, z = a → AV Z s e l st.obs z := fun z q => by subst q; exact .inr (.inr hmO)
  have okn : ObOk K T (rho l) (AV Z s e l st.obs) (upd H a o') (p, dx, vs) { ob with fs := ob.fs.set f (.ow d') } := by
    refine ⟨?_, ?_⟩
    · have ev : vs = vs.set f (.ref a) := by
        obtain ⟨hlt, hg⟩ := List.getElem?_eq_some_iff.mp hv
        rw [← hg]; exact (List.set_getElem_self hlt).symm
      have z := Paired.setI (G := FRep K (rho l) (AV Z s e l st.obs) (upd H a o')) (a := V.ref a) (b := Slot.ow d') (.ow hw) f ok.1 fun j x y hj hx hy q => q.step sp (Pre.refl _) vav (fun _ _ n => n) fun b d2 e1 e2 hb => by
        subst e1 e2 hb
        exact hj (ownsF_inj nF.2 hx hy hv hf)
      rw [← ev] at z
      exact z
    · exact HdOk.step ok.2 fun o q => by rw [upd_ne hap.symm]; exact q
  obtain ⟨w', hs⟩ := obStep (Z := Z) (Zn := Z) w (fun _ h => h) hl hob sp (fun b z => by subst z; exact .inr hm) (fun b h => .inl (by rw [eo] at h; exact h)) (by rw [eo]; exact nF.2) okn
  refine ⟨⟨w', sp.mono fun b _ z => by subst z; exact .inr ⟨hk, hmO⟩, fun b h => .inl h, fun b h => ?_, by rw [rho_set hl]; exact Pre.refl _, rfl, fun z => by rw [hk] at z; cases z⟩, rfl⟩
  rcases hs b h with h | h
  · exact .inl (List.mem_append_right _ h)
  · exact absurd h.1 h.2
end
end Pz

/-! Statements that change in place. -/
namespace Pz
open PySem L2 PySem.Spec PyProof.Rows

def MutOk (K : PySem.W.Frag) (r : V → List V → Hp → VK → Prop) (m : List D → List D → Option (List D)) : Prop := ∀ (rr : List Addr) (A : Addr → Prop) (H : Hp) (a : Addr) (vs : List V) (xs : List D) (ys : List V) (dys xs' : List D) (Q : VK),
  A a → H a = some (.lst vs) → Reps K rr A H vs xs → Reps K rr A H ys dys → m xs dys = some xs' → (∀ vs', Reps K rr A H vs' xs' → Q .non (upd H a (.lst vs'))) → r (.ref a) ys H Q
theorem mutOk_app {K : PySem.W.Frag} : MutOk K rAppend mApp := fun rr A H a vs xs ys dys xs' Q ha h rv ry hm k => by
  cases ry with
  | nil => cases hm
  | @cons v vt d dt r1 r2 =>
    cases r2 with
    | cons _ _ => cases hm
    | nil =>
      have hm : (if xs.length < 100000 then some (xs ++ [d]) else none) = some xs' := hm
      by_cases hz : xs.length < 100000
      · rw [if_pos hz] at hm
        cases hm
        exact ⟨a, vs, v, rfl, rfl, h, Nat.lt_of_lt_of_le (by rw [rv.length]; exact hz) (by decide), k _ (rv.append (.one r1))⟩
      · rw [if_neg hz] at hm; cases hm

section
variable {X : Cx} {T : CT} {W : WX} {pos p apos cpos : Pos} {a b c x y o : Expr} {A B I : EF} {es : List Expr} {As : AF}
theorem Own.put {K : PySem.W.Frag} {r : List Addr} {A : Addr → Prop} {H : Hp} {q : Addr} {vs : List V} {xs : List D} {u : HO} (ha : A q) (h : H q = some u) (n1 : ∀ vs, u ≠ .tup vs) (n2 : ∀ ob v, u ≠ .frz ob v) (rv : Reps K r A H vs xs) : Own K r A (upd H q (.lst vs)) q (.lst xs) :=
  .lst upd_same (rv.step (step_upd h n1 n2) (Pre.refl _) (fun z e => by subst e; exact ha) fun _ _ n => n)
theorem rd_mut {K : PySem.W.Frag} {r : V → List V → Hp → VK → Prop} {m : List D → List D → Option (List D)} (hM : MutOk K r m) : ∀ (D : Ends) (s : L2.St) (H : Hp), rdS K T W (sMut m A As) D s H → tDrop (tBM K "list" r (rdE K T W A) (rdA K T W As)) D s H := by
  intro D s H q
  obtain ⟨Z, l, e, st, w, q⟩ := rdS_iff.mp q
  refine rd_out w q fun v x s1 l1 H1 _ y1 r1 q => ?_
  cases x with
  | sh d => exact q.elim
  | ow d => exact q.elim
  | bw i d =>
    cases d with
    | lst xs =>
      cases r1 with
      | bw h1 h2 =>
        obtain ⟨a, rfl, hm, ho⟩ := VRep.own y1.wok h1 h2
        cases ho with
        | @lst vs _ g1 g2 =>
          refine ⟨.inl ⟨rfl, vs, SqL.of g1⟩, ?_⟩
          refine ⟨Z, l1, e, s1, y1.wok, ?_⟩
          have q : outP K T W D Z s e l H st ((As e s1).out e fun ys s2 => Out.ofOpt (m xs ys) fun d => put (.bw i (.lst xs)) (.lst d) e s2) := q
          cases hB : As e s1 with
          | bad => rw [hB] at q; exact q
          | ex c s2 => rw [hB] at q; exact fun l' H' y2 => q s l' H' (y1.trans y2).toN
          | ok ys s2 =>
            rw [hB, R.out_ok] at q
            intro us l2 H2 y2 r2
            cases hm' : m xs ys with
            | none => rw [hm'] at q; exact q.elim
            | some xs' =>
              rw [hm', Out.ofOpt_some] at q
              obtain ⟨a', ea, hma, ho2⟩ := VRep.own y2.wok h1 h2
              cases ea
              cases ho2 with
              | @lst vs2 _ g3 g4 =>
                refine hM _ _ H2 a vs2 xs us ys xs' _ (.inr (.inl hma)) g3 g4 r2 hm' fun vs' r3 => ?_
                exact q s l2 _ ((y1.trans y2).toN.tr (cellE y2.wok h1 h2 g3 (fun _ z => by cases z) (fun _ _ z => by cases z) (Own.put (.inr (.inl hma)) g3 (fun _ z => by cases z) (fun _ _ z => by cases z) r3)))
    | _ => exact q.elim
  | fb k f d =>
    cases d with
    | lst xs =>
      cases r1 with
      | @fb _ _ _ _ pp dx vs0 ob h1 h2 h3 h4 =>
        obtain ⟨a, rfl, hm, ho⟩ := VRep.ownF y1.wok h1 h2 h3 h4
        cases ho with
        | @lst vs _ g1 g2 =>
          refine ⟨.inl ⟨rfl, vs, SqL.of g1⟩, ?_⟩
          have q : outP K T W D Z s e l H st (if s1.lk = true then .bad else match As e { s1 with lk := true } with
            | .ok ys _ => Out.ofOpt (m xs ys) fun d => put (.fb k f (.lst xs)) (.lst d) e s1
            | .ex c _ => .ex c e s1
            | .bad => .bad) := q
          cases hk : s1.lk with
          | true => rw [if_pos hk] at q; exact q.elim
          | false =>
            rw [if_neg (by rw [hk]; simp)] at q
            refine ⟨Z, l1, e, { s1 with lk := true }, y1.wok.lock true, ?_⟩
            -- back from the lock
            have un : ∀ {l2 H2 s2}, Ext K T Z s e l1 H1 { s1 with lk := true } l2 H2 s2 → l2 = l1 ∧ s2.obs = s1.obs ∧ Ext K T Z s e l1 H1 s1 l2 H2 s1 := fun {l2 H2 s2} z => by
              obtain ⟨e1, e2⟩ := z.lkd rfl
              subst e1
              have wz := z.wok
              refine ⟨rfl, e2, ⟨⟨by have := wz.slots; rw [e2] at this; exact this, by have := wz.stor; rw [e2] at this; exact this, by have := wz.nd; rw [e2] at this; exact this, wz.zt, by have := wz.zd; rw [e2] at this; exact this⟩,
                z.step.mono fun _ _ q => absurd q.1 (by simp), fun a h => .inl h, Pre.refl _, rfl, fun _ => ⟨rfl, rfl⟩⟩⟩
            cases hB : As e { s1 with lk := true } with
            | bad => rw [hB] at q; exact q
            | ex c s2 => rw [hB] at q; exact fun l' H' y2 => q s l' H' (y1.trans (un y2).2.2).toN
            | ok ys s2 =>
              rw [hB] at q
              intro us l2 H2 y2 r2
              obtain ⟨rfl, eo, y3⟩ := un y2
              rw [eo] at r2
              have q : outP K T W D Z s e l H st (Out.ofOpt (m xs ys) fun d => put (.fb k f (.lst xs)) (.lst d) e s1) := q
              cases hm' : m xs ys with
              | none => rw [hm'] at q; exact q.elim
              | some xs' =>
                rw [hm', Out.ofOpt_some] at q
                have q : outP K T W D Z s e l H st (if s1.lk = true then .bad else match s1.obs[k]? with
                  | some ob => .nx e { s1 with obs := s1.obs.set k { ob with fs := ob.fs.set f (.ow (.lst xs')) } }
                  | none => .bad) := q
                rw [if_neg (by rw [hk]; simp), h3] at q
                have g3 : H2 a = some (.lst vs) := y2.step.keep _ _ g1 fun z => absurd z.1 (by simp)
                have g4 := y3.reps g2
                refine hM _ _ H2 a vs xs us ys xs' _ (.inr (.inr hm)) g3 g4 r2 hm' fun vs' r3 => ?_
                exact q s _ _ ((y1.trans y3).toN.tr (cellF y3.wok hk h1 h3 h2 h4 g3 (fun _ z => by cases z) (fun _ _ z => by cases z) (Own.put (.inr (.inr hm)) g3 (fun _ z => by cases z) (fun _ _ z => by cases z) r3)))
    | _ => exact q.elim
/-- xs.append(e) -/
theorem js_app (ho : PE X o (rdE X.K T W A)) (ha : PA X [y] (rdA X.K T W As)) (hbase : attributeBase o "append" X.env (eval o X.env) = eval o X.env := by rfl)
    (hfew : ((backTo cpos (starEach [y] X.env)).all (fun x => !x.1) && (backToKw cpos (keywordEach [] X.env)).all (fun x => x.1.isSome)
      && decide ([y].length + ([] : List Keyword).length + (if ([] : List Keyword).isEmpty then 0 else 1) < 30)) = true := by rfl)
    (hline : (apos.endLine == cpos.line) = true := by rfl) (hs : starEach [y] X.env = (false, eval y X.env) :: starEach [] X.env := by rfl) (hplain : (backTo cpos (starEach [] X.env)).any (·.1) = false := by rfl)
    (hsw : swapsWith (.Call (.Attribute o "append" apos) [y] [] cpos) none pos.line X.env = pure false := by rfl) :
    PS X (.Expr (.Call (.Attribute o "append" apos) [y] [] cpos) pos) (rdS X.K T W (sMut mApp A As)) :=
  ps_imp (ps_expr (pe_bm PySem.F.plainAttrs_list PySem.F.slot_list_append PySem.F.type_list_append mt_append ho ha hbase hfew hline hs hplain) hsw) (rd_mut mutOk_app)

theorem ixP_eq {n : Nat} {i : Int} : ixP n i = ixN n i := rfl
/-- xs[i] = x, xs a list -/
theorem rd_setL {K : PySem.W.Frag} : ∀ (D : Ends) (s : L2.St) (H : Hp), rdS K T W (sSet mSetL A I B) D s H → tAsg (rdE K T W B) (gSub (rdE K T W A) (rdE K T W I) rSetL) D s H := by
  intro D s H q
  obtain ⟨Z, l, e, st, w, q⟩ := rdS_iff.mp q
  refine rd_out w q fun v y s0 l0 H0 _ y0 r0 q => ?_
  cases hy : y.keep with
  | none => rw [hy] at q; exact q.elim
  | some dy =>
    rw [hy, Out.ofOpt_some] at q
    have rv := r0.keep hy
    refine rd_out (W := W) (D := D) y0.wok (outP.ahead y0.toN q) fun u x s1 l1 H1 _ y1 r1 q => ?_
    cases x with
    | sh d => exact q.elim
    | ow d => exact q.elim
    | bw i d =>
      cases r1 with
      | bw h1 h2 =>
        have q : outP K T W D Z s e l0 H0 s0 ((I e s1).out e fun j s2 => Out.ofOpt (mSetL d j.any dy) fun d' => put (.bw i d) d' e s2) := q
        refine ⟨Z, l1, e, s1, y1.wok, ?_⟩
        cases hI : I e s1 with
        | bad => rw [hI] at q; exact q
        | ex c s2 => rw [hI] at q; exact fun l' H' y2 => q s l' H' (y1.trans y2).toN
        | ok j s2 =>
          rw [hI, R.out_ok] at q
          intro ju l2 H2 y2 r2
          obtain ⟨a, rfl, hma, ho⟩ := VRep.own y2.wok h1 h2
          cases hm : mSetL d j.any dy with
          | none => rw [hm] at q; exact q.elim
          | some d' =>
            rw [hm, Out.ofOpt_some] at q
            cases ho with
            | @lst vs xs g1 g2 =>
              have hj := r2.any y2.wok
              cases hja : j.any with
              | int iv =>
                rw [hja] at hm hj
                have hm : (ixP xs.length iv).map (fun j => Pz.D.lst (xs.set j dy)) = some d' := hm
                cases hx : ixP xs.length iv with
                | none => rw [hx] at hm; cases hm
                | some jn =>
                  rw [hx] at hm
                  cases hm
                  have hv : ju = .int iv := by
                    rcases hj with hj | ⟨_, _, hj⟩
                    · cases hj; rfl
                    · cases hj
                  subst hv
                  have rv2 := (y1.trans y2).rep rv
                  refine ⟨a, vs, iv, jn, rfl, rfl, g1, by rw [g2.length]; exact hx, ?_⟩
                  exact q s l2 _ ((y1.trans y2).toN.tr (cellE y2.wok h1 h2 g1 (fun _ z => by cases z) (fun _ _ z => by cases z) (Own.put (.inr (.inl hma)) g1 (fun _ z => by cases z) (fun _ _ z => by cases z) (g2.set jn rv2))))
              | _ => rw [hja] at hm; cases hm
            | dic _ _ => cases hm
    | fb k f d =>
      cases r1 with
      | @fb _ _ _ _ pp dx vs0 ob h1 h2 h3 h4 =>
        have q : outP K T W D Z s e l0 H0 s0 (if s1.lk = true then .bad else match I e { s1 with lk := true } with
          | .ok j _ => Out.ofOpt (mSetL d j.any dy) fun d' => put (.fb k f d) d' e s1
          | .ex c _ => .ex c e s1
          | .bad => .bad) := q
        cases hk : s1.lk with
        | true => rw [if_pos hk] at q; exact q.elim
        | false =>
          rw [if_neg (by rw [hk]; simp)] at q
          refine ⟨Z, l1, e, { s1 with lk := true }, y1.wok.lock true, ?_⟩
          cases hI : I e { s1 with lk := true } with
          | bad => rw [hI] at q; exact q
          | ex c s2 => rw [hI] at q; exact fun l' H' y2 => q s l' H' (y1.trans y2.un.2.2).toN
          | ok j s2 =>
            rw [hI] at q
            intro ju l2 H2 y2 r2
            have hj := r2.any y2.wok
            obtain ⟨rfl, eo, y3⟩ := y2.un
            have q : outP K T W D Z s e l0 H0 s0 (Out.ofOpt (mSetL d j.any dy) fun d' => put (.fb k f d) d' e s1) := q
            cases hm : mSetL d j.any dy with
            | none => rw [hm] at q; exact q.elim
            | some d' =>
              rw [hm, Out.ofOpt_some] at q
              have qf : outP K T W D Z s e l0 H0 s0 (if s1.lk = true then .bad else match s1.obs[k]? with
                | some ob => .nx e { s1 with obs := s1.obs.set k { ob with fs := ob.fs.set f (.ow d') } }
                | none => .bad) := q
              rw [if_neg (by rw [hk]; simp), h3] at qf
              obtain ⟨a, rfl, hma, ho⟩ := VRep.ownF y3.wok h1 h2 h3 h4
              cases ho with
              | @lst vs xs g1 g2 =>
                cases hja : j.any with
                | int iv =>
                  rw [hja] at hm hj
                  have hm : (ixP xs.length iv).map (fun j => Pz.D.lst (xs.set j dy)) = some d' := hm
                  cases hx : ixP xs.length iv with
                  | none => rw [hx] at hm; cases hm
                  | some jn =>
                    rw [hx] at hm
                    cases hm
                    have hv : ju = .int iv := by
                      rcases hj with hj | ⟨_, _, hj⟩
                      · cases hj; rfl
                      · cases hj
                    subst hv
                    have rv2 := (y1.trans y3).rep rv
                    refine ⟨a, vs, iv, jn, rfl, rfl, g1, by rw [g2.length]; exact hx, ?_⟩
                    exact qf s _ _ ((y1.trans y3).toN.tr (cellF y3.wok hk h1 h3 h2 h4 g1 (fun _ z => by cases z) (fun _ _ z => by cases z) (Own.put (.inr (.inr hma)) g1 (fun _ z => by cases z) (fun _ _ z => by cases z) (g2.set jn rv2))))
                | _ => rw [hja] at hm; cases hm
              | dic _ _ => cases hm
theorem js_setL {i : Expr} {tpos : Pos} (hb : PE X y (rdE X.K T W B)) (ho : PE X o (rdE X.K T W A)) (hi : PE X i (rdE X.K T W I))
    (ha : ∀ v, assign (.Subscript o i tpos) X.env v = (do
      let ov ← holding [v] (eval o X.env)
      let iv ← holding [v, ov] (eval i X.env)
      standAt tpos
      holding [v, ov, iv] (setItem ov iv v)
      release [v, ov, iv] []) := by intro _; rfl) (hs : swapsWithSole [.Subscript o i tpos] y pos.line X.env = pure false := by rfl) (hw : swappedStores [.Subscript o i tpos] y X.env = pure none := by rfl) :
    PS X (.Assign [.Subscript o i tpos] y pos) (rdS X.K T W (sSet mSetL A I B)) := ps_imp (ps_asg hb (pg_sub ho hi set_list ha) hs hw) rd_setL

/-! ### fields stored -/
theorem putF_zip : ∀ {ns : List Str} {vs : List V} {f : Nat} {n : Str} {v : V}, ns.Nodup → ns[f]? = some n → f < vs.length → vs.length ≤ ns.length → putF n v (ns.zip vs) = ns.zip (vs.set f v)
  | [], _, _, _, _, _, h, _, _ => by simp at h
  | _ :: _, [], _, _, _, _, _, h, _ => by simp at h
  | m :: ns, u :: vs, 0, n, v, _, h, _, _ => by
    simp at h; subst h
    show (if m = m then _ else _) = _
    rw [if_pos rfl]
    rfl
  | m :: ns, u :: vs, f + 1, n, v, nd, h, hl, hn => by
    have h' : ns[f]? = some n := by simpa using h
    have nd' := List.nodup_cons.mp nd
    have ne : ¬ m = n := fun q => nd'.1 (by subst q; exact List.mem_iff_getElem?.mpr ⟨f, h'⟩)
    show (if m = n then _ else _) = _
    rw [if_neg ne]
    show (m, u) :: putF n v (ns.zip vs) = (m, u) :: ns.zip (vs.set f v)
    rw [putF_zip nd'.2 h' (by simpa using hl) (by simpa using hn)]
theorem putF_snoc : ∀ {ns : List Str} {vs : List V} {n : Str} {v : V}, ns.Nodup → ns[vs.length]? = some n → putF n v (ns.zip vs) = ns.zip (vs ++ [v])
  | [], [], _, _, _, h => by simp at h
  | [], _ :: _, _, _, _, h => by simp at h
  | m :: ns, [], n, v, _, h => by
    simp at h; subst h
    simp [putF]
  | m :: ns, u :: vs, n, v, nd, h => by
    have h' : ns[vs.length]? = some n := by simpa using h
    have nd' := List.nodup_cons.mp nd
    have ne : ¬ m = n := fun q => nd'.1 (by subst q; exact List.mem_iff_getElem?.mpr ⟨_, h'⟩)
    show (if m = n then _ else _) = _
    rw [if_neg ne]
    show (m, u) :: putF n v (ns.zip vs) = (m, u) :: ns.zip (vs ++ [v])
    rw [putF_snoc nd'.2 h']
theorem ownsF_split : ∀ {vs : List V} {fs : List Slot} {f : Nat}, f < vs.length → f < fs.length → ∃ L1 M L2 : List Addr, ownsF vs fs = L1 ++ (M ++ L2) ∧ (∀ v d, ownsF (vs.set f v) (fs.set f (.sh d)) = L1 ++ L2) ∧ (∀ a d, ownsF (vs.set f (.ref a)) (fs.set f (.ow d)) = L1 ++ a :: L2)
  | [], _, _, h, _ => by simp at h
  | _ :: _, [], _, _, h => by simp at h
  | x :: vs, y :: fs, 0, _, _ => by
    have hM : ∃ M : List Addr, ownsF (x :: vs) (y :: fs) = M ++ ownsF vs fs := by
      cases y with
      | sh d => exact ⟨[], ownsF_cons_sh⟩
      | ow d => cases x <;> first | exact ⟨[_], rfl⟩ | exact ⟨[], rfl⟩
    obtain ⟨M, h⟩ := hM
    exact ⟨[], M, ownsF vs fs, h, fun v d => ownsF_cons_sh, fun a d => rfl⟩
  | x :: vs, y :: fs, f + 1, h1, h2 => by
    obtain ⟨L1, M, L2, q1, q2, q3⟩ := ownsF_split (vs := vs) (fs := fs) (f := f) (by simpa using h1) (by simpa using h2)
    have hP : ∃ P : List Addr, ∀ vs' fs', ownsF (x :: vs') (y :: fs') = P ++ ownsF vs' fs' := by
      cases y with
      | sh d => exact ⟨[], fun _ _ => ownsF_cons_sh⟩
      | ow d => cases x <;> first | exact ⟨[_], fun _ _ => rfl⟩ | exact ⟨[], fun _ _ => rfl⟩
    obtain ⟨P, hP⟩ := hP
    refine ⟨P ++ L1, M, L2, by rw [hP, q1, List.append_assoc], fun v d => ?_, fun a d => ?_⟩
    · rw [List.set_cons_succ, List.set_cons_succ, hP, q2, List.append_assoc]
    · rw [List.set_cons_succ, List.set_cons_succ, hP, q3, List.append_assoc]
theorem ownsF_snoc : ∀ {vs : List V} {fs : List Slot} {v : V} {x : Slot}, vs.length = fs.length → ownsF (vs ++ [v]) (fs ++ [x]) = ownsF vs fs ++ ownsF [v] [x]
  | [], [], _, _, _ => by simp [ownsF_nil]
  | [], _ :: _, _, _, h => by simp at h
  | _ :: _, [], _, _, h => by simp at h
  | u :: vs, y :: fs, v, x, h => by
    have ih := ownsF_snoc (vs := vs) (fs := fs) (v := v) (x := x) (by simpa using h)
    rw [List.cons_append, List.cons_append]
    cases y with
    | sh d => rw [ownsF_cons_sh, ownsF_cons_sh, ih]
    | ow d => cases u <;> first | exact ih | exact congrArg (List.cons _) ih
section
variable {K : PySem.W.Frag} {Z Zn : Addr → Prop} {H : Hp} {l : Lay} {s : List (Option V)} {e : Env} {st st' : Store}
/-- a field gets a value (or a list of its own, kept away till now) -/
theorem fldO (w : Wok K T Zn l s e H st) (hZ : ∀ a, Z a → Zn a) (hk : st.lk = false) {c k f : Nat} {n : Str} {p dx : Addr} {vs : List V} {v : V} {x : Slot} (h0 : c ≠ 0) (nd : (T.names c).Nodup) (hn : (T.names c)[f]? = some n) (hl : l[k]? = some (p, dx, vs)) (hx : FRep K (rho l) (AV Zn s e l st.obs) H v x)
    (hnew : ∀ a d, v = .ref a → x = .ow d → Zn a ∧ ¬ Z a) (hp : putO st c k f x = some st') : ∃ vs', Wok K T Z (l.set k (p, dx, vs')) s e (upd H p (.ins (T.ad c) dx (putF n v ((T.names c).zip vs)))) st' ∧ (∀ b ∈ fpO (l.set k (p, dx, vs')) st'.obs, b ∈ fpO l st.obs ∨ (Zn b ∧ ¬ Z b)) ∧ st'.lk = st.lk ∧ vs.length ≤ (T.names c).length ∧
      H p = some (.ins (T.ad c) dx ((T.names c).zip vs)) ∧ p ∈ fpO l st.obs := by
  unfold putO at hp
  rw [if_neg (by rw [hk]; simp)] at hp
  cases hob : st.obs[k]? with
  | none => rw [hob] at hp; cases hp
  | some ob =>
    rw [hob, Option.bind_some] at hp
    by_cases hc : ob.cls = c
    · rw [if_pos hc] at hp
      cases hf : setF ob.fs f x with
      | none => rw [hf] at hp; cases hp
      | some fs' =>
        rw [hf] at hp
        cases hp
        have ok := Paired.get w.stor hl hob
        obtain ⟨i1, i2⟩ := ok.ins hc h0
        have hlen : vs.length = ob.fs.length := Paired.length ok.1
        obtain ⟨L1, L2, q1, _, _⟩ := fpO_split hl hob
        have wn := w.nd
        rw [q1] at wn
        have nF := List.nodup_cons.mp (List.nodup_append.mp (List.nodup_append.mp (List.nodup_append.mp wn).2.1).1).2.1
        have hmO : p ∈ fpO l st.obs := mem_fpO_of hl hob (.inl rfl)
        have sp : Step (fun z => z = p) H (upd H p (.ins (T.ad c) dx (putF n v ((T.names c).zip vs)))) := step_upd i1 (fun _ z => by cases z) (fun _ _ z => by cases z)
        have vav : ∀ z, z = p → AV Zn s e l st.obs z := fun z q => by subst q; exact .inr (.inr hmO)
        have hxp : FRep K (rho l) (AV Zn s e l st.obs) (upd H p (.ins (T.ad c) dx (putF n v ((T.names c).zip vs)))) v x := hx.step sp (Pre.refl _) vav (fun _ _ n => n) fun a d e1 e2 q => by
          obtain ⟨z1, _⟩ := hnew a d e1 e2
          have q : a = p := q
          subst q
          exact w.zd a (List.mem_append_right _ hmO) z1
        have stay : ∀ {j : Nat} {u : V} {y : Slot}, vs[j]? = some u → ob.fs[j]? = some y → FRep K (rho l) (AV Zn s e l st.obs) H u y → FRep K (rho l) (AV Zn s e l st.obs) (upd H p (.ins (T.ad c) dx (putF n v ((T.names c).zip vs)))) u y := fun {j u y} hu hy fr => fr.step sp (Pre.refl _) vav (fun _ _ n => n) fun a d e1 e2 hq => by
          have hq' : a = p := hq
          subst e1 e2
          rw [hq'] at hu
          exact nF.1 (mem_ownsF_of hu hy)
        have hdd : ∀ vs', putF n v ((T.names c).zip vs) = (T.names c).zip vs' → vs'.length ≤ (T.names c).length → HdOk T (upd H p (.ins (T.ad c) dx (putF n v ((T.names c).zip vs)))) (p, dx, vs') ob.cls := fun vs' h1 h2 => by
          rw [hc]
          cases c with
          | zero => exact absurd rfl h0
          | succ c => exact ⟨by rw [← h1]; exact upd_same, h2⟩
        have xo : ∀ b ∈ ownsF [v] [x], Zn b ∧ ¬ Z b := fun b hb => by
          cases x with
          | sh d => rw [ownsF_cons_sh, ownsF_nil] at hb; cases hb
          | ow d =>
            cases v with
            | ref a =>
              rw [ownsF_cons_ow, ownsF_nil] at hb
              simp at hb; subst hb
              exact hnew b d rfl rfl
            | _ => simp [ownsF] at hb
        unfold setF at hf
        by_cases h1 : f < ob.fs.length
        · rw [if_pos h1] at hf
          cases hf
          refine ⟨vs.set f v, ?_⟩
          obtain ⟨M1, M, M2, s1, s2, s3⟩ := ownsF_split (vs := vs) (fs := ob.fs) (f := f) (by omega) h1
          have subF : ∀ a ∈ ownsF (vs.set f v) (ob.fs.set f x), a ∈ ownsF vs ob.fs ∨ (Zn a ∧ ¬ Z a) := fun a ha => by
            cases x with
            | sh d =>
              rw [s2] at ha; rw [s1]
              rcases List.mem_append.mp ha with ha | ha
              · exact .inl (List.mem_append_left _ ha)
              · exact .inl (List.mem_append_right _ (List.mem_append_right _ ha))
            | ow d =>
              cases hx with
              | @ow b _ hx =>
                rw [s3] at ha; rw [s1]
                rcases List.mem_append.mp ha with ha | ha
                · exact .inl (List.mem_append_left _ ha)
                · rcases List.mem_cons.mp ha with ha | ha
                  · subst ha; exact .inr (hnew a d rfl rfl)
                  · exact .inl (List.mem_append_right _ (List.mem_append_right _ ha))
          have ndF : (ownsF (vs.set f v) (ob.fs.set f x)).Nodup := by
            have nf := nF.2
            rw [s1] at nf
            have nf' : (M1 ++ M2).Nodup := List.Nodup.sublist (List.Sublist.append (List.Sublist.refl _) (List.sublist_append_right _ _)) nf
            cases x with
            | sh d => rw [s2]; exact nf'
            | ow d =>
              cases hx with
              | @ow b _ hx =>
                rw [s3]
                refine (List.perm_middle.nodup_iff).mpr (List.nodup_cons.mpr ⟨fun q => ?_, nf'⟩)
                have z := hnew b d rfl rfl
                refine w.zd b (List.mem_append_right _ (mem_fpO_of hl hob (.inr ?_))) z.1
                rw [s1]
                rcases List.mem_append.mp q with q | q
                · exact List.mem_append_left _ q
                · exact List.mem_append_right _ (List.mem_append_right _ q)
          have okn : ObOk K T (rho l) (AV Zn s e l st.obs) (upd H p (.ins (T.ad c) dx (putF n v ((T.names c).zip vs)))) (p, dx, vs.set f v) { ob with fs := ob.fs.set f x } :=
            ⟨Paired.setI hxp f ok.1 fun j u y _ hu hy q => stay hu hy q, hdd _ (putF_zip nd hn (by omega) i2) (by rw [List.length_set]; exact i2)⟩
          obtain ⟨w', hs⟩ := obStep w hZ hl hob sp (fun a z => .inl z) subF ndF okn
          exact ⟨w', hs, rfl, i2, i1, hmO⟩
        · rw [if_neg h1] at hf
          by_cases h2 : f = ob.fs.length
          · rw [if_pos h2] at hf
            cases hf
            refine ⟨vs ++ [v], ?_⟩
            have e1 : ownsF (vs ++ [v]) (ob.fs ++ [x]) = ownsF vs ob.fs ++ ownsF [v] [x] := ownsF_snoc hlen
            have subF : ∀ a ∈ ownsF (vs ++ [v]) (ob.fs ++ [x]), a ∈ ownsF vs ob.fs ∨ (Zn a ∧ ¬ Z a) := fun a ha => by
              rw [e1] at ha
              exact (List.mem_append.mp ha).imp id (xo a)
            have ndF : (ownsF (vs ++ [v]) (ob.fs ++ [x])).Nodup := by
              rw [e1]
              refine List.nodup_append.mpr ⟨nF.2, ?_, fun a ha b hb q => ?_⟩
              · cases x with
                | sh d => rw [ownsF_cons_sh, ownsF_nil]; simp
                | ow d => cases v <;> simp [ownsF]
              · subst q
                exact w.zd a (List.mem_append_right _ (mem_fpO_of hl hob (.inr ha))) (xo a hb).1
            have hfn : (T.names c)[vs.length]? = some n := by rw [hlen, ← h2]; exact hn
            have hle : (vs ++ [v]).length ≤ (T.names c).length := by
              have := (List.getElem?_eq_some_iff.mp hfn).1
              simp; omega
            have okn : ObOk K T (rho l) (AV Zn s e l st.obs) (upd H p (.ins (T.ad c) dx (putF n v ((T.names c).zip vs)))) (p, dx, vs ++ [v]) { ob with fs := ob.fs ++ [x] } :=
              ⟨Paired.snoc hxp (Paired.monoI ok.1 fun j u y hu hy q => stay hu hy q), hdd _ (putF_snoc nd hfn) hle⟩
            obtain ⟨w', hs⟩ := obStep w hZ hl hob sp (fun a z => .inl z) subF ndF okn
            exact ⟨w', hs, rfl, i2, i1, hmO⟩
          · rw [if_neg h2] at hf; cases hf
    · rw [if_neg hc] at hp; cases hp
end
end
end Pz

/-! Fields stored; op= at a name, at a field. -/
namespace Pz
open PySem L2 PySem.Spec PyProof.Rows

section
variable {X : Cx} {T : CT} {W : WX} {pos p apos cpos : Pos} {a b c x y o : Expr} {A B I : EF} {es : List Expr} {As : AF}
theorem Ext.wkZ {K : PySem.W.Frag} {Z Zn : Addr → Prop} {l1 l2 : Lay} {s : List (Option V)} {e : Env} {H1 H2 : Hp} {s1 s2 : Store} (z : Ext K T Zn s e l1 H1 s1 l2 H2 s2) (h : ∀ a, Z a → Zn a) : Ext K T Z s e l1 H1 s1 l2 H2 s2 := ⟨z.wok.weakZ h, z.step, z.fp, z.pre, z.lk, z.lkd⟩
theorem out_fld {K : PySem.W.Frag} {D : Ends} {Z Zn : Addr → Prop} {l l2 : Lay} {s : List (Option V)} {e : Env} {H H2 : Hp} {st s2 s3 : Store} (y : Ext K T Z s e l H st l2 H2 s2) (w2 : Wok K T Zn l2 s e H2 s2) (hZ : ∀ a, Z a → Zn a) (hn : ∀ a, Zn a → ¬ Z a → H a = none) {cn k f : Nat} {n : Str} {v : V} {sl : Slot} {pa : Addr} (hcls : ClsOk K T cn) (hf : (T.names cn)[f]? = some n) (h0 : cn ≠ 0) (hz : (T.names cn).length < 1000)
    (hk : (rho l2)[k]? = some pa) (hx : FRep K (rho l2) (AV Zn s e l2 s2.obs) H2 v sl) (hnew : ∀ a d, v = .ref a → sl = .ow d → Zn a ∧ ¬ Z a) (hp : putO s2 cn k f sl = some s3) (q : outP K T W D Z s e l H st (.nx e s3)) :
    ∃ (C dx : Addr) (fs : List (Str × V)), H2 pa = some (.ins C dx fs) ∧ L2.Cls K C ∧ NoAttr K C n ∧ fs.length < 1000 ∧ D.nx s (upd H2 pa (.ins C dx (putF n v fs))) := by
  obtain ⟨dx, vs, hl⟩ := rho_get hk
  cases hlk : s2.lk with
  | true => unfold putO at hp; rw [if_pos hlk] at hp; cases hp
  | false =>
    have hmem : n ∈ T.names cn := List.mem_iff_getElem?.mpr ⟨f, hf⟩
    obtain ⟨vs', w', hs, hlk', i2, i1, hmO⟩ := fldO w2 hZ hlk h0 hcls.nd hf hl hx hnew hp
    refine ⟨_, dx, _, i1, hcls.cl, hcls.na n hmem, ?_, ?_⟩
    · rw [List.length_zip]; omega
    · have sp : Step (fun z => z = pa) H2 (upd H2 pa (.ins (T.ad cn) dx (putF n v ((T.names cn).zip vs)))) := step_upd i1 (fun _ z => by cases z) (fun _ _ z => by cases z)
      have hst : st.lk = false := by rw [← y.lk]; exact hlk
      refine q s _ _ ⟨⟨w', ?_, fun b h => .inl h, fun b h => ?_, by rw [rho_set hl]; exact y.pre, by rw [hlk']; exact y.lk, fun z => by rw [hst] at z; cases z⟩, rfl⟩
      · refine (y.step.trans sp fun b hb z => ?_ : Step (vol l st) H _).mono fun b _ z => .inr z
        have z : b = pa := z
        subst z
        rcases y.fp b hmO with h | h
        · exact ⟨hst, h⟩
        · exact absurd h hb
      · rcases hs b h with h | h
        · exact (y.fp b h).imp (List.mem_append_right _) id
        · exact .inr (hn b h.1 h.2)
/-- o.f = e -/
theorem js_fld {cn f : Nat} {n : Str} {pos' : Pos} (hcls : ClsOk X.K T cn) (ho : PE X o (rdE X.K T W A)) (hv : PE X y (rdE X.K T W B)) (hf : (T.names cn)[f]? = some n := by rfl) (h0 : cn ≠ 0 := by decide) (hz : (T.names cn).length < 1000 := by decide)
    (hs : swapsWith y (some (.Attribute o n pos')) pos.line X.env = pure false := by rfl) : PS X (.Assign [.Attribute o n pos'] y pos) (rdS X.K T W (Pz.sFld cn A f B)) := ps_imp (ps_fld ho hv hs) fun D s H q => by
  obtain ⟨Z, l, e, st, w, q⟩ := rdS_iff.mp q
  refine rd_out w q fun v x s1 l1 H1 _ y1 r1 q => ?_
  cases x with
  | bw i d => exact q.elim
  | fb i j d => exact q.elim
  | sh d =>
    have q : outP X.K T W D Z s e l H st ((A e s1).out e fun a s2 => Out.ofOpt a.asO fun k => Out.ofOpt (putO s2 cn k f (.sh d)) fun s3 => .nx e s3) := q
    cases r1 with
    | sh r1 =>
      refine rd_out (W := W) (D := D) y1.wok (outP.ahead y1.toN q) fun u x s2 l2 H2 _ y2 r2 q => ?_
      cases hk : x.asO with
      | none => rw [hk] at q; exact q.elim
      | some k =>
        rw [hk, Out.ofOpt_some] at q
        obtain ⟨pa, rfl, hr⟩ := asO_of r2 hk
        cases hp : putO s2 cn k f (.sh d) with
        | none => rw [hp] at q; exact q.elim
        | some s3 =>
          rw [hp, Out.ofOpt_some] at q
          obtain ⟨C, dx, fs, z1, z2, z3, z4, z5⟩ := out_fld (Zn := Z) y2 y2.wok (fun _ h => h) (fun _ h1 h2 => absurd h1 h2) hcls hf h0 hz hr (.sh (y2.rep r1)) (fun _ _ _ z => by cases z) hp q
          exact ⟨pa, C, dx, fs, rfl, z1, z2, z3, z4, z5⟩
  | ow d =>
    have q : outP X.K T W D Z s e l H st ((A e s1).out e fun a s2 => Out.ofOpt a.asO fun k => Out.ofOpt (putO s2 cn k f (.ow d)) fun s3 => .nx e s3) := q
    cases r1 with
    | @ow aa _ g1 g2 g3 g4 =>
      refine ⟨fun b => Z b ∨ b = aa, l1, e, s1, g3, ?_⟩
      cases hA : A e s1 with
      | bad => rw [hA] at q; exact q
      | ex c s2 => rw [hA] at q; exact fun l' H' y2 => q s l' H' (y1.trans (y2.wkZ fun _ h => .inl h)).toN
      | ok x s2 =>
        rw [hA, R.out_ok] at q
        intro u l2 H2 y2 r2
        cases hk : x.asO with
        | none => rw [hk] at q; exact q.elim
        | some k =>
          rw [hk, Out.ofOpt_some] at q
          obtain ⟨pa, rfl, hr⟩ := asO_of r2 hk
          cases hp : putO s2 cn k f (.ow d) with
          | none => rw [hp] at q; exact q.elim
          | some s3 =>
            rw [hp, Out.ofOpt_some] at q
            have own2 : Own X.K (rho l2) (AV (fun b => Z b ∨ b = aa) s e l2 s2.obs) H2 aa d := g4.step y2.step y2.pre (fun _ z => .inr (.inr z.2)) (fun _ h n => y2.av h n) fun z => g3.zd aa (List.mem_append_right _ z.2) (.inr rfl)
            obtain ⟨C, dx, fs, z1, z2, z3, z4, z5⟩ := out_fld (y1.trans (y2.wkZ fun _ h => .inl h)) y2.wok (fun _ h => .inl h) (fun b h1 h2 => by
              rcases h1 with h1 | h1
              · exact absurd h1 h2
              · subst h1; exact g1) hcls hf h0 hz hr (.ow own2) (fun b dd eb _ => by cases eb; exact ⟨.inr rfl, g2⟩) hp q
            exact ⟨pa, C, dx, fs, rfl, z1, z2, z3, z4, z5⟩

/-! ### op= -/
def IpOk (X : Cx) (op : Operator) (o : D → D → OR) : Prop :=
  ∃ r, OpR X (inplaceOp op) r ∧ ∀ (rr : List Addr) (A : Addr → Prop) (H : Hp) (x y : V) (dx dy : D) (Q : VK), CRep X.K rr A H x dx → CRep X.K rr A H y dy → orP X.K rr A H Q (o dx dy) → r x y H Q
/-- x op= e at a name whose value stays -/
theorem js_aug {i : Nat} {n : Str} {op : Operator} {f : D → D → OR} {pos' : Pos} (hN : X.N.Nodup) (ho : IpOk X op f) (ha : PE X a (rdE X.K T W A)) (hi : X.N[i]? = some n := by rfl) (hx : Loc X.env.scope n := by first | exact .inl rfl | exact .inr rfl)
    (hf : X.fn n = true ∨ X.env.scope.names.lookup n = some .local := by first | exact .inl rfl | exact .inr rfl) (hrest : True := trivial) : PS X (.AugAssign (.Name n pos') op a pos) (rdS X.K T W (sAug i f A)) := by
  obtain ⟨r, h1, h2⟩ := ho
  have hp : PIp X op r := fun pins s σ H x y v u Q I rx ry h => h1 pins s σ H x y v u Q I rx ry h
  refine ps_impL (ps_aug (pos' := pos') hN hi hx ha hp hf) fun D s H hl q => ?_
  obtain ⟨Z, l, e, st, w, q⟩ := rdS_iff.mp q
  have hlt : i < e.length := by rw [← w.lenE, hl]; exact lt_of_name hi
  unfold sAug at q
  cases he : e[i]? with
  | none => rw [he] at q; exact q.elim
  | some sl =>
    cases sl with
    | none => rw [he] at q; exact q.elim
    | some sl =>
      cases sl with
      | ow d => rw [he] at q; exact q.elim
      | sh d =>
        rw [he] at q
        obtain ⟨u, hu, z⟩ := Paired.at w.slots he
        cases z with
        | @is v _ z =>
          cases z with
          | sh z =>
            refine ⟨v, hu, rd_out w q fun b x s1 l1 H1 _ y1 r1 q => ?_⟩
            have q : outP X.K T W D Z s e l H st (match f d x.any with
              | .v d => .nx (e.set i (some (.sh d))) s1
              | _ => .bad) := q
            refine h2 (rho l1) (AV Z s e l1 s1.obs) H1 v b d x.any _ (.inl (y1.rep z)) (r1.any y1.wok) ?_
            cases hfd : f d x.any with
            | nl _ => rw [hfd] at q; exact q.elim
            | bad => rw [hfd] at q; exact q.elim
            | v d' =>
              rw [hfd] at q
              intro v' H' g rv
              have y2 := y1.trans (Ext.grow y1.wok g)
              exact q _ l1 H' (y2.toN.tr (setSh_ext y2.wok hlt rv))
/-- o.f op= e: ints -/
theorem js_fldAug {cn f : Nat} {n : Str} {op : Operator} {g : D → D → OR} {rd : V → V → Hp → VK → Prop} {tpos : Pos} (hcls : ClsOk X.K T cn) (hop : InOp X op rd)
    (hg : ∀ (x y : D) (vx vy : V) (rr : List Addr) (A : Addr → Prop) (H : Hp) (Q : VK), CRep X.K rr A H vx x → CRep X.K rr A H vy y → orP X.K rr A H Q (g x y) → rd vx vy H Q)
    (ho : PE X o (rdE X.K T W A)) (hv : PE X y (rdE X.K T W B)) (hf : (T.names cn)[f]? = some n := by rfl) (h0 : cn ≠ 0 := by decide) (hz : (T.names cn).length < 1000 := by decide) :
    PS X (.AugAssign (.Attribute o n tpos) op y pos) (rdS X.K T W (Pz.sFldAug cn A f g B)) := ps_imp (ps_fldaug ho hv hop) fun D s H q => by
  obtain ⟨Z, l, e, st, w, q⟩ := rdS_iff.mp q
  refine rd_out w q fun v x s1 l1 H1 _ y1 r1 q => ?_
  cases hk : x.asO with
  | none => rw [hk] at q; exact q.elim
  | some k =>
    rw [hk, Out.ofOpt_some] at q
    obtain ⟨pa, rfl, hr⟩ := asO_of r1 hk
    cases hlk : s1.lk with
    | true => rw [if_pos hlk] at q; exact q.elim
    | false =>
      rw [if_neg (by rw [hlk]; simp)] at q
      cases hg1 : getF s1 cn k f with
      | none => rw [hg1] at q; exact q.elim
      | some sl =>
        cases sl with
        | ow d => rw [hg1] at q; exact q.elim
        | sh d =>
          rw [hg1] at q
          obtain ⟨dx, vs, hl⟩ := rho_get hr
          obtain ⟨ob, hob, hc, hfs⟩ := getF_some hg1
          have ok := Paired.get y1.wok.stor hl hob
          obtain ⟨i1, i2⟩ := ok.ins hc h0
          obtain ⟨u, hu, fr⟩ := Paired.at ok.1 hfs
          have hmem : n ∈ T.names cn := List.mem_iff_getElem?.mpr ⟨f, hf⟩
          cases fr with
          | sh fr =>
            refine ⟨pa, _, dx, _, u, rfl, i1, hcls.cl, hcls.na n hmem, lookup_zip hcls.nd hf hu, ?_⟩
            refine ⟨Z, l1, e, { s1 with lk := true }, y1.wok.lock true, ?_⟩
            cases hB : B e { s1 with lk := true } with
            | bad => rw [hB] at q; exact q
            | ex c s2 => rw [hB] at q; exact fun l' H' y2 => q s l' H' (y1.trans y2.un.2.2).toN
            | ok b s2 =>
              rw [hB] at q
              intro vb l2 H2 y2 r2
              have hb := r2.any y2.wok
              obtain ⟨rfl, eo, y3⟩ := y2.un
              rw [eo] at hb
              refine hg d b.any u vb (rho l2) (AV Z s e l2 s1.obs) H2 _ (.inl (y3.rep fr)) hb ?_
              have q : outP X.K T W D Z s e l H st (match g d b.any with
                | .v d => Out.ofOpt (putO s1 cn k f (.sh d)) fun s3 => .nx e s3
                | _ => .bad) := q
              cases hgd : g d b.any with
              | nl _ => rw [hgd] at q; exact q.elim
              | bad => rw [hgd] at q; exact q.elim
              | v d' =>
                rw [hgd] at q
                intro vz H3 gr rz
                have y4 := y3.trans (Ext.grow y3.wok gr)
                have q : outP X.K T W D Z s e l H st (Out.ofOpt (putO s1 cn k f (.sh d')) fun s3 => .nx e s3) := q
                cases hp : putO s1 cn k f (.sh d') with
                | none => rw [hp] at q; exact q.elim
                | some s3 =>
                  rw [hp, Out.ofOpt_some] at q
                  obtain ⟨C, dx', fs, z1, z2, z3, z4, z5⟩ := out_fld (Zn := Z) (y1.trans y4) y4.wok (fun _ h => h) (fun _ h1 h2 => absurd h1 h2) hcls hf h0 hz hr (.sh rz) (fun _ _ _ z => by cases z) hp q
                  have ei := gr _ _ (y2.step.keep _ _ i1 fun z => absurd z.1 (by simp))
                  rw [z1] at ei
                  cases ei
                  exact ⟨_, _, z1, z4, z5⟩
end
end Pz

/-! The operations on values are those of the language. -/
namespace Pz
open PySem L2
section
variable {X : Cx} {K : PySem.W.Frag} {r : List Addr} {A : Addr → Prop} {H : Hp}
theorem CRep.int {x : V} {i : Int} (h : CRep K r A H x (.int i)) : x = .int i := by
  rcases h with h | ⟨a, _, h⟩
  · cases h; rfl
  · cases h
theorem CRep.str {x : V} {i : Str} (h : CRep K r A H x (.str i)) : x = .str i := by
  rcases h with h | ⟨a, _, h⟩
  · cases h; rfl
  · cases h
theorem CRep.bl {x : V} {i : Bool} (h : CRep K r A H x (.bl i)) : x = .bl i := by
  rcases h with h | ⟨a, _, h⟩
  · cases h; rfl
  · cases h
theorem CRep.non {x : V} (h : CRep K r A H x .non) : x = .non := by
  rcases h with h | ⟨a, _, h⟩
  · cases h; rfl
  · cases h
theorem CRep.lst {x : V} {ds : List D} (h : CRep K r A H x (.lst ds)) : ∃ a vs, x = .ref a ∧ SqL K H a vs ∧ Reps K r A H vs ds := by
  rcases h with h | ⟨a, rfl, h⟩
  · cases h with | lst h1 h3 => exact ⟨_, _, rfl, h1.sq, h3⟩
  · cases h with | lst h1 h2 => exact ⟨_, _, rfl, .inl (.inl h1), h2⟩
theorem CRep.tup {x : V} {ds : List D} (h : CRep K r A H x (.tup ds)) : ∃ a vs, x = .ref a ∧ SqT K H a vs ∧ Reps K r A H vs ds := by
  rcases h with h | ⟨a, rfl, h⟩
  · cases h with | tup h1 h2 => exact ⟨_, _, rfl, h1, h2⟩
  · cases h
theorem sl_eq : (sizeLine : Nat) = 16777216 := rfl
theorem orP.val {Q : VK} {d : D} {v : V} (h : orP K r A H Q (.v d)) (e : Rep K r A H v d) : Q v H := h v H (Grw.refl H) e
theorem orP.ntup {Q : VK} {ds : List D} {vs : List V} (h : orP K r A H Q (.v (.tup ds))) (e : Reps K r A H vs ds) (p : Addr) (hp : H p = none) : Q (.ref p) (upd H p (.tup vs)) :=
  h _ _ (Grw.upd hp) (.tup (.inl (.inl (by simp [upd]))) (e.grw (Grw.upd hp)))
theorem orP.nl {Q : VK} {ds : List D} {vs : List V} (h : orP K r A H Q (.nl ds)) (e : Reps K r A H vs ds) (p : Addr) (hp : H p = none) : Q (.ref p) (upd H p (.lst vs)) :=
  h p vs _ hp (Grw.upd hp) (by simp [upd]) e
/-- a rule for two ints -/
theorem opI_ok {f : Value → Value → Sem Value} {o : D → D → OR} {C : Int → Int → Prop} {g : Int → Int → V} (hf : OpR X f (rI C g)) (ho : ∀ rr A H x y dx dy Q, CRep X.K rr A H x dx → CRep X.K rr A H y dy → orP X.K rr A H Q (o dx dy) → rI C g x y H Q) : OpOk X f o := ⟨_, hf, ho⟩

/-- list + list -/
def rCatR (K : PySem.W.Frag) : R2 := fun x y H Q => ∃ l b xs zs, x = .ref l ∧ y = .ref b ∧ SqL K H l xs ∧ SqL K H b zs ∧ xs.length + zs.length ≤ sizeLine ∧ ∀ p, H p = none → Q (.ref p) (upd H p (.lst (xs ++ zs)))
theorem op_catR : OpR X (binaryOp .Add) (rCatR X.K) := by
  intro pins s σ H x y v u Q I rx ry h
  obtain ⟨l, b, xs, zs, rfl, rfl, hH, hB, hz, q⟩ := h
  cases rx
  cases ry
  obtain ⟨its, r, ⟨⟨c1, dd, da, sl⟩, n, e, ec, _, ed⟩, z⟩ := I.list hH
  obtain ⟨its2, r2, ⟨⟨c2, dd2, da2, sl2⟩, n2, e2, ec2, _, ed2⟩, z2⟩ := I.list hB
  simp only at ec ed ec2 ed2
  subst ec ed ec2 ed2
  refine PySem.concat_meets ⟨_, e, rfl⟩ ⟨_, e2, rfl⟩ PySem.noFill_list_add PySem.seq_list_add PySem.F.slot_list_add PySem.F.entry_list_add (PySem.F.args_list_add_2 _ _)
    (PyProof.Rows.list_addW l b its.toArray its2.toArray n n2 dd dd2 sl sl2 (by rw [List.size_toArray, List.size_toArray, ← r.length, ← r2.length]; exact hz)) ⟨e, e2, ?_⟩
  have ea : its.toArray ++ its2.toArray = (its ++ its2).toArray := by simp
  rw [ea]
  exact ⟨.ref _, _, I.lnew (t' := s.toks) (r.append r2) (by rw [List.length_append]; omega), rfl, q _ I.fresh⟩
theorem ok_add : OpOk X (binaryOp .Add) oAdd := by
  refine ⟨_, op_add.or (op_add_str.or (op_catR.or op_catA)), ?_⟩
  intro rr A H x y dx dy Q hx hy h
  unfold oAdd at h
  split at h
  · exact .inl ⟨_, _, hx.int, hy.int, h.val (.int _)⟩
  · split at h
    next hl => exact .inr (.inl ⟨_, _, hx.str, hy.str, hl, h.val (.str _)⟩)
    next => exact h.elim
  · split at h
    next hl =>
      obtain ⟨a, vs, rfl, h1, h2⟩ := hx.lst
      obtain ⟨b, ws, rfl, h3, h4⟩ := hy.lst
      refine .inr (.inr (.inl ⟨a, b, vs, ws, rfl, rfl, h1, h3, by rw [h2.length, h4.length]; exact hl, fun p hp => h.nl (h2.append h4) p hp⟩))
    next => exact h.elim
  · split at h
    next hl =>
      obtain ⟨a, vs, rfl, h1, h2⟩ := hx.tup
      obtain ⟨b, ws, rfl, h3, h4⟩ := hy.tup
      refine .inr (.inr (.inr ⟨a, b, vs, ws, rfl, rfl, h1, h3, by rw [h2.length, h4.length]; exact hl, fun e => ?_, fun _ e => ?_, fun _ _ p hp => h.ntup (h2.append h4) p hp⟩))
      · subst e; cases h2; exact h.val (.tup h3 h4)
      · subst e; cases h4; rw [List.append_nil] at h; exact h.val (.tup h1 h2)
    next => exact h.elim
  · exact h.elim
theorem ok_sub : OpOk X (binaryOp .Sub) oSub := by
  refine ⟨_, op_sub, ?_⟩
  intro rr A H x y dx dy Q hx hy h
  unfold oSub at h
  split at h
  · exact ⟨_, _, hx.int, hy.int, h.val (.int _)⟩
  · exact h.elim
/-- ints alone -/
theorem ok_mul : OpOk X (binaryOp .Mult) oMul := by
  refine ⟨_, op_mulW, ?_⟩
  intro rr A H x y dx dy Q hx hy h
  unfold oMul at h
  split at h
  · split at h
    next hl => exact ⟨_, _, hx.int, hy.int, hl, h.val (.int _)⟩
    next => exact h.elim
  · exact h.elim
theorem ok_fdiv : OpOk X (binaryOp .FloorDiv) oFDiv := by
  refine ⟨_, op_fdivW, ?_⟩
  intro rr A H x y dx dy Q hx hy h
  unfold oFDiv at h
  split at h
  · split at h
    next hl => exact ⟨_, _, hx.int, hy.int, hl, h.val (.int _)⟩
    next => exact h.elim
  · exact h.elim
theorem ok_mod : OpOk X (binaryOp .Mod) oMod := by
  refine ⟨_, op_mod, ?_⟩
  intro rr A H x y dx dy Q hx hy h
  unfold oMod at h
  split at h
  · split at h
    next hl => exact ⟨_, _, hx.int, hy.int, hl, h.val (.int _)⟩
    next => exact h.elim
  · exact h.elim
theorem ok_pow : OpOk X (binaryOp .Pow) oPow := by
  refine ⟨_, op_pow, ?_⟩
  intro rr A H x y dx dy Q hx hy h
  unfold oPow at h
  split at h
  · split at h
    next hl => exact ⟨_, _, hx.int, hy.int, hl, h.val (.int _)⟩
    next => exact h.elim
  · exact h.elim
theorem ok_lt : OpOk X (compareOp .Lt) oLt := by
  refine ⟨_, op_lt.or op_lt_str, ?_⟩
  intro rr A H x y dx dy Q hx hy h
  unfold oLt at h
  split at h
  · exact .inl ⟨_, _, hx.int, hy.int, h.val (.bl _)⟩
  · exact .inr ⟨_, _, hx.str, hy.str, h.val (.bl _)⟩
  · exact h.elim
theorem ok_le : OpOk X (compareOp .LtE) oLe := by
  refine ⟨_, op_le.or op_le_str, ?_⟩
  intro rr A H x y dx dy Q hx hy h
  unfold oLe at h
  split at h
  · exact .inl ⟨_, _, hx.int, hy.int, h.val (.bl _)⟩
  · exact .inr ⟨_, _, hx.str, hy.str, h.val (.bl _)⟩
  · exact h.elim
theorem ok_gt : OpOk X (compareOp .Gt) oGt := by
  refine ⟨_, op_gt.or op_gt_str, ?_⟩
  intro rr A H x y dx dy Q hx hy h
  unfold oGt at h
  split at h
  · exact .inl ⟨_, _, hx.int, hy.int, h.val (.bl _)⟩
  · exact .inr ⟨_, _, hx.str, hy.str, h.val (.bl _)⟩
  · exact h.elim
theorem ok_ge : OpOk X (compareOp .GtE) oGe := by
  refine ⟨_, op_ge.or op_ge_str, ?_⟩
  intro rr A H x y dx dy Q hx hy h
  unfold oGe at h
  split at h
  · exact .inl ⟨_, _, hx.int, hy.int, h.val (.bl _)⟩
  · exact .inr ⟨_, _, hx.str, hy.str, h.val (.bl _)⟩
  · exact h.elim

/-! ### == at any depth -/
mutual
def toP : D → PyData
  | .bl b => .bool b
  | .int i => .int i
  | .str x => .str x
  | .lst xs => .list (toPs xs)
  | .tup xs => .tuple (toPs xs)
  | _ => .none
def toPs : List D → List PyData
  | [] => []
  | d :: ds => toP d :: toPs ds
end
theorem lay_sub {n : Nat} {d : D} (h : lay n (.lst [d]) = true ∨ lay n (.tup [d]) = true) : ∃ m, n = m + 1 ∧ lay m d = true := by
  cases n with
  | zero => rcases h with h | h <;> exact absurd h (by simp [lay])
  | succ m => exact ⟨m, rfl, by rcases h with h | h <;> simpa [lay] using h⟩
mutual
theorem lay_ok : ∀ {d : D} {n : Nat}, lay n d = true → (toP d).canLay0 = true ∧ (toP d).depth ≤ n
  | .non, n, _ => ⟨rfl, Nat.zero_le _⟩
  | .bl b, n, _ => ⟨rfl, Nat.zero_le _⟩
  | .int b, n, _ => ⟨rfl, Nat.zero_le _⟩
  | .str x, n, h => ⟨by cases n <;> simpa [lay, toP, PyData.canLay0, PySem.PyData.strOk] using h, Nat.zero_le _⟩
  | .lst xs, 0, h => absurd h (by simp [lay])
  | .tup xs, 0, h => absurd h (by simp [lay])
  | .lst xs, n + 1, h => by
    have q := lays_ok (n := n) (ds := xs) (by simpa [lay] using h)
    exact ⟨by simpa [toP, PyData.canLay0] using q.1, by simpa [toP, PyData.depth] using q.2⟩
  | .tup xs, n + 1, h => by
    have q := lays_ok (n := n) (ds := xs) (by simpa [lay] using h)
    exact ⟨by simpa [toP, PyData.canLay0] using q.1, by simpa [toP, PyData.depth] using q.2⟩
  | .dic _, n, h => absurd h (by cases n <;> simp [lay])
  | .obj _, n, h => absurd h (by cases n <;> simp [lay])
theorem lays_ok : ∀ {ds : List D} {n : Nat}, (∀ d ∈ ds, lay n d = true) → PyData.canLayAll0 (toPs ds) = true ∧ PyData.depthAll (toPs ds) ≤ n
  | [], n, _ => ⟨rfl, Nat.zero_le _⟩
  | d :: ds, n, h => by
    have q1 := lay_ok (h d List.mem_cons_self)
    have q2 := lays_ok (ds := ds) (n := n) fun e he => h e (List.mem_cons_of_mem _ he)
    exact ⟨by simp [toPs, PyData.canLayAll0, q1.1, q2.1], by simp only [toPs, PyData.depthAll]; exact Nat.max_le.mpr ⟨q1.2, q2.2⟩⟩
end
mutual
theorem eqv_toP : ∀ {a b : D} {n m : Nat}, lay n a = true → lay m b = true → PyData.eqv (toP a) (toP b) = eqD a b
  | .non, b, n, m, ha, hb => by cases b <;> first | rfl | exact absurd hb (by cases m <;> simp [lay]) | simp [toP, PyData.eqv, eqD]
  | .bl x, b, n, m, ha, hb => by cases b <;> first | rfl | exact absurd hb (by cases m <;> simp [lay]) | simp [toP, PyData.eqv, eqD]
  | .int x, b, n, m, ha, hb => by cases b <;> first | rfl | exact absurd hb (by cases m <;> simp [lay]) | simp [toP, PyData.eqv, eqD]
  | .str x, b, n, m, ha, hb => by cases b <;> first | rfl | exact absurd hb (by cases m <;> simp [lay]) | simp [toP, PyData.eqv, eqD]
  | .lst xs, b, 0, m, ha, hb => absurd ha (by simp [lay])
  | .tup xs, b, 0, m, ha, hb => absurd ha (by simp [lay])
  | .lst xs, .lst ys, n + 1, m + 1, ha, hb => by
    simp only [toP, PyData.eqv, eqD]
    exact eqvs_toP (n := n) (m := m) (by simpa [lay] using ha) (by simpa [lay] using hb)
  | .tup xs, .tup ys, n + 1, m + 1, ha, hb => by
    simp only [toP, PyData.eqv, eqD]
    exact eqvs_toP (n := n) (m := m) (by simpa [lay] using ha) (by simpa [lay] using hb)
  | .lst xs, .tup ys, n + 1, m, ha, hb => by simp [toP, PyData.eqv, eqD]
  | .tup xs, .lst ys, n + 1, m, ha, hb => by simp [toP, PyData.eqv, eqD]
  | .lst xs, .lst ys, n + 1, 0, ha, hb => absurd hb (by simp [lay])
  | .tup xs, .tup ys, n + 1, 0, ha, hb => absurd hb (by simp [lay])
  | .lst xs, .non, n + 1, m, ha, hb => by simp [toP, PyData.eqv, eqD]
  | .lst xs, .bl _, n + 1, m, ha, hb => by simp [toP, PyData.eqv, eqD]
  | .lst xs, .int _, n + 1, m, ha, hb => by simp [toP, PyData.eqv, eqD]
  | .lst xs, .str _, n + 1, m, ha, hb => by simp [toP, PyData.eqv, eqD]
  | .tup xs, .non, n + 1, m, ha, hb => by simp [toP, PyData.eqv, eqD]
  | .tup xs, .bl _, n + 1, m, ha, hb => by simp [toP, PyData.eqv, eqD]
  | .tup xs, .int _, n + 1, m, ha, hb => by simp [toP, PyData.eqv, eqD]
  | .tup xs, .str _, n + 1, m, ha, hb => by simp [toP, PyData.eqv, eqD]
  | .lst xs, .dic _, n + 1, m, ha, hb => absurd hb (by cases m <;> simp [lay])
  | .lst xs, .obj _, n + 1, m, ha, hb => absurd hb (by cases m <;> simp [lay])
  | .tup xs, .dic _, n + 1, m, ha, hb => absurd hb (by cases m <;> simp [lay])
  | .tup xs, .obj _, n + 1, m, ha, hb => absurd hb (by cases m <;> simp [lay])
  | .dic _, b, n, m, ha, hb => absurd ha (by cases n <;> simp [lay])
  | .obj _, b, n, m, ha, hb => absurd ha (by cases n <;> simp [lay])
theorem eqvs_toP : ∀ {as bs : List D} {n m : Nat}, (∀ d ∈ as, lay n d = true) → (∀ d ∈ bs, lay m d = true) → PyData.eqvAll (toPs as) (toPs bs) = eqDs as bs
  | [], [], n, m, _, _ => by simp [toPs, PyData.eqvAll, eqDs]
  | [], b :: bs, n, m, _, _ => by simp [toPs, PyData.eqvAll, eqDs]
  | a :: as, [], n, m, _, _ => by simp [toPs, PyData.eqvAll, eqDs]
  | a :: as, b :: bs, n, m, ha, hb => by
    simp only [toPs, PyData.eqvAll, eqDs]
    rw [eqv_toP (ha a List.mem_cons_self) (hb b List.mem_cons_self), eqvs_toP (fun d h => ha d (List.mem_cons_of_mem _ h)) (fun d h => hb d (List.mem_cons_of_mem _ h))]
end
mutual
theorem Rep.dp : ∀ {d : D} {n : Nat} {v : V}, Rep K r A H v d → lay n d = true → Dp K H v (toP d)
  | .non, n, v, h, _ => by cases h; exact .non
  | .bl b, n, v, h, _ => by cases h; exact .bl b
  | .int b, n, v, h, _ => by cases h; exact .int b
  | .str b, n, v, h, _ => by cases h; exact .str b
  | .lst xs, 0, v, h, l => absurd l (by simp [lay])
  | .tup xs, 0, v, h, l => absurd l (by simp [lay])
  | .lst xs, n + 1, v, h, l => by
    cases h with
    | lst h1 h3 => exact .lst h1.sq (Reps.dp h3 (n := n) (by simpa [lay] using l))
  | .tup xs, n + 1, v, h, l => by
    cases h with
    | tup h1 h3 => exact .tup h1 (Reps.dp h3 (n := n) (by simpa [lay] using l))
  | .dic _, n, v, h, l => absurd l (by cases n <;> simp [lay])
  | .obj _, n, v, h, l => absurd l (by cases n <;> simp [lay])
theorem Reps.dp : ∀ {ds : List D} {n : Nat} {vs : List V}, Reps K r A H vs ds → (∀ d ∈ ds, lay n d = true) → DpAll K H vs (toPs ds)
  | [], n, vs, h, _ => by cases h; exact .nil
  | d :: ds, n, vs, h, l => by
    cases h with
    | cons h1 h2 => exact .cons (Rep.dp h1 (l d List.mem_cons_self)) (Reps.dp h2 fun e he => l e (List.mem_cons_of_mem _ he))
end
theorem CRep.dp {d : D} {n : Nat} {v : V} (h : CRep K r A H v d) (l : lay n d = true) : Dp K H v (toP d) := by
  rcases h with h | ⟨a, rfl, h⟩
  · exact h.dp l
  · cases h with
    | lst h1 h2 =>
      cases n with
      | zero => exact absurd l (by simp [lay])
      | succ n => exact .lst (.inl (.inl h1)) (h2.dp (n := n) (by simpa [lay] using l))
    | dic h1 h2 => exact absurd l (by cases n <;> simp [lay])
theorem shaped_of {d : D} (h : lay 64 d = true) : SeqAt.shaped (toP d) = true := by
  have q := lay_ok h
  unfold SeqAt.shaped
  rw [q.1, decide_eq_true q.2]; rfl
theorem ok_eq (hu : X.A.units + 64 < cLine) : OpOk X (compareOp .Eq) oEq := by
  refine ⟨_, op_eqD hu, ?_⟩
  intro rr A H x y dx dy Q hx hy h
  unfold oEq at h
  split at h
  next hl => exact ⟨_, _, hx.dp hl.1, hy.dp hl.2, shaped_of hl.1, shaped_of hl.2, by rw [eqv_toP hl.1 hl.2]; exact h.val (.bl _)⟩
  next => exact h.elim
theorem ok_ne (hu : X.A.units + 64 < cLine) : OpOk X (compareOp .NotEq) oNe := by
  refine ⟨_, op_neD hu, ?_⟩
  intro rr A H x y dx dy Q hx hy h
  unfold oNe at h
  split at h
  next hl => exact ⟨_, _, hx.dp hl.1, hy.dp hl.2, shaped_of hl.1, shaped_of hl.2, by rw [eqv_toP hl.1 hl.2]; exact h.val (.bl _)⟩
  next => exact h.elim
theorem CRep.isN {x : V} {d : D} (h : CRep K r A H x d) : decide (x = .non) = Pz.isN d := by
  rcases h with h | ⟨a, rfl, h⟩
  · cases h <;> rfl
  · cases h <;> rfl
theorem ok_is : OpOk X (compareOp .Is) oIs := by
  refine ⟨_, op_isN.or op_is_bl, ?_⟩
  intro rr A H x y dx dy Q hx hy h
  unfold oIs at h
  split at h
  · exact .inl ⟨hy.non, by rw [hx.isN]; exact h.val (.bl _)⟩
  · exact .inr ⟨_, _, hx.bl, hy.bl, h.val (by rw [Bool.beq_eq_decide_eq]; exact .bl _)⟩
  · exact h.elim
theorem ok_isN : OpOk X (compareOp .IsNot) oIsN := by
  refine ⟨_, op_notN.or op_isnot_bl, ?_⟩
  intro rr A H x y dx dy Q hx hy h
  unfold oIsN at h
  split at h
  · exact .inl ⟨hy.non, by rw [hx.isN]; exact h.val (.bl _)⟩
  · exact .inr ⟨_, _, hx.bl, hy.bl, h.val (by rw [Bool.beq_eq_decide_eq]; exact .bl _)⟩
  · exact h.elim
theorem ok_neg : UnOk X (unaryOp .USub) oNeg := by
  refine ⟨_, un_neg, ?_⟩
  intro rr A H x dx Q hx h
  unfold oNeg at h
  split at h
  · exact ⟨_, hx.int, h.val (.int _)⟩
  · exact h.elim

/-! ### a[i] -/
theorem ixP_atI {α : Type} (xs : List α) (i : Int) : (ixP xs.length i).bind (xs[·]?) = atI xs i := by
  unfold atI
  rw [show ixP xs.length i = ixN xs.length i from rfl]
theorem rd_ix {x y : V} {dx dy : D} {Q : VK} (hx : CRep K r A H x dx) (hy : CRep K r A H y dy) (h : orP K r A H Q (oIx dx dy)) : rIx K x y H Q := by
  unfold oIx at h
  split at h
  · split at h
    next d hd =>
      obtain ⟨a, vs, rfl, h1, h2⟩ := hx.lst
      obtain ⟨j, hj, hd⟩ := Option.bind_eq_some_iff.mp hd
      obtain ⟨v, hv, rv⟩ := h2.get hd
      refine .inl ⟨a, vs, _, v, rfl, hy.int, h1, ?_, h.val rv⟩
      rw [← ixP_atI, h2.length, hj]; exact hv
    next => exact h.elim
  · split at h
    next d hd =>
      obtain ⟨a, vs, rfl, h1, h2⟩ := hx.tup
      obtain ⟨j, hj, hd⟩ := Option.bind_eq_some_iff.mp hd
      obtain ⟨v, hv, rv⟩ := h2.get hd
      refine .inr (.inl ⟨a, vs, _, v, rfl, hy.int, h1, ?_, h.val rv⟩)
      rw [← ixP_atI, h2.length, hj]; exact hv
    next => exact h.elim
  · split at h
    next hl =>
      split at h
      next c hc => exact .inr (.inr ⟨_, _, c, hx.str, hy.int, hl, by rw [← ixP_atI]; exact hc, h.val (.str _)⟩)
      next => exact h.elim
    next => exact h.elim
  · exact h.elim
theorem je_ix {T : CT} {W : WX} {a b : Expr} {E F : EF} {pos : Pos} (ha : PE X a (rdE X.K T W E)) (hb : PE X b (rdE X.K T W F)) (hs : PlainIx b := by exact fun _ _ => rfl) : PE X (.Subscript a b pos) (rdE X.K T W (eOp2 oIx E F)) :=
  pe_imp (pe_ix ix_seq ha hb hs) (rd_op2 fun _ _ _ _ _ _ _ _ h1 h2 h => rd_ix h1 h2 h)

/-! ### in -/
theorem flat_lay {d : D} (h : flatD d = true) : (∀ v, CRep K r A H v d → flatV v = true) := fun v hv => by
  cases d with
  | non => rw [hv.non]; rfl
  | bl b => rw [hv.bl]; rfl
  | int b => rw [hv.int]; rfl
  | str b => rw [hv.str]; rfl
  | _ => exact absurd h (by simp [flatD])
theorem eqV_flat {x y : V} {dx dy : D} (fx : flatD dx = true) (fy : flatD dy = true) (hx : CRep K r A H x dx) (hy : CRep K r A H y dy) : L2.eqV x y = eqD dx dy := by
  cases dx with
  | non => rw [hx.non]; cases dy with
    | non => rw [hy.non]; rfl
    | bl b => rw [hy.bl]; rfl
    | int b => rw [hy.int]; rfl
    | str b => rw [hy.str]; rfl
    | _ => exact absurd fy (by simp [flatD])
  | bl a => rw [hx.bl]; cases dy with
    | non => rw [hy.non]; rfl
    | bl b => rw [hy.bl]; first | rfl | simp [L2.eqV, eqD]
    | int b => rw [hy.int]; first | rfl | simp [L2.eqV, eqD]
    | str b => rw [hy.str]; rfl
    | _ => exact absurd fy (by simp [flatD])
  | int a => rw [hx.int]; cases dy with
    | non => rw [hy.non]; rfl
    | bl b => rw [hy.bl]; first | rfl | simp [L2.eqV, eqD]
    | int b => rw [hy.int]; first | rfl | simp [L2.eqV, eqD]
    | str b => rw [hy.str]; rfl
    | _ => exact absurd fy (by simp [flatD])
  | str a => rw [hx.str]; cases dy with
    | non => rw [hy.non]; rfl
    | bl b => rw [hy.bl]; rfl
    | int b => rw [hy.int]; rfl
    | str b => rw [hy.str]; first | rfl | simp [L2.eqV, eqD]
    | _ => exact absurd fy (by simp [flatD])
  | _ => exact absurd fx (by simp [flatD])
theorem inV_flat {x : V} {dx : D} (fx : flatD dx = true) (hx : CRep K r A H x dx) : ∀ {vs : List V} {ds : List D}, Reps K r A H vs ds → ds.all flatD = true → inV x vs = ds.any (fun y => eqD y dx) ∧ vs.all flatV = true
  | _, _, .nil, _ => ⟨rfl, rfl⟩
  | _, _, .cons h t, f => by
    rw [List.all_cons, Bool.and_eq_true] at f
    obtain ⟨i1, i2⟩ := inV_flat fx hx t f.2
    refine ⟨?_, by rw [List.all_cons, i2, flat_lay f.1 _ (.inl h)]; rfl⟩
    unfold inV at i1 ⊢
    rw [List.any_cons, List.any_cons, i1, eqV_flat f.1 fx (.inl h) hx]
theorem anyD {dx : D} {n m : Nat} (hx : lay n dx = true) : ∀ {ds : List D}, (∀ d ∈ ds, lay m d = true) → (toPs ds).any (fun z => PyData.eqv z (toP dx)) = ds.any fun y => eqD y dx
  | [], _ => rfl
  | d :: ds, h => by
    simp only [toPs, List.any_cons]
    rw [eqv_toP (h d List.mem_cons_self) hx, anyD hx fun e he => h e (List.mem_cons_of_mem _ he)]
theorem str_one {z : Str} {c : Nat} (h : z.cps.toList = [c]) : z = ⟨#[c]⟩ := by
  obtain ⟨z⟩ := z
  congr 1
  rw [← Array.toArray_toList (xs := z)]
  exact congrArg List.toArray h
theorem ok_in (hu : X.A.units + 65 < cLine) : OpOk X (compareOp .In) oIn := by
  refine ⟨_, op_in_sign.or (op_in_seq.or (op_inD hu)), ?_⟩
  intro rr A H x y dx dy Q hx hy h
  unfold oIn at h
  split at h
  next b hb =>
    unfold oInB at hb
    split at hb
    · split at hb
      next c hc =>
        injection hb with hb
        subst hb
        refine .inl ⟨c, _, ?_, hy.str, h.val (.bl _)⟩
        rw [hx.str, str_one hc]
      next => cases hb
    · split at hb
      next hf =>
        injection hb with hb
        subst hb
        rw [Bool.and_eq_true] at hf
        obtain ⟨a, vs, rfl, h1, h2⟩ := hy.tup
        obtain ⟨i1, i2⟩ := inV_flat hf.1 hx h2 hf.2
        exact .inr (.inl ⟨a, vs, rfl, .inr h1, flat_lay hf.1 _ hx, i2, by rw [if_neg Bool.false_ne_true, i1]; exact h.val (.bl _)⟩)
      next => cases hb
    · split at hb
      next hf =>
        injection hb with hb
        subst hb
        rw [Bool.and_eq_true] at hf
        refine .inr (.inr ⟨_, _, hx.dp hf.1, by simpa [toP] using hy.dp hf.2, shaped_of hf.1, by simpa [toP] using shaped_of hf.2, ?_⟩)
        rw [anyD (m := 63) hf.1 (by simpa [lay] using hf.2)]
        exact h.val (.bl _)
      next => cases hb
    · cases hb
  next => exact h.elim
theorem ok_notIn (hu : X.A.units + 65 < cLine) : OpOk X (compareOp .NotIn) oNotIn := by
  refine ⟨_, op_notIn_sign.or (op_notIn_seq.or (op_notInD hu)), ?_⟩
  intro rr A H x y dx dy Q hx hy h
  unfold oNotIn at h
  split at h
  next b hb =>
    unfold oInB at hb
    split at hb
    · split at hb
      next c hc =>
        injection hb with hb
        subst hb
        refine .inl ⟨c, _, ?_, hy.str, h.val (.bl _)⟩
        rw [hx.str, str_one hc]
      next => cases hb
    · split at hb
      next hf =>
        injection hb with hb
        subst hb
        rw [Bool.and_eq_true] at hf
        obtain ⟨a, vs, rfl, h1, h2⟩ := hy.tup
        obtain ⟨i1, i2⟩ := inV_flat hf.1 hx h2 hf.2
        exact .inr (.inl ⟨a, vs, rfl, .inr h1, flat_lay hf.1 _ hx, i2, by rw [if_pos rfl, i1]; exact h.val (.bl _)⟩)
      next => cases hb
    · split at hb
      next hf =>
        injection hb with hb
        subst hb
        rw [Bool.and_eq_true] at hf
        refine .inr (.inr ⟨_, _, hx.dp hf.1, by simpa [toP] using hy.dp hf.2, shaped_of hf.1, by simpa [toP] using shaped_of hf.2, ?_⟩)
        rw [anyD (m := 63) hf.1 (by simpa [lay] using hf.2)]
        exact h.val (.bl _)
      next => cases hb
    · cases hb
  next => exact h.elim

/-! ### built-ins -/
theorem one_of {xs : List V} {d : D} (h : Paired (CRep K r A H) xs [d]) : ∃ x, xs = [x] ∧ CRep K r A H x d := by
  cases h with
  | cons h t => cases t; exact ⟨_, rfl, h⟩
theorem two_of {xs : List V} {d e : D} (h : Paired (CRep K r A H) xs [d, e]) : ∃ x y, xs = [x, y] ∧ CRep K r A H x d ∧ CRep K r A H y e := by
  cases h with
  | cons h t =>
    cases t with
    | cons h' t => cases t; exact ⟨_, _, rfl, h, h'⟩
theorem ok_len : CallOk X (.builtin "len") oLen := by
  refine ⟨_, call_len, ?_⟩
  intro rr A H xs ds Q hx h
  unfold oLen at h
  split at h
  · obtain ⟨x, rfl, hx1⟩ := one_of hx
    obtain ⟨a, vs, rfl, h1, h2⟩ := hx1.lst
    exact ⟨_, _, rfl, .inl ⟨vs, h1, rfl⟩, by rw [h2.length]; exact h.val (.int _)⟩
  · obtain ⟨x, rfl, hx1⟩ := one_of hx
    obtain ⟨a, vs, rfl, h1, h2⟩ := hx1.tup
    exact ⟨_, _, rfl, .inr ⟨vs, h1, rfl⟩, by rw [h2.length]; exact h.val (.int _)⟩
  · split at h
    next hl =>
      obtain ⟨x, rfl, hx1⟩ := one_of hx
      rw [hx1.str]
      exact ⟨_, _, rfl, ⟨hl, rfl⟩, h.val (.int _)⟩
    next => exact h.elim
  · exact h.elim
theorem ok_int : CallOk X (.type "int") oInt := by
  refine ⟨_, call_int1, ?_⟩
  intro rr A H xs ds Q hx h
  unfold oInt at h
  split at h
  · obtain ⟨x, rfl, hx1⟩ := one_of hx
    exact .inl ⟨_, by rw [hx1.int], h.val (.int _)⟩
  · obtain ⟨x, rfl, hx1⟩ := one_of hx
    exact .inr ⟨_, by rw [hx1.bl], h.val (.int _)⟩
  · exact h.elim
theorem ok_abs : CallOk X (.builtin "abs") oAbs := by
  refine ⟨_, call_abs, ?_⟩
  intro rr A H xs ds Q hx h
  unfold oAbs at h
  split at h
  · obtain ⟨x, rfl, hx1⟩ := one_of hx
    exact ⟨_, by rw [hx1.int], h.val (.int _)⟩
  · exact h.elim
theorem ok_max (hc : X.calm = true) : CallOk X (.builtin "max") oMax := by
  refine ⟨_, call_max2 hc, ?_⟩
  intro rr A H xs ds Q hx h
  unfold oMax at h
  split at h
  · obtain ⟨x, y, rfl, hx1, hy⟩ := two_of hx
    exact ⟨_, _, by rw [hx1.int, hy.int], h.val (.int _)⟩
  · exact h.elim
theorem ok_min (hc : X.calm = true) : CallOk X (.builtin "min") oMin := by
  refine ⟨_, call_min2 hc, ?_⟩
  intro rr A H xs ds Q hx h
  unfold oMin at h
  split at h
  · obtain ⟨x, y, rfl, hx1, hy⟩ := two_of hx
    exact ⟨_, _, by rw [hx1.int, hy.int], h.val (.int _)⟩
  · exact h.elim
theorem ok_str : CallOk X (.type "str") oStr := by
  refine ⟨_, call_str_int, ?_⟩
  intro rr A H xs ds Q hx h
  unfold oStr at h
  split at h
  · split at h
    next hl =>
      obtain ⟨x, rfl, hx1⟩ := one_of hx
      exact ⟨_, by rw [hx1.int], hl, h.val (.str _)⟩
    next => exact h.elim
  · exact h.elim
theorem ok_ord : CallOk X (.builtin "ord") oOrd := by
  refine ⟨_, call_ord, ?_⟩
  intro rr A H xs ds Q hx h
  unfold oOrd at h
  split at h
  · split at h
    next hl =>
      obtain ⟨x, rfl, hx1⟩ := one_of hx
      exact ⟨_, by rw [hx1.str], hl, h.val (.int _)⟩
    next => exact h.elim
  · exact h.elim
theorem ok_list : CallOk X (.type "list") oList := by
  refine ⟨_, call_list_of, ?_⟩
  intro rr A H xs ds Q hx h
  unfold oList at h
  split at h
  · obtain ⟨x, rfl, hx1⟩ := one_of hx
    obtain ⟨a, vs, rfl, h1, h2⟩ := hx1.lst
    exact ⟨_, _, rfl, .inl h1, fun p hp => h.nl h2 p hp⟩
  · obtain ⟨x, rfl, hx1⟩ := one_of hx
    obtain ⟨a, vs, rfl, h1, h2⟩ := hx1.tup
    exact ⟨_, _, rfl, .inr h1, fun p hp => h.nl h2 p hp⟩
  · exact h.elim
theorem ok_tuple : CallOk X (.type "tuple") oTuple := by
  refine ⟨_, call_tuple_of, ?_⟩
  intro rr A H xs ds Q hx h
  unfold oTuple at h
  split at h
  · obtain ⟨x, rfl, hx1⟩ := one_of hx
    obtain ⟨a, vs, rfl, h1, h2⟩ := hx1.lst
    exact ⟨_, _, rfl, .inl ⟨h1, fun p hp => h.ntup h2 p hp⟩⟩
  · obtain ⟨x, rfl, hx1⟩ := one_of hx
    obtain ⟨a, vs, rfl, h1, h2⟩ := hx1.tup
    exact ⟨_, _, rfl, .inr ⟨h1, h.val (.tup h1 h2)⟩⟩
  · exact h.elim
end
end Pz

/-! isinstance of a caught error, within the suite of a named clause. -/
namespace Pz
open PySem L2
section
variable {K : PySem.W.Frag} {X : Cx} {T : CT} {W : WX} {A B : EF} {pos p p1 p2 : Pos}
theorem rdE_mono {s : L2.St} {H : Hp} {Q Q' : VK} (h : rdE K T W A s H Q) (i : ∀ v H', Q v H' → Q' v H') : rdE K T W A s H Q' := by
  obtain ⟨Z, l, e, st, w, q⟩ := h
  refine ⟨Z, l, e, st, w, ?_⟩
  cases hA : A e st with
  | ok x s1 => rw [hA] at q; exact fun v l' H' y r => i _ _ (q v l' H' y r)
  | ex c s1 => rw [hA] at q; exact q
  | bad => rw [hA] at q; exact q
/-- a reading at slots where P holds -/
def rdP (K : PySem.W.Frag) (T : CT) (W : WX) (P : L2.St → Prop) (E : EF) : TE := fun s H Q => P s ∧ rdE K T W E s H Q
variable {P : L2.St → Prop}
theorem jp_up {x : Expr} (h : PE X x (rdE X.K T W A)) : PE X x (rdP X.K T W P A) := pe_imp h fun _ _ _ q => q.2
theorem rd_const1 {K : PySem.W.Frag} {v : V} {d : D} (hr : ∀ r A H, Rep K r A H v d) {s : L2.St} {H : Hp} {Q : VK} (h : rdE K T W (eC d) s H Q) : Q v H := rd_const hr s H Q h
/-- isinstance(e, C) -/
theorem jp_isi {X : Cx} {a D : Addr} {oe : Obj} {pn : List (Addr × Obj)} {i : Nat} {n x : Str} {b : Bool} {p0 : Addr} (C : ExcC X.K D) (hz : Zc (.ref D) none oe) (hf : ∃ vs, oe.data = .fields vs) (hN : X.N[i]? = some n) (gC : X.mg x = some (.ref p0)) (hb : PySem.W.kitOne X.K (.ref D) (.ref p0) = some b)
    (hm : X.mg "isinstance" = none) (hv : Vis X.env.scope n := by first | exact Or.inl rfl | exact Or.inr (Or.inl rfl) | exact Or.inr (Or.inr rfl)) (hd : (n == ("__debug__" : Str)) = false := by decide) (hg : Gl X x := by rfl) (hcd : (n == ("__classdict__" : Str)) = false := by decide) (hdx : (x == ("__debug__" : Str)) = false := by decide) (hgi : Gl X "isinstance" := by rfl) :
    PE (X.suite a ((a, oe) :: pn)) (.Call (.Name "isinstance" p) [.Name n p1, .Name x p2] [] pos) (rdP X.K T W (fun s => s[i]? = some (some (.ref a))) (eC (.bl b))) := by
  have h1 : PE (X.suite a ((a, oe) :: pn)) (.Name n p1) (tVar i) := pe_var hN hv hd hcd
  have h2 : PE (X.suite a ((a, oe) :: pn)) (.Name x p2) (tC (.ref p0)) := pe_glob (v := .ref p0) hg gC rfl hdx
  refine pe_imp (pe_callB (call_isE C hz hf) hgi hm rfl (pa_cons h1 (pa_cons h2 pa_nil))) ?_
  rintro s H Q ⟨hp, q⟩
  have q := rd_const1 (v := .bl b) (fun _ _ _ => .bl b) q
  exact ⟨.ref a, hp, .ref p0, .ref p0, b, rfl, fun u hu => by cases hu; rfl, hb, q⟩

variable {x y : Expr} {es : List Expr}
theorem rdP_mono {s : L2.St} {H : Hp} {Q Q' : VK} (hp : P s) (h : rdE K T W A s H Q) (i : ∀ v H', Q v H' → Q' v H') : rdP K T W P A s H Q' := ⟨hp, rdE_mono h i⟩
theorem jp_not (ha : PE X x (rdP X.K T W P A)) : PE X (.UnaryOp .Not x pos) (rdP X.K T W P (eNot A)) := pe_imp (pe_not ha) fun s H Q ⟨hp, q⟩ => ⟨hp, rd_not s H Q q⟩
theorem jp_one {op : BoolOp} (h : PE X x (rdP X.K T W P A)) : PE X (.BoolOp op [x] pos) (rdP X.K T W P A) := pe_one h
theorem jp_and (ha : PE X x (rdP X.K T W P A)) (hb : PE X (.BoolOp .And (y :: es) pos) (rdP X.K T W P B)) : PE X (.BoolOp .And (x :: y :: es) pos) (rdP X.K T W P (eAnd A B)) := pe_imp (pe_and ha hb) fun s H Q ⟨hp, q⟩ => by
  refine rdP_mono hp (rd_and s H Q q) ?_
  rintro v H' ⟨k, e, z⟩
  refine ⟨k, e, ?_⟩
  cases k with
  | true => exact ⟨hp, z⟩
  | false => exact z
/-- int(b), C(e) of a built-in type -/
theorem jp_callTy {id : String} {n : Str} {o : List D → OR} (hc : CallOk X (.type id) o) (hm : X.mg n = none) (hv : bootBuiltins n = some (.type id)) (ha : PE X x (rdP X.K T W P A)) (hg : Gl X n := by rfl) (hn : n ≠ "__name__" := by decide)
    (hdb : (n == ("__debug__" : Str)) = false := by decide) (he : starEach [x] X.env = (false, eval x X.env) :: starEach [] X.env := by rfl) :
    PE X (.Call (.Name n p) [x] [] pos) (rdP X.K T W P (eOpN o (bOne A))) := by
  obtain ⟨r, h1, h2⟩ := hc
  refine pe_imp (pe_callTy h1 hg hm hv (pa_cons ha pa_nil he) hn hdb he rfl) ?_
  rintro s H Q ⟨hp, q⟩
  exact ⟨hp, rd_bOne s H _ (rd_opN h2 s H Q q)⟩
theorem jp_ix {a b : Expr} (ha : PE X a (rdP X.K T W P A)) (hb : PE X b (rdP X.K T W P B)) (hs : PlainIx b := by exact fun _ _ => rfl) : PE X (.Subscript a b pos) (rdP X.K T W P (eOp2 oIx A B)) :=
  pe_imp (pe_ix ix_seq ha hb hs) fun s H Q ⟨hp, q⟩ => rdP_mono hp (rd_op2 (r := rIx X.K) (fun _ _ _ _ _ _ _ _ h1 h2 h => rd_ix h1 h2 h) s H Q q) fun v H' z => ⟨hp, z⟩
/-- the suite: return e -/
theorem jp_ret (h : PE X x (rdP X.K T W P A)) : PSs X [.Return (some x) pos] (fun D s H => P s ∧ rdS X.K T W (sRet A) D s H) := pss_one (ps_imp (ps_ret h) fun D s H ⟨hp, q⟩ => ⟨hp, rd_ret D s H q⟩)
/-- a suite that leaves the error alone -/
theorem jp_suite {ss : List Stmt} {S : SF} (h : PSs X ss (rdS X.K T W S)) : PSs X ss (fun D s H => P s ∧ rdS X.K T W S D s H) := pss_imp h fun D s H q => q.2
end
end Pz

/-! The facts that the head gives, and what is made of them: defs, methods, classes. -/
namespace Pz
open PySem L2

inductive Fx where
  | he (q : He.Fa)
  | tup (x : Str) (vs : List He.Dv)
  | isi (x y : Str) (b : Bool)
  | excC (x : Str)
def Fx.ok (K : PySem.W.Frag) : Fx → Bool
  | .he q => He.Fa.ok K q
  | .tup x vs => He.tupB K x vs
  | .isi x y b => decide (PySem.W.kitOne K (.ref (He.ga K x)) (.ref (He.ga K y)) = some b)
  | .excC x => decide (PySem.W.findIn K (.ref (He.ga K x)) "__getattribute__" = some (some (.builtin "BaseException.__getattribute__"))) && (decide (PySem.W.findIn K (.ref (He.ga K x)) "__getattr__" = some none)
      && (decide (PySem.W.subIn K (.ref (He.ga K x)) (.type "BaseException") = some true) && (PySem.W.hasDictIn K (He.ga K x) && (decide (PySem.W.findIn K (.ref (He.ga K x)) "__class__" = some (some (.builtin "object.__class__")))
      && (decide (PySem.W.specialIn K (.builtin "object.__class__") "__get__" = some (some (.builtin "getset_descriptor.__get__"))) && (decide (PySem.W.takesIn K (.builtin "object.__class__") = some true) && decide (PySem.W.mroIn K (He.ga K x) (.type "object") = some true)))))))
abbrev AlX : Type := Bool × List He.FnW
def allOk (fa : List Fx) (fn : List He.DefD) (K : PySem.W.Frag) : Bool := fa.all (Fx.ok K) && fn.all fun d => d.ok K
def obsX (fa : List Fx) (fn : List He.DefD) (K : PySem.W.Frag) : AlX := (allOk fa fn K, fn.map fun d => He.fnW K d.at_)
/-- what the head says of the part K of the heap -/
def SaysX (fa : List Fx) (fn : List He.DefD) (K : PySem.W.Frag) : Prop := obsX fa fn K = (true, fn.map He.DefD.val)
def obsXG (n : Nat) (fa : List Fx) (fn : List He.DefD) (g : Addr → Option Obj) : AlX := obsX fa fn (He.frG g (He.asD g n))
def hookX (n : Nat) (fa : List Fx) (fn : List He.DefD) : PySem.W.Hook where
  α := AlX
  obs s := obsXG n fa fn s.heap.get?
  val _ := (true, fn.map He.DefD.val)
  says _ h := ∃ K : PySem.W.Frag, K.In h ∧ SaysX fa fn K
  of _ _ e := ⟨_, He.frG_in, e⟩
  keeps _ _ _ c k := c.elim fun K c => ⟨K, PySem.W.Frag.In.keeps c.1 k, c.2⟩
theorem obsXG_eq {n : Nat} {fa : List Fx} {fn : List He.DefD} {g : Addr → Option Obj} {s : Shared} (h : ∀ a, g a = s.heap.get? a) : obsXG n fa fn g = (hookX n fa fn).obs s := by
  obtain rfl : g = s.heap.get? := funext h
  rfl
theorem both {a b : Bool} (h : (a && b) = true) : a = true ∧ b = true := Bool.and_eq_true_iff.mp h
section
variable {fa : List Fx} {fn : List He.DefD} {K : PySem.W.Frag}
theorem SaysX.fact (c : SaysX fa fn K) (i : Nat) {f : Fx} (h : fa[i]? = some f := by rfl) : f.ok K = true :=
  List.all_eq_true.mp (both (show (fa.all (Fx.ok K) && fn.all fun d => d.ok K) = true from congrArg Prod.fst c)).1 f (List.mem_of_getElem? h)
theorem SaysX.def_ (c : SaysX fa fn K) (i : Nat) {d : He.DefD} (h : fn[i]? = some d := by rfl) : ∃ fd, FunD K d.name d.qual d.params d.body d.scope (d.dvs K) (d.kws K) (He.fAd K d.at_) fd := by
  have c2 := (both (show (fa.all (Fx.ok K) && fn.all fun d => d.ok K) = true from congrArg Prod.fst c)).2
  have e := congrArg (fun z : AlX => z.2[i]?) c
  have e2 : (fn.map fun d => He.fnW K d.at_)[i]? = (fn.map He.DefD.val)[i]? := e
  rw [List.getElem?_map, List.getElem?_map, h] at e2
  exact He.DefD.funD (Option.some.inj e2) (List.all_eq_true.mp c2 d (List.mem_of_getElem? h))
end
/-- the facts with the module's names -/
structure Tx (fa : List Fx) (fn : List He.DefD) (K : PySem.W.Frag) (mg : Str → Option Value) : Prop where
  ns : ∃ h : Heap, K.In h ∧ h.Ns mainGlobals mg
  c : SaysX fa fn K
section
variable {fa : List Fx} {fn : List He.DefD} {K : PySem.W.Frag} {mg : Str → Option Value}
theorem Tx.glo (t : Tx fa fn K mg) (i : Nat) {x : Str} (h : fa[i]? = some (.he (.glo x)) := by rfl) : mg x = some (.ref (He.ga K x)) := t.ns.elim fun _ z => He.glo_ok z.1 z.2 (t.c.fact i h)
theorem Tx.free (t : Tx fa fn K mg) (i : Nat) {x : Str} (h : fa[i]? = some (.he (.free x)) := by rfl) : mg x = none := t.ns.elim fun _ z => He.free_ok z.1 z.2 (t.c.fact i h)
theorem Tx.int (t : Tx fa fn K mg) (i : Nat) {x : Str} {j : Int} (h : fa[i]? = some (.he (.int x j)) := by rfl) : ∃ u, mg x = some (.int j u) := t.ns.elim fun _ z => He.int_ok z.1 z.2 (t.c.fact i h)
theorem Tx.str (t : Tx fa fn K mg) (i : Nat) {x y : Str} (h : fa[i]? = some (.he (.str x y)) := by rfl) : ∃ u, mg x = some (.str y u) := t.ns.elim fun _ z => He.str_ok z.1 z.2 (t.c.fact i h)
theorem Tx.cls (t : Tx fa fn K mg) (i : Nat) {x : Str} (h : fa[i]? = some (.he (.cls x)) := by rfl) : Cls K (He.ga K x) := He.cls_ok (t.c.fact i h)
theorem Tx.noat (t : Tx fa fn K mg) (i : Nat) {x f : Str} (h : fa[i]? = some (.he (.noat x f)) := by rfl) : NoAttr K (He.ga K x) f := He.noat_ok (t.c.fact i h)
theorem Tx.meth (t : Tx fa fn K mg) (i : Nat) {x m : Str} (h : fa[i]? = some (.he (.meth x m)) := by rfl) : Meth K (He.ga K x) m (He.ma K (He.ga K x) m) := He.meth_ok (t.c.fact i h)
theorem Tx.mkr (t : Tx fa fn K mg) (i : Nat) {x : Str} (h : fa[i]? = some (.he (.mkr x)) := by rfl) : Mk K (He.ga K x) (He.ma K (He.ga K x) "__init__") := He.mkr_ok (t.c.fact i h)
theorem Tx.exc (t : Tx fa fn K mg) (i : Nat) {x : Str} (h : fa[i]? = some (.he (.exc x)) := by rfl) : PySem.W.excIn K (He.ga K x) He.veBase "ValueError.__new__" = true ∧ PySem.W.keepIn K (.ref (He.ga K x)) = true ∧
    PySem.W.subIn K (.ref (He.ga K x)) (.type "BaseException") = some true ∧ PySem.W.typeIn K (.ref (He.ga K x)) = some (.type "type") := He.exc_ok (t.c.fact i h)
theorem Tx.exm (t : Tx fa fn K mg) (i : Nat) {x y : Str} {b : Bool} (h : fa[i]? = some (.he (.exm x y b)) := by rfl) : PySem.W.exmOne K (.ref (He.ga K x)) (.ref (He.ga K y)) = some b := He.exm_ok (t.c.fact i h)
theorem Tx.isi (t : Tx fa fn K mg) (i : Nat) {x y : Str} {b : Bool} (h : fa[i]? = some (.isi x y b) := by rfl) : PySem.W.kitOne K (.ref (He.ga K x)) (.ref (He.ga K y)) = some b := of_decide_eq_true (t.c.fact i h)
theorem Tx.excC (t : Tx fa fn K mg) (i : Nat) {x : Str} (h : fa[i]? = some (.excC x) := by rfl) : ExcC K (He.ga K x) := by
  obtain ⟨h1, c⟩ := both (t.c.fact i h)
  obtain ⟨h2, c⟩ := both c
  obtain ⟨h3, c⟩ := both c
  obtain ⟨h4, c⟩ := both c
  obtain ⟨h5, c⟩ := both c
  obtain ⟨h6, c⟩ := both c
  obtain ⟨h7, h8⟩ := both c
  exact ⟨of_decide_eq_true h1, of_decide_eq_true h2, of_decide_eq_true h3, h4, of_decide_eq_true h5, of_decide_eq_true h6, of_decide_eq_true h7, of_decide_eq_true h8⟩
theorem Tx.tup (t : Tx fa fn K mg) (i : Nat) {x : Str} {vs : List He.Dv} (h : fa[i]? = some (.tup x vs) := by rfl) (H : Hp) : SqT K H (He.ga K x) (vs.map (He.Dv.v K)) := He.tupB_ok (t.c.fact i h) H
end

/-! ### defs -/
section
variable {P : Program} {w : World} {K : PySem.W.Frag} {mg : Str → Option Value} {base : Heap} {T : CT}
/-- a def with its promise -/
structure Cal (P : Program) (w : World) (K : PySem.W.Frag) (mg : Str → Option Value) (T : CT) (k : Nat) (f : Addr) (ps : List Str) (F : Fn) : Prop where
  ex : ∃ fd, (∀ base : Heap, FnOk P w K mg base (L2N.CX P w) k f fd ps (spF K T F)) ∧ Binds K fd ps [] ∧ ∀ (s : Shared) (us : List Value), us.length = ps.length → BindsTo s fd ⟨us, []⟩ (ps.zip us)
  kp : PySem.W.keepIn K (.ref f) = true
theorem jf_okD {x qual : Str} {params : Arguments} {body : List Stmt} {scope : Scope} {f : Addr} {fd : FuncData} {N ps : List Str} {k : Nat} {B : SF} {dvs : List V} {kws : List (Str × V)} (F : FunD K x qual params body scope dvs kws f fd) (S : FnScope N ps scope) (n m : Nat) (hn : ps.length = n) (hm : N.length = m)
    (hbody : ∀ (cdv : Value) (A : Around) (outer : List PySem.Env) (s : Shared) (H : Hp) (E : XK), Room k (cxOf (L2N.CX P w) P w K mg base N qual scope f cdv A outer s H E).A →
      PSs (cxOf (L2N.CX P w) P w K mg base N qual scope f cdv A outer s H E) body (rdS K T (fun cls d _ H' => E cls d H') B)) :
    FnOk P w K mg base (L2N.CX P w) (k + 1) f fd ps (spF K T (fnOf n m B)) := by
  refine F.ok S (fun vs H Q E h => by rw [spF_len ar_fnOf h, hn]) fun cdv A outer s H vs Q E hr hsp => ?_
  exact ⟨_, hbody cdv A outer s H E hr, spF_start hn hm hsp⟩
end
/-! ### rules over the facts -/
section
variable {X : Cx} {T : CT} {W : WX} {pos p p2 pos' apos : Pos} {A B : EF} {es : List Expr} {As : AF} {y : Expr} {F : Fn} {k : Nat} {f : Addr} {ps : List Str}
theorem takes0 : L2N.Takes X W0 := fun u s' ⟨_, _, _, _, _, _, _, _, _, _, _, _, _, _, _, _, w⟩ => w.elim
theorem units65 (r : Room k X.A) : X.A.units + 65 < cLine := by have := r.un; omega
theorem j_gI {n : Str} {i : Int} (hm : ∃ u, X.mg n = some (.int i u)) (hg : Gl X n := by rfl) (hd : (n == ("__debug__" : Str)) = false := by decide) : PE X (.Name n pos) (rdE X.K T W (eC (.int i))) := hm.elim fun u z => je_gI z hg hd
theorem j_gS {n x : Str} (hm : ∃ u, X.mg n = some (.str x u)) (hg : Gl X n := by rfl) (hd : (n == ("__debug__" : Str)) = false := by decide) : PE X (.Name n pos) (rdE X.K T W (eC (.str x))) := hm.elim fun u z => je_gS z hg hd
theorem j_call {n : Str} (C : Cal X.prog X.w X.K X.mg T k f ps F) (hr : Room k X.A) (hm : X.mg n = some (.ref f)) (tk : L2N.Takes X W) (ha : PA X (y :: es) (rdA X.K T W As)) (hg : Gl X n := by rfl) (hdb : (n == ("__debug__" : Str)) = false := by decide)
    (he : starEach (y :: es) X.env = (false, eval y X.env) :: starEach es X.env := by rfl) (hpl : (backTo pos (starEach es X.env)).any (·.1) = false := by rfl) :
    PE X (.Call (.Name n p) (y :: es) [] pos) (rdE X.K T W (eCall F As)) := C.ex.elim fun _ z => je_call (z.1 _) hr hm C.kp z.2.1 tk ha hg hdb he hpl
theorem j_call0 {n : Str} (C : Cal X.prog X.w X.K X.mg T k f ps F) (hr : Room k X.A) (hm : X.mg n = some (.ref f)) (tk : L2N.Takes X W) (hg : Gl X n := by rfl) (hdb : (n == ("__debug__" : Str)) = false := by decide) :
    PE X (.Call (.Name n p) [] [] pos) (rdE X.K T W (eCall F aNil)) := C.ex.elim fun _ z => je_call0 (z.1 _) hr hm C.kp z.2.1 tk hg hdb
/-- a class of the program's own -/
structure ClA (K : PySem.W.Frag) (T : CT) (cn : Nat) : Prop where
  cl : Cls K (T.ad cn)
  na : ∀ n ∈ T.names cn, NoAttr K (T.ad cn) n
  nd : (T.names cn).Nodup
theorem ClA.ok {K : PySem.W.Frag} {cn : Nat} (c : ClA K T cn) : ClsOk K T cn := ⟨c.cl, c.na, c.nd⟩
theorem j_meth {cn : Nat} {o : Expr} {m : Str} {pl : Sem Bool} (C : Cal X.prog X.w X.K X.mg T k f ps F) (c : ClA X.K T cn) (me : Meth X.K (T.ad cn) m f) (hr : Room k X.A) (tk : L2N.Takes X W) (ho : PE X o (rdE X.K T W A)) (ha : PA X (y :: es) (rdA X.K T W As))
    (no : m ∉ T.names cn := by decide) (h0 : cn ≠ 0 := by decide) (hst : starEach (y :: es) X.env = (false, eval y X.env) :: starEach es X.env := by rfl) (hpl : (backTo pos (starEach es X.env)).any (·.1) = false := by rfl)
    (ht : eval (.Call (.Attribute o m apos) (y :: es) [] pos) X.env = (do
      let ov ← eval o X.env
      standAt apos.atName
      let (f, first) ← holding [ov] (getMethod ov m pl)
      callWith pos f first (backTo pos (starEach (y :: es) X.env)) (backToKw pos (keywordEach [] X.env))) := by rfl) :
    PE X (.Call (.Attribute o m apos) (y :: es) [] pos) (rdE X.K T W (eMeth cn F A As)) := C.ex.elim fun _ z => je_meth ⟨c.cl, me, no, z.1 _, z.2.1⟩ hr tk ho ha h0 hst hpl ht
theorem j_meth0 {cn : Nat} {o : Expr} {m : Str} {pl : Sem Bool} (C : Cal X.prog X.w X.K X.mg T k f ps F) (c : ClA X.K T cn) (me : Meth X.K (T.ad cn) m f) (hr : Room k X.A) (tk : L2N.Takes X W) (ho : PE X o (rdE X.K T W A))
    (no : m ∉ T.names cn := by decide) (h0 : cn ≠ 0 := by decide)
    (ht : eval (.Call (.Attribute o m apos) [] [] pos) X.env = (do
      let ov ← eval o X.env
      standAt apos.atName
      let (f, first) ← holding [ov] (getMethod ov m pl)
      callWith pos f first (backTo pos (starEach [] X.env)) (backToKw pos (keywordEach [] X.env))) := by rfl) :
    PE X (.Call (.Attribute o m apos) [] [] pos) (rdE X.K T W (eMeth cn F A aNil)) := C.ex.elim fun _ z => je_meth0 ⟨c.cl, me, no, z.1 _, z.2.1⟩ hr tk ho h0 ht
theorem j_make {n : Str} {cn : Nat} (C : Cal X.prog X.w X.K X.mg T k f ps F) (mk : Mk X.K (T.ad cn) f) (hr : Room (k + 1) X.A) (hm : X.mg n = some (.ref (T.ad cn))) (tk : L2N.Takes X W) (ha : PA X (y :: es) (rdA X.K T W As)) (h0 : cn ≠ 0 := by decide) (hg : Gl X n := by rfl)
    (hdb : (n == ("__debug__" : Str)) = false := by decide) (he : starEach (y :: es) X.env = (false, eval y X.env) :: starEach es X.env := by rfl) (hpl : (backTo pos (starEach es X.env)).any (·.1) = false := by rfl) :
    PE X (.Call (.Name n p) (y :: es) [] pos) (rdE X.K T W (eMake cn F As)) := C.ex.elim fun _ z => je_make ⟨mk, z.1 _, z.2.1⟩ hr hm tk ha h0 hg hdb he hpl
theorem j_make0 {n : Str} {cn : Nat} (C : Cal X.prog X.w X.K X.mg T k f ps F) (mk : Mk X.K (T.ad cn) f) (hr : Room (k + 1) X.A) (hm : X.mg n = some (.ref (T.ad cn))) (tk : L2N.Takes X W) (h0 : cn ≠ 0 := by decide) (hg : Gl X n := by rfl)
    (hdb : (n == ("__debug__" : Str)) = false := by decide) :
    PE X (.Call (.Name n p) [] [] pos) (rdE X.K T W (eMake cn F aNil)) := C.ex.elim fun _ z => je_make0 ⟨mk, z.1 _, z.2.1⟩ hr hm tk h0 hg hdb
/-- raise C('..') -/
theorem j_raise {x m : Str} {j : Nat} (c : Nat) (tk : L2N.Takes X W) (hC : PySem.W.excIn X.K (He.ga X.K x) He.veBase "ValueError.__new__" = true ∧ PySem.W.keepIn X.K (.ref (He.ga X.K x)) = true ∧
      PySem.W.subIn X.K (.ref (He.ga X.K x)) (.type "BaseException") = some true ∧ PySem.W.typeIn X.K (.ref (He.ga X.K x)) = some (.type "type")) (gC : X.mg x = some (.ref (He.ga X.K x))) (he : T.err c = .ref (He.ga X.K x)) (hc : X.calm = true := by rfl) (hg : Gl X x := by rfl)
    (hdb : (x == ("__debug__" : Str)) = false := by decide) : PS X (.Raise (some (.Call (.Name x p) [.Constant (.str m) j p2] [] pos')) none pos) (rdS X.K T W (sRaise c)) :=
  js_raise c hc tk PySem.F.excBase_ValueError hC.1 gC hC.2.1 (raises_own hC.2.2.1 hC.2.2.2) he hg hdb
theorem names_glo {x : Str} {a : Addr} (h : X.mg x = some (.ref a)) (hg : Gl X x := by rfl) (hd : (x == ("__debug__" : Str)) = false := by decide) : Names X x (.ref a) := ⟨hg, hd, .inl h⟩
/-- o.f op= e -/
theorem j_fldAug {cn f : Nat} {n : Str} {op : Operator} {g : D → D → OR} {tpos : Pos} {o : Expr} (hcls : ClsOk X.K T cn) (ho : IpOk X op g) (ha : PE X o (rdE X.K T W A)) (hv : PE X y (rdE X.K T W B)) (hz : (T.names cn).length < 1000) (hf : (T.names cn)[f]? = some n := by rfl) (h0 : cn ≠ 0 := by decide) :
    PS X (.AugAssign (.Attribute o n tpos) op y pos) (rdS X.K T W (Pz.sFldAug cn A f g B)) := by
  obtain ⟨r, h1, h2⟩ := ho
  exact js_fldAug hcls h1 (fun x y vx vy rr A H Q hx hy h => h2 rr A H vx vy x y Q hx hy h) ha hv hf h0 hz
theorem ip_add : IpOk X .Add oAddI := by
  refine ⟨_, iop_add.or iop_add_str, ?_⟩
  intro rr A H x y dx dy Q hx hy h
  unfold oAddI at h
  split at h
  · exact .inl ⟨_, _, hx.int, hy.int, h.val (.int _)⟩
  · split at h
    next hl => exact .inr ⟨_, _, hx.str, hy.str, hl, h.val (.str _)⟩
    next => exact h.elim
  · exact h.elim
theorem ip_sub : IpOk X .Sub oSub := by
  refine ⟨_, iop_sub, ?_⟩
  intro rr A H x y dx dy Q hx hy h
  unfold oSub at h
  split at h
  · exact ⟨_, _, hx.int, hy.int, h.val (.int _)⟩
  · exact h.elim
theorem ip_fdiv : IpOk X .FloorDiv oFDiv := by
  refine ⟨_, iop_fdivW, ?_⟩
  intro rr A H x y dx dy Q hx hy h
  unfold oFDiv at h
  split at h
  · split at h
    next hl => exact ⟨_, _, hx.int, hy.int, hl, h.val (.int _)⟩
    next => exact h.elim
  · exact h.elim
end
section
variable {fa : List Fx} {fn : List He.DefD} {P : Program} {w : World} {K : PySem.W.Frag} {mg : Str → Option Value} {base : Heap} {T : CT}
/-- a def of the head's: its derivation gives its promise -/
theorem cal_of (c : SaysX fa fn K) (i : Nat) {d : He.DefD} {N ps : List Str} {k : Nat} {B : SF} (S : FnScope N ps d.scope) (n m : Nat) (hn : ps.length = n) (hm : N.length = m)
    (hb : ∀ (kV doc pm : Value) (an : Option Addr) (cdv ct : Value) (us : List Value), us.length = ps.length → bindArgs (PySem.W.fnOf d.name d.qual d.params d.body d.scope .none kV doc pm an cdv ct) ⟨us, []⟩ = pure (ps.zip us))
    (hbody : ∀ (base : Heap) (cdv : Value) (A : Around) (outer : List PySem.Env) (s : Shared) (H : Hp) (E : XK), Room k (cxOf (L2N.CX P w) P w K mg base N d.qual d.scope (He.fAd K d.at_) cdv A outer s H E).A →
      PSs (cxOf (L2N.CX P w) P w K mg base N d.qual d.scope (He.fAd K d.at_) cdv A outer s H E) d.body (rdS K T (fun cls d _ H' => E cls d H') B))
    (hd : fn[i]? = some d := by rfl) (h0 : d.dfl = [] := by rfl) (h1 : d.kwd = [] := by rfl) : Cal P w K mg T (k + 1) (He.fAd K d.at_) ps (fnOf n m B) := by
  obtain ⟨fd, Fd⟩ := c.def_ i hd
  have e0 : d.dvs K = [] := by unfold He.DefD.dvs; rw [h0]; rfl
  rw [e0] at Fd
  exact ⟨⟨fd, fun base => jf_okD Fd S n m hn hm (hbody base), Fd.bindsN hb, fun s us hl => FunD.bindsA Fd hb s us hl⟩, Fd.kp⟩
/-! ### the law -/
theorem reps_ints {r : List Addr} {A : Addr → Prop} {H : Hp} : ∀ ns : List Int, Reps K r A H (ns.map V.int) (ns.map D.int)
  | [] => .nil
  | n :: ns => .cons (.int n) (reps_ints ns)
theorem sp_law {F : Fn} {ns : List Int} {st' : Store} (h : F [.lst (ns.map D.int)] ⟨[], false⟩ = .ok (.sh (.bl true)) st') {H : Hp} {a : Addr} (hS : SqL K H a (ns.map V.int)) : spF K T F [.ref a] H (fun v _ => v = .bl true) fun _ _ _ => False := by
  refine ⟨fun _ => False, [], [.lst (ns.map D.int)], ⟨[], false⟩, ⟨.nil, .nil, List.nodup_nil, fun _ z => z.elim, fun _ z => by simp [ownsE, fpO] at z⟩, .cons (.lst ?_ (reps_ints ns)) .nil, ?_⟩
  · rcases hS with q | q
    · refine .inl ⟨q, fun z => ?_⟩
      rcases z with z | z | z
      · exact z
      · simp [ownsE] at z
      · simp [fpO] at z
    · exact .inr q
  · rw [h]
    intro v l' H' _ r
    cases r with
    | sh r => cases r; rfl
theorem walk_end {l : PySem.W.OpenLaw} {q : Program} {loose : List Str} {XP : (Str → Option Value) → Heap → Prop} {d : DefRec} {x : Str} {k gi : Nat} {F : Fn} {fa : List Fx} {fn : List He.DefD} {TT : PySem.W.Frag → CT} (hn : l.most = some 63) (hdf : d.params.defaults = []) (hr : Room k callerA)
    (hname : d.name = ("law" : Str)) (hcal : ∀ (K : PySem.W.Frag) (mg : Str → Option Value) (w : World), Tx fa fn K mg → Cal l.prog w K mg (TT K) k (He.ga K "law") [x] F)
    (hg : fa[gi]? = some (Fx.he (.glo "law"))) (law : ∀ ns : List Int, ns.length ≤ 63 → ∃ st', F [.lst (ns.map D.int)] ⟨[], false⟩ = .ok (.sh (.bl true)) st') :
    PySem.W.WalkO q loose XP (fun _ h => ∃ K : PySem.W.Frag, K.In h ∧ SaysX fa fn K) l.row.toRowW d [] (fun f vs => PySem.call f vs) := by
  refine Att.attach_call hn hdf fun w s0 s1 mg mb f o pm cd doc a vs ns G Y _ _ _ hmg hobj hints hlen hgens => ?_
  obtain ⟨K, KX, c⟩ := Y
  have t : Tx fa fn K mg := ⟨⟨_, KX, G.T.g⟩, c⟩
  have e := (hname ▸ hmg).symm.trans (t.glo gi hg)
  cases e
  obtain ⟨fd, hf, _, hb⟩ := (hcal K mg w t).ex
  refine law_call (CX := L2N.CX l.prog w) (sp := spF K (TT K) F) (fd := fd) (x := x) KX G.T.g G.T.b G.T.builtins G.T.nolimit hgens hobj hints (Nat.le_trans hlen (by decide)) hr (fun base _ _ => hf base) (fun s u => hb s [u] rfl) (fun H _ hS => ?_) ?_
  · obtain ⟨st', h⟩ := law ns hlen
    exact sp_law h hS
  · rintro H e s' ⟨a, B, H', cls, d, rfl, fl, hok, ub, na, os, ag, hE⟩
    exact hE
end
end Pz

/-! Lemmas for reckoning with the value semantics. -/
namespace Pz
open PySem (Str)
/-- what stands in a slot -/
def slotR (i : Nat) (s : Store) : Option (Option Slot) → R Val
  | some (some (.sh d)) => .ok (.sh d) s
  | some (some (.ow d)) => .ok (.bw i d) s
  | _ => .bad
theorem eV_eq (i : Nat) (e : Env) (s : Store) : eV i e s = slotR i s e[i]? := by
  unfold eV slotR
  split <;> simp_all
@[simp] theorem slotR_sh {i : Nat} {s : Store} {d : D} : slotR i s (some (some (.sh d))) = .ok (.sh d) s := (rfl)
@[simp] theorem slotR_ow {i : Nat} {s : Store} {d : D} : slotR i s (some (some (.ow d))) = .ok (.bw i d) s := (rfl)
@[simp] theorem eV_simp (i : Nat) (e : Env) (s : Store) : eV i e s = slotR i s e[i]? := eV_eq i e s
section
variable {e : Env} {s : Store} {A B C : EF} {As Bs : AF} {t u : TF} {S1 S2 : SF} {d : D} {i : Nat}
@[simp] theorem eC_simp : eC d e s = .ok (.sh d) s := (rfl)
@[simp] theorem eOp1_simp {o : D → OR} : eOp1 o A e s = (A e s).bind fun a s1 => (o a.any).run s1 := (rfl)
/-- the second operand, behind a first one -/
def op2K (o : D → D → OR) (B : EF) (e : Env) : Val → Store → R Val
  | .fb _ _ d, s1 => (B e { s1 with lk := true }).still s1 fun b => (o d b.any).run s1
  | .sh d, s1 => (B e s1).bind fun b s2 => (o d b.any).run s2
  | .bw _ d, s1 => (B e s1).bind fun b s2 => (o d b.any).run s2
  | .ow (.lst xs), s1 => (B e s1).bind fun b s2 => (o (.lst xs) b.any).run s2
  | .ow _, _ => .bad
@[simp] theorem eOp2_simp {o : D → D → OR} : eOp2 o A B e s = (A e s).bind (op2K o B e) := by
  unfold eOp2
  cases A e s with
  | ok a s1 =>
    simp only [R.bind_ok]
    cases a with
    | ow d => cases d <;> rfl
    | _ => rfl
  | _ => rfl
@[simp] theorem op2K_sh {o : D → D → OR} : op2K o B e (.sh d) s = (B e s).bind fun b s2 => (o d b.any).run s2 := (rfl)
@[simp] theorem op2K_bw {o : D → D → OR} : op2K o B e (.bw i d) s = (B e s).bind fun b s2 => (o d b.any).run s2 := (rfl)
@[simp] theorem op2K_ow {o : D → D → OR} {xs : List D} : op2K o B e (.ow (.lst xs)) s = (B e s).bind fun b s2 => (o (.lst xs) b.any).run s2 := (rfl)
@[simp] theorem op2K_fb {o : D → D → OR} {k f : Nat} : op2K o B e (.fb k f d) s = (B e { s with lk := true }).still s fun b => (o d b.any).run s := (rfl)
@[simp] theorem any_sh : (Val.sh d).any = d := (rfl)
@[simp] theorem any_ow : (Val.ow d).any = d := (rfl)
@[simp] theorem any_bw : (Val.bw i d).any = d := (rfl)
@[simp] theorem any_fb {k f : Nat} : (Val.fb k f d).any = d := (rfl)
@[simp] theorem keep_sh : (Val.sh d).keep = some d := (rfl)
@[simp] theorem keep_ow {xs : List D} : (Val.ow (.lst xs)).keep = some (.lst xs) := (rfl)
@[simp] theorem stab_sh : (Val.sh d).stab = some d := (rfl)
@[simp] theorem stab_ow {xs : List D} : (Val.ow (.lst xs)).stab = some (.lst xs) := (rfl)
@[simp] theorem stab_bw : (Val.bw i d).stab = some d := (rfl)
@[simp] theorem slot_sh : (Val.sh d).slot = some (.sh d) := (rfl)
@[simp] theorem slot_ow : (Val.ow d).slot = some (.ow d) := (rfl)
@[simp] theorem fin_sh : (Val.sh d).fin = some (.sh d) := (rfl)
@[simp] theorem fin_ow : (Val.ow d).fin = some (.ow d) := (rfl)
@[simp] theorem asB_sh {b : Bool} : (Val.sh (.bl b)).asB = some b := (rfl)
@[simp] theorem asO_sh {k : Nat} : (Val.sh (.obj k)).asO = some k := (rfl)
@[simp] theorem run_v : (OR.v d).run s = .ok (.sh d) s := (rfl)
@[simp] theorem run_nl {xs : List D} : (OR.nl xs).run s = .ok (.ow (.lst xs)) s := (rfl)
@[simp] theorem orB_v {b : Bool} : (OR.v (.bl b)).asB = some b := (rfl)
@[simp] theorem aNil_simp : aNil e s = .ok [] s := (rfl)
@[simp] theorem aCons_simp : aCons A As e s = (A e s).bind fun a s1 => R.optv a.keep fun x => (As e s1).bind fun xs s2 => .ok (x :: xs) s2 := (rfl)
@[simp] theorem bOne_simp : bOne A e s = (A e s).bind fun a s1 => .ok [a.any] s1 := (rfl)
@[simp] theorem bCons_simp : bCons A As e s = (A e s).bind fun a s1 => R.optv a.stab fun x => (As e s1).bind fun xs s2 => .ok (x :: xs) s2 := (rfl)
@[simp] theorem eOpN_simp {o : List D → OR} : eOpN o As e s = (As e s).bind fun xs s1 => (o xs).run s1 := (rfl)
/-- a display -/
def mkL (xs : List D) (s : Store) : R Val := if xs.length ≤ 1000 then .ok (.ow (.lst xs)) s else .bad
def mkT (xs : List D) (s : Store) : R Val := if xs.length ≤ 1000 then .ok (.sh (.tup xs)) s else .bad
@[simp] theorem eTup_simp : eTup As e s = (As e s).bind mkT := (rfl)
@[simp] theorem eLst_simp : eLst As e s = (As e s).bind mkL := (rfl)
theorem mkL_ok {xs : List D} (h : xs.length ≤ 1000) : mkL xs s = .ok (.ow (.lst xs)) s := if_pos h
theorem mkT_ok {xs : List D} (h : xs.length ≤ 1000) : mkT xs s = .ok (.sh (.tup xs)) s := if_pos h
@[simp] theorem mkL_nil : mkL [] s = .ok (.ow (.lst [])) s := if_pos (Nat.zero_le _)
@[simp] theorem mkT_nil : mkT [] s = .ok (.sh (.tup [])) s := if_pos (Nat.zero_le _)
@[simp] theorem eIf_simp : eIf t A B e s = (t e s).bind fun b s1 => if b = true then A e s1 else B e s1 := (rfl)
@[simp] theorem eAnd_simp : eAnd A B e s = (A e s).bind fun a s1 => R.optv a.asB fun k => if k = true then B e s1 else .ok (.sh (.bl false)) s1 := (rfl)
@[simp] theorem eOr_simp : eOr A B e s = (A e s).bind fun a s1 => R.optv a.asB fun k => if k = true then .ok (.sh (.bl true)) s1 else B e s1 := (rfl)
@[simp] theorem eNot_simp : eNot A e s = (A e s).bind fun a s1 => R.optv a.asB fun k => .ok (.sh (.bl (!k))) s1 := (rfl)
@[simp] theorem eChain_simp {o o' : D → D → OR} : eChain o o' A B C e s = (A e s).bind fun a s1 => R.optv a.stab fun x => (B e s1).bind fun b s2 => R.optv b.stab fun y => R.optv (o x y).asB fun k =>
  if k = true then (C e s2).bind fun c s3 => (o' y c.any).run s3 else .ok (.sh (.bl false)) s2 := (rfl)
@[simp] theorem eF_simp {c f : Nat} : eF c A f e s = (A e s).bind fun a s1 => R.optv a.asO fun k => R.optv (getF s1 c k f) fun x => .ok (x.val k f) s1 := (rfl)
@[simp] theorem valS_sh {k f : Nat} : (Slot.sh d).val k f = .sh d := (rfl)
@[simp] theorem valS_ow {k f : Nat} : (Slot.ow d).val k f = .fb k f d := (rfl)
@[simp] theorem eCall_simp {F : Fn} : eCall F As e s = (As e s).bind fun xs s1 => F xs s1 := (rfl)
@[simp] theorem eMeth_simp {c : Nat} {F : Fn} : eMeth c F A As e s = (A e s).bind fun a s1 => R.optv a.asO fun k => R.optv (isC s1 c k) fun _ => (As e s1).bind fun xs s2 => F (.obj k :: xs) s2 := (rfl)
/-- a new object, made -/
def makeK (n : Nat) : Val → Store → R Val
  | .sh .non, s => .ok (.sh (.obj n)) s
  | _, _ => .bad
@[simp] theorem eMake_simp {c : Nat} {F : Fn} : eMake c F As e s = (As e s).bind fun xs s1 => if s1.lk = true then .bad else
  (F (.obj s1.obs.length :: xs) { s1 with obs := s1.obs ++ [⟨c, []⟩] }).bind (makeK s1.obs.length) := by
  unfold eMake
  congr 1
  funext xs s1
  split
  · rfl
  · congr 1
    funext v s2
    unfold makeK
    split <;> simp_all
@[simp] theorem makeK_non {n : Nat} : makeK n (.sh .non) s = .ok (.sh (.obj n)) s := (rfl)
@[simp] theorem tE_simp : tE A e s = (A e s).bind fun a s1 => R.optv a.asB fun b => .ok b s1 := (rfl)
@[simp] theorem tAnd_simp : tAnd t u e s = (t e s).bind fun b s1 => if b = true then u e s1 else .ok false s1 := (rfl)
@[simp] theorem tOr_simp : tOr t u e s = (t e s).bind fun b s1 => if b = true then .ok true s1 else u e s1 := (rfl)
@[simp] theorem tNot_simp : tNot t e s = (t e s).bind fun b s1 => .ok (!b) s1 := (rfl)
@[simp] theorem sPass_simp : sPass e s = .nx e s := (rfl)
@[simp] theorem sSeq_simp : sSeq S1 S2 e s = (S1 e s).then S2 := (rfl)
@[simp] theorem sAsg_simp : sAsg i A e s = (A e s).out e fun a s1 => Out.ofOpt a.slot fun x => .nx (e.set i (some x)) s1 := (rfl)
@[simp] theorem sAsgF_simp : sAsgF i A e s = (A e s).out e fun a s1 => Out.ofOpt a.keep fun d => .nx (e.set i (some (.sh d))) s1 := (rfl)
/-- a slot whose list stays from here on -/
def frzR (i : Nat) (e : Env) (s : Store) : Option (Option Slot) → Out
  | some (some (.ow (.lst xs))) => .nx (e.set i (some (.sh (.lst xs)))) s
  | some (some (.sh d)) => .nx e s
  | _ => .bad
@[simp] theorem sFrz_simp : sFrz i e s = frzR i e s e[i]? := by
  unfold sFrz frzR
  split <;> simp_all
@[simp] theorem frzR_ow {xs : List D} : frzR i e s (some (some (.ow (.lst xs)))) = .nx (e.set i (some (.sh (.lst xs)))) s := (rfl)
@[simp] theorem frzR_sh : frzR i e s (some (some (.sh d))) = .nx e s := (rfl)
@[simp] theorem sIf_simp : sIf t S1 S2 e s = (t e s).out e fun b s1 => if b = true then S1 e s1 else S2 e s1 := (rfl)
@[simp] theorem sExpr_simp : sExpr A e s = (A e s).out e fun _ s1 => .nx e s1 := (rfl)
@[simp] theorem sRet_simp : sRet A e s = (A e s).out e fun a s1 => Out.ofOpt a.fin fun v => .rt v s1 := (rfl)
def retR (s : Store) : Option (Option Slot) → Out
  | some (some (.sh d)) => .rt (.sh d) s
  | some (some (.ow d)) => .rt (.ow d) s
  | _ => .bad
@[simp] theorem sRetV_simp : sRetV i e s = retR s e[i]? := by
  unfold sRetV retR
  split <;> simp_all
@[simp] theorem retR_sh : retR s (some (some (.sh d))) = .rt (.sh d) s := (rfl)
@[simp] theorem retR_ow : retR s (some (some (.ow d))) = .rt (.ow d) s := (rfl)
@[simp] theorem sRetN_simp : sRetN e s = .rt (.sh .non) s := (rfl)
@[simp] theorem sRaise_simp {c : Nat} : sRaise c e s = .ex c e s := (rfl)
@[simp] theorem sBrk_simp : sBrk e s = .bk e s := (rfl)
@[simp] theorem sCnt_simp : sCnt e s = .ct e s := (rfl)
def augO (i : Nat) (e : Env) (s : Store) : OR → Out
  | .v d => .nx (e.set i (some (.sh d))) s
  | _ => .bad
@[simp] theorem augO_v {s : Store} : augO i e s (.v d) = .nx (e.set i (some (.sh d))) s := (rfl)
def augR (i : Nat) (o : D → D → OR) (A : EF) (e : Env) (s : Store) : Option (Option Slot) → Out
  | some (some (.sh x)) => (A e s).out e fun a s1 => augO i e s1 (o x a.any)
  | _ => .bad
@[simp] theorem sAug_simp {o : D → D → OR} : sAug i o A e s = augR i o A e s e[i]? := by
  unfold sAug augR
  cases e[i]? with
  | none => rfl
  | some f =>
    cases f with
    | none => rfl
    | some f =>
      cases f with
      | ow d => rfl
      | sh d =>
        show R.out (A e s) e _ = R.out (A e s) e _
        congr 1
        first | done | (funext a s1; cases o d a.any <;> rfl)
@[simp] theorem augR_sh {o : D → D → OR} : augR i o A e s (some (some (.sh d))) = (A e s).out e fun a s1 => augO i e s1 (o d a.any) := (rfl)
/-- a change, behind its receiver -/
def mutK (m : List D → List D → Option (List D)) (As : AF) (e : Env) : Val → Store → Out
  | .bw i (.lst xs), s1 => (As e s1).out e fun ys s2 => Out.ofOpt (m xs ys) fun d => .nx (e.set i (some (.ow (.lst d)))) s2
  | .fb k f (.lst xs), s1 => if s1.lk = true then .bad else match As e { s1 with lk := true } with
    | .ok ys _ => Out.ofOpt (m xs ys) fun d => put (.fb k f (.lst xs)) (.lst d) e s1
    | .ex c _ => .ex c e s1
    | .bad => .bad
  | _, _ => .bad
@[simp] theorem sMut_simp {m : List D → List D → Option (List D)} : sMut m A As e s = (A e s).out e (mutK m As e) := by
  unfold sMut
  cases A e s with
  | ok a s1 =>
    simp only [R.out_ok]
    cases a with
    | bw i d => cases d <;> rfl
    | fb k f d => cases d <;> rfl
    | _ => rfl
  | _ => rfl
@[simp] theorem mutK_bw {m : List D → List D → Option (List D)} {xs : List D} : mutK m As e (.bw i (.lst xs)) s = (As e s).out e fun ys s2 => Out.ofOpt (m xs ys) fun d => .nx (e.set i (some (.ow (.lst d)))) s2 := (rfl)
@[simp] theorem mutK_fb {m : List D → List D → Option (List D)} {k f : Nat} {xs : List D} : mutK m As e (.fb k f (.lst xs)) s = if s.lk = true then .bad else match As e { s with lk := true } with
    | .ok ys _ => Out.ofOpt (m xs ys) fun d => put (.fb k f (.lst xs)) (.lst d) e s
    | .ex c _ => .ex c e s
    | .bad => .bad := (rfl)
theorem mApp_one {xs : List D} {y : D} (h : xs.length < 100000) : mApp xs [y] = some (xs ++ [y]) := if_pos h
def setK (m : D → D → D → Option D) (I : EF) (y : D) (e : Env) : Val → Store → Out
  | .bw i x, s1 => (I e s1).out e fun j s2 => Out.ofOpt (m x j.any y) fun d => .nx (e.set i (some (.ow d))) s2
  | .fb k f x, s1 => if s1.lk = true then .bad else match I e { s1 with lk := true } with
    | .ok j _ => Out.ofOpt (m x j.any y) fun d => put (.fb k f x) d e s1
    | .ex c _ => .ex c e s1
    | .bad => .bad
  | _, _ => .bad
@[simp] theorem sSet_simp {m : D → D → D → Option D} : sSet m A B C e s = (C e s).out e fun b s0 => Out.ofOpt b.keep fun y => (A e s0).out e (setK m B y e) := by
  unfold sSet
  congr 1
  funext b s0
  congr 1
  funext y
  congr 1
  funext a s1
  cases a <;> rfl
@[simp] theorem setK_bw {m : D → D → D → Option D} {y : D} : setK m B y e (.bw i d) s = (B e s).out e fun j s2 => Out.ofOpt (m d j.any y) fun d => .nx (e.set i (some (.ow d))) s2 := (rfl)
@[simp] theorem setK_fb {m : D → D → D → Option D} {k f : Nat} {y : D} : setK m B y e (.fb k f d) s = if s.lk = true then .bad else match B e { s with lk := true } with
    | .ok j _ => Out.ofOpt (m d j.any y) fun d' => put (.fb k f d) d' e s
    | .ex c _ => .ex c e s
    | .bad => .bad := (rfl)
@[simp] theorem sFld_simp {c f : Nat} : sFld c A f B e s = (B e s).out e fun b s1 => Out.ofOpt b.slot fun x => (A e s1).out e fun a s2 => Out.ofOpt a.asO fun k => Out.ofOpt (putO s2 c k f x) fun s3 => .nx e s3 := (rfl)
@[simp] theorem sFldAug_simp {c f : Nat} {o : D → D → OR} : sFldAug c A f o B e s = (A e s).out e fun a s1 => Out.ofOpt a.asO fun k => if s1.lk = true then .bad else match getF s1 c k f with
  | some (.sh x) => match B e { s1 with lk := true } with
    | .ok b _ => match o x b.any with
      | .v d => Out.ofOpt (putO s1 c k f (.sh d)) fun s3 => .nx e s3
      | _ => .bad
    | .ex n _ => .ex n e s1
    | .bad => .bad
  | _ => .bad := (rfl)
@[simp] theorem gN_simp : gN i d e = some (e.set i (some (.sh d))) := (rfl)
@[simp] theorem sFor_simp {g : GF} {I : IF} : sFor g I S1 e s = (I e s).out e fun p s1 => if p.2 = true then (forL g S1 p.1 e { s1 with lk := true }).unlock s1.lk else forL g S1 p.1 e s1 := (rfl)
/-- the numbers below n -/
def rngR : Val → Store → R (List D × Bool)
  | .sh (.int n), s => if -4611686018427387904 ≤ n ∧ n < 4611686018427387904 then .ok (upto n.toNat 0, false) s else .bad
  | _, _ => .bad
@[simp] theorem itR1_simp : itR1 A e s = (A e s).bind rngR := by
  unfold itR1
  cases A e s with
  | ok a s1 => simp only [R.bind_ok]; unfold rngR; split <;> first | rfl | (split <;> simp_all)
  | _ => rfl
theorem rngR_int {n : Int} (h0 : 0 ≤ n) (h1 : n < 1000000000) : rngR (.sh (.int n)) s = .ok (upto n.toNat 0, false) s := if_pos ⟨by omega, by omega⟩
/-- a def's end -/
def finR : Out → R Val
  | .nx _ s => .ok (.sh .non) s
  | .rt v s => .ok v s
  | .ex c _ s => .ex c s
  | _ => .bad
theorem fnOf_at {n m : Nat} {B : SF} {ds : List D} (h : ds.length = n) : fnOf n m B ds s = finR (B (ds.map (fun d => some (.sh d)) ++ List.replicate (m - n) none) s) := by
  unfold fnOf
  rw [if_pos h]
  unfold finR
  split <;> simp_all
@[simp] theorem finR_nx : finR (.nx e s) = .ok (.sh .non) s := (rfl)
@[simp] theorem finR_rt {v : Val} : finR (.rt v s) = .ok v s := (rfl)
@[simp] theorem finR_ex {c : Nat} : finR (.ex c e s) = .ex c s := (rfl)
def tryR (cl : List (Nat × Option Nat × (Nat → SF))) : Out → Out
  | .ex c e1 s1 => tryC cl c e1 s1
  | o => o
@[simp] theorem sTry_simp {cl : List (Nat × Option Nat × (Nat → SF))} : sTry S1 cl e s = tryR cl (S1 e s) := by
  unfold sTry tryR
  split <;> simp_all
@[simp] theorem tryR_nx {cl : List (Nat × Option Nat × (Nat → SF))} : tryR cl (.nx e s) = .nx e s := (rfl)
@[simp] theorem tryR_rt {cl : List (Nat × Option Nat × (Nat → SF))} {v : Val} : tryR cl (.rt v s) = .rt v s := (rfl)
@[simp] theorem tryR_bk {cl : List (Nat × Option Nat × (Nat → SF))} : tryR cl (.bk e s) = .bk e s := (rfl)
@[simp] theorem tryR_ct {cl : List (Nat × Option Nat × (Nat → SF))} : tryR cl (.ct e s) = .ct e s := (rfl)
@[simp] theorem tryR_ex {cl : List (Nat × Option Nat × (Nat → SF))} {c : Nat} : tryR cl (.ex c e s) = tryC cl c e s := (rfl)
@[simp] theorem tryC_nil {c : Nat} : tryC [] c e s = .ex c e s := (rfl)
@[simp] theorem tryC_cons {c k : Nat} {o : Option Nat} {S : Nat → SF} {r : List (Nat × Option Nat × (Nat → SF))} : tryC ((k, o, S) :: r) c e s = if sub c k = true then (S c (envOf o e) s).suite o else tryC r c e s := (rfl)
@[simp] theorem envOf_none : envOf none e = e := (rfl)
@[simp] theorem envOf_some : envOf (some i) e = e.set i none := (rfl)
@[simp] theorem suite_nx {o : Option Nat} : (Out.nx e s).suite o = .nx (envOf o e) s := (rfl)
@[simp] theorem suite_bk {o : Option Nat} : (Out.bk e s).suite o = .bk (envOf o e) s := (rfl)
@[simp] theorem suite_ct {o : Option Nat} : (Out.ct e s).suite o = .ct (envOf o e) s := (rfl)
@[simp] theorem suite_rt {o : Option Nat} {v : Val} : (Out.rt v s).suite o = .rt v s := (rfl)
/-! operations on ints -/
@[simp] theorem oAdd_int {i j : Int} : oAdd (.int i) (.int j) = .v (.int (i + j)) := (rfl)
@[simp] theorem oAddI_int {i j : Int} : oAddI (.int i) (.int j) = .v (.int (i + j)) := (rfl)
@[simp] theorem oSub_int {i j : Int} : oSub (.int i) (.int j) = .v (.int (i - j)) := (rfl)
@[simp] theorem oLt_int {i j : Int} : oLt (.int i) (.int j) = .v (.bl (decide (i < j))) := (rfl)
@[simp] theorem oLe_int {i j : Int} : oLe (.int i) (.int j) = .v (.bl (decide (i ≤ j))) := (rfl)
@[simp] theorem oGt_int {i j : Int} : oGt (.int i) (.int j) = .v (.bl (decide (j < i))) := (rfl)
@[simp] theorem oGe_int {i j : Int} : oGe (.int i) (.int j) = .v (.bl (decide (j ≤ i))) := (rfl)
@[simp] theorem oNeg_int {i : Int} : oNeg (.int i) = .v (.int (-i)) := (rfl)
@[simp] theorem oInt_int {i : Int} : oInt [.int i] = .v (.int i) := (rfl)
@[simp] theorem oInt_bl {b : Bool} : oInt [.bl b] = .v (.int (if b then 1 else 0)) := (rfl)
@[simp] theorem oAbs_int {i : Int} : oAbs [.int i] = .v (.int (if i < 0 then -i else i)) := (rfl)
@[simp] theorem oLen_lst {xs : List D} : oLen [.lst xs] = .v (.int xs.length) := (rfl)
@[simp] theorem oLen_tup {xs : List D} : oLen [.tup xs] = .v (.int xs.length) := (rfl)
@[simp] theorem lay_int {n : Nat} {i : Int} : lay n (.int i) = true := by cases n <;> rfl
@[simp] theorem lay_bl {n : Nat} {i : Bool} : lay n (.bl i) = true := by cases n <;> rfl
@[simp] theorem lay_non {n : Nat} : lay n .non = true := by cases n <;> rfl
theorem lay_str {n : Nat} {x : Str} : lay n (.str x) = x.cps.all (· < 0x110000) := by cases n <;> rfl
@[simp] theorem oEq_int {i j : Int} : oEq (.int i) (.int j) = .v (.bl (decide (i = j))) := by
  unfold oEq
  rw [if_pos (by simp)]
  congr 2
@[simp] theorem oNe_int {i j : Int} : oNe (.int i) (.int j) = .v (.bl (!decide (i = j))) := by
  unfold oNe
  rw [if_pos (by simp)]
  congr 2
theorem oEq_s {a b : Str} {r : Bool} (h : (a.cps.all (· < 0x110000) && (b.cps.all (· < 0x110000) && ((a == b) == r))) = true) : oEq (.str a) (.str b) = .v (.bl r) := by
  obtain ⟨h1, h2, h3⟩ := (by simpa [Bool.and_eq_true] using h : (∀ (i : Nat) (x : i < a.cps.size), a.cps[i] < 0x110000) ∧ (∀ (i : Nat) (x : i < b.cps.size), b.cps[i] < 0x110000) ∧ (a == b) = r)
  unfold oEq
  rw [if_pos ⟨by rw [lay_str]; simpa using h1, by rw [lay_str]; simpa using h2⟩]
  show OR.v (.bl (a == b)) = _
  rw [h3]
theorem oNe_s {a b : Str} {r : Bool} (h : (a.cps.all (· < 0x110000) && (b.cps.all (· < 0x110000) && ((!(a == b)) == r))) = true) : oNe (.str a) (.str b) = .v (.bl r) := by
  obtain ⟨h1, h2, h3⟩ := (by simpa [Bool.and_eq_true] using h : (∀ (i : Nat) (x : i < a.cps.size), a.cps[i] < 0x110000) ∧ (∀ (i : Nat) (x : i < b.cps.size), b.cps[i] < 0x110000) ∧ (!(a == b)) = r)
  unfold oNe
  rw [if_pos ⟨by rw [lay_str]; simpa using h1, by rw [lay_str]; simpa using h2⟩]
  show OR.v (.bl (!(a == b))) = _
  rw [h3]
@[simp] theorem oNe_nn : oNe .non .non = .v (.bl false) := (rfl)
theorem oIx_lst {xs : List D} {i : Int} {j : Nat} {d : D} (h1 : ixP xs.length i = some j) (h2 : xs[j]? = some d) : oIx (.lst xs) (.int i) = .v d := by
  unfold oIx
  simp [h1, h2]
theorem ixP_pos {n : Nat} {i : Int} (h0 : 0 ≤ i) (h1 : i < n) : ixP n i = some i.toNat := by
  unfold ixP
  rw [if_pos h0, if_pos h1]
theorem oIx_at {xs : List D} {i : Int} (h0 : 0 ≤ i) (h1 : i < xs.length) {d : D} (h2 : xs[i.toNat]? = some d) : oIx (.lst xs) (.int i) = .v d := oIx_lst (ixP_pos h0 h1) h2
end
theorem mul_small {i j : Int} (hi : i.natAbs < 2 ^ 100) (hj : j.natAbs < 2 ^ 100) : oMul (.int i) (.int j) = .v (.int (i * j)) := by
  have h1 : i.natAbs.log2 < 101 := by
    by_cases h : i.natAbs = 0
    · rw [h]; decide
    · exact Nat.lt_succ_of_lt ((Nat.log2_lt h).mpr hi)
  have h2 : j.natAbs.log2 < 101 := by
    by_cases h : j.natAbs = 0
    · rw [h]; decide
    · exact Nat.lt_succ_of_lt ((Nat.log2_lt h).mpr hj)
  exact if_pos (by omega)
theorem fdiv_small {i j : Int} (h0 : 0 < j) (hj : j.natAbs < 2 ^ 100) : oFDiv (.int i) (.int j) = .v (.int (i / j)) := by
  have h2 : j.natAbs.log2 < 101 := by
    by_cases h : j.natAbs = 0
    · rw [h]; decide
    · exact Nat.lt_succ_of_lt ((Nat.log2_lt h).mpr hj)
  exact if_pos ⟨h0, by omega⟩
theorem mod_pos {i j : Int} (h0 : 0 < j) : oMod (.int i) (.int j) = .v (.int (i % j)) := by
  exact if_pos h0
/-- a for over known items -/
theorem forL_nil {g : GF} {B : SF} {e : Env} {s : Store} : forL g B [] e s = .nx e s := (rfl)
theorem forL_cons {g : GF} {B : SF} {x : D} {xs : List D} {e e1 : Env} {s : Store} (h : g x e = some e1) : forL g B (x :: xs) e s = match B e1 s with
    | .nx e2 s2 => forL g B xs e2 s2
    | .ct e2 s2 => forL g B xs e2 s2
    | .bk e2 s2 => .nx e2 s2
    | o => o := by
  show Out.ofOpt (g x e) _ = _
  rw [h]; rfl
/-- an invariant that every turn keeps (no break) -/
theorem forL_inv (J : Nat → Env → Store → Prop) {g : GF} {B : SF} : ∀ (xs : List D) (k : Nat) {e : Env} {s : Store}, J k e s →
    (∀ i x e s, xs[i]? = some x → J (k + i) e s → ∃ e1, g x e = some e1 ∧ ((∃ e2 s2, B e1 s = .nx e2 s2 ∧ J (k + i + 1) e2 s2) ∨ (∃ e2 s2, B e1 s = .ct e2 s2 ∧ J (k + i + 1) e2 s2))) →
    ∃ e' s', forL g B xs e s = .nx e' s' ∧ J (k + xs.length) e' s'
  | [], k, e, s, h, _ => ⟨e, s, rfl, h⟩
  | x :: xs, k, e, s, h, st => by
    obtain ⟨e1, hg, z⟩ := st 0 x e s rfl h
    rw [forL_cons hg]
    have go : ∀ e2 s2, J (k + 0 + 1) e2 s2 → ∃ e' s', forL g B xs e2 s2 = .nx e' s' ∧ J (k + (x :: xs).length) e' s' := fun e2 s2 h2 => by
      obtain ⟨e', s', h3, h4⟩ := forL_inv J xs (k + 1) (by simpa using h2) fun i y e s hy hJ => by
        have := st (i + 1) y e s (by simpa using hy) (by simpa [Nat.add_assoc, Nat.add_comm 1 i] using hJ)
        simpa [Nat.add_assoc, Nat.add_comm 1 i] using this
      exact ⟨e', s', h3, by rw [List.length_cons, show k + (xs.length + 1) = k + 1 + xs.length by omega]; exact h4⟩
    rcases z with ⟨e2, s2, hB, h2⟩ | ⟨e2, s2, hB, h2⟩
    · rw [hB]; exact go e2 s2 h2
    · rw [hB]; exact go e2 s2 h2
theorem upto_length : ∀ (n : Nat) (lo : Int), (upto n lo).length = n
  | 0, _ => rfl
  | n + 1, lo => by simp [upto, upto_length n]
theorem upto_nth : ∀ (n : Nat) (lo : Int) (i : Nat), i < n → (upto n lo)[i]? = some (.int (lo + i))
  | 0, _, i, h => absurd h (Nat.not_lt_zero _)
  | n + 1, lo, 0, _ => by simp [upto]
  | n + 1, lo, i + 1, h => by
    rw [upto, List.getElem?_cons_succ, upto_nth n (lo + 1) i (by omega)]
    congr 2
    push_cast
    omega
theorem upto_at {n : Nat} {lo : Int} {i : Nat} {x : D} (h : (upto n lo)[i]? = some x) : i < n ∧ x = .int (lo + i) := by
  have hi : i < n := by
    have := (List.getElem?_eq_some_iff.mp h).1
    rwa [upto_length] at this
  refine ⟨hi, ?_⟩
  rw [upto_nth n lo i hi] at h
  exact (Option.some.inj h).symm
end Pz

/-! k56_registers: what each def computes (printed by gen.py). -/
namespace K56
open Pz
def B_law_row_l1 : SF := (sIf (tE (eOp2 oGt (eV 3) (eC (.int 0)))) (sSeq (sMut mApp (eV 1) (aCons (eOp2 oMod (eOpN oInt (bOne (eV 3))) (eC (.int 1009))) aNil))
  (sAsgF 3 (eOp2 oFDiv (eV 3) (eC (.int 1009))))) sPass)
def B_law_row_l2 : SF := (sSeq (sAsgF 5 (eOp2 oMod (eOpN oInt (bOne (eOp2 oAdd (eOp2 oAdd (eOp2 oMul (eV 5) (eC (.int 16807))) (eOp2 oMul (eC (.int 11)) (eV 4))) (eC (.int 1))))) (eC (.int 2147483647))))
  (sMut mApp (eV 1) (aCons (eOp2 oMod (eOpN oInt (bOne (eOp2 oFDiv (eV 5) (eC (.int 7))))) (eC (.int 1009))) aNil)))
def B_law_row_l3 : SF := (sSeq (sAsgF 3 (eOpN oAbs (bOne (eOpN oInt (bOne (eOp2 oIx (eV 0) (eV 2)))))))
  (sIf (tE (eOp2 oGe (eV 3) (eOp2 oPow (eC (.int 10)) (eC (.int 18))))) (sFor (gN 4) (itR1 (eC (.int 40))) B_law_row_l1) (sSeq (sAsgF 5 (eOp2 oMod (eOpN oInt (bOne (eOp2 oAdd (eOp2 oAdd (eOp2 oMul (eV 3) (eC (.int 48271))) (eOp2 oMul (eV 2) (eC (.int 69621)))) (eC (.int 12345))))) (eC (.int 2147483647))))
  (sFor (gN 4) (itR1 (eC (.int 6))) B_law_row_l2))))
def B_law_row : SF := (sSeq (sAsg 1 (eLst aNil))
  (sSeq (sFor (gN 2) (itR1 (eOpN oLen (bOne (eV 0)))) B_law_row_l3)
  (sRetV 1)))
def F_law_row : Fn := fnOf 1 6 B_law_row
theorem at_law_row (x0 : D) (s : Store) : F_law_row [x0] s = finR (B_law_row [some (.sh x0), none, none, none, none, none] s) := fnOf_at (n := 1) (m := 6) (B := B_law_row) (ds := [x0]) rfl
def B_Register_init : SF := (sSeq (sFld 1 (eV 0) 0 (eLc (gN 1) (itR1 (eC (.int 3))) tYes (eC (.int 0)) [1]))
  (sFld 1 (eV 0) 1 (eOp1 oNeg (eC (.int 1)))))
def F_Register_init : Fn := fnOf 1 2 B_Register_init
theorem at_Register_init (x0 : D) (s : Store) : F_Register_init [x0] s = finR (B_Register_init [some (.sh x0), none] s) := fnOf_at (n := 1) (m := 2) (B := B_Register_init) (ds := [x0]) rfl
def B_law_at : SF := (sSeq (sIf (tE (eChain oLe oLt (eC (.int 0)) (eV 1) (eOpN oLen (bOne (eV 0))))) (sRet (eOp2 oIx (eV 0) (eV 1))) sPass)
  (sRet (eC (.int 0))))
def F_law_at : Fn := fnOf 2 2 B_law_at
theorem at_law_at (x0 x1 : D) (s : Store) : F_law_at [x0, x1] s = finR (B_law_at [some (.sh x0), some (.sh x1)] s) := fnOf_at (n := 2) (m := 2) (B := B_law_at) (ds := [x0, x1]) rfl
def B_check_epoch : SF := (sIf (tOr (tE (eOp2 oLt (eV 0) (eC (.int 0)))) (tE (eOp2 oGe (eV 0) (eC (.int 3))))) (sRaise 1) sPass)
def F_check_epoch : Fn := fnOf 1 1 B_check_epoch
theorem at_check_epoch (x0 : D) (s : Store) : F_check_epoch [x0] s = finR (B_check_epoch [some (.sh x0)] s) := fnOf_at (n := 1) (m := 1) (B := B_check_epoch) (ds := [x0]) rfl
def B_Register_raise_to : SF := (sSeq (sExpr (eCall F_check_epoch (aCons (eV 1) aNil)))
  (sSeq (sIf (tE (eOp2 oLe (eV 2) (eOp2 oIx (eF 1 (eV 0) 0) (eV 1)))) (sRaise 1) sPass)
  (sSeq (sIf (tE (eOp2 oEq (eF 1 (eV 0) 1) (eC (.int 0)))) (sRaise 7) sPass)
  (sSeq (sIf (tE (eOp2 oGt (eF 1 (eV 0) 1) (eC (.int 0)))) (sFldAug 1 (eV 0) 1 oSub (eC (.int 1))) sPass)
  (sSet mSetL (eF 1 (eV 0) 0) (eV 1) (eV 2))))))
def F_Register_raise_to : Fn := fnOf 3 3 B_Register_raise_to
theorem at_Register_raise_to (x0 x1 x2 : D) (s : Store) : F_Register_raise_to [x0, x1, x2] s = finR (B_Register_raise_to [some (.sh x0), some (.sh x1), some (.sh x2)] s) := fnOf_at (n := 3) (m := 3) (B := B_Register_raise_to) (ds := [x0, x1, x2]) rfl
def B_Register_supply : SF := (sSeq (sIf (tE (eOp2 oLt (eV 1) (eOp1 oNeg (eC (.int 1))))) (sRaise 1) sPass)
  (sFld 1 (eV 0) 1 (eV 1)))
def F_Register_supply : Fn := fnOf 2 2 B_Register_supply
theorem at_Register_supply (x0 x1 : D) (s : Store) : F_Register_supply [x0, x1] s = finR (B_Register_supply [some (.sh x0), some (.sh x1)] s) := fnOf_at (n := 2) (m := 2) (B := B_Register_supply) (ds := [x0, x1]) rfl
def B_Register_count : SF := (sSeq (sExpr (eCall F_check_epoch (aCons (eV 1) aNil)))
  (sRet (eOp2 oIx (eF 1 (eV 0) 0) (eV 1))))
def F_Register_count : Fn := fnOf 2 2 B_Register_count
theorem at_Register_count (x0 x1 : D) (s : Store) : F_Register_count [x0, x1] s = finR (B_Register_count [some (.sh x0), some (.sh x1)] s) := fnOf_at (n := 2) (m := 2) (B := B_Register_count) (ds := [x0, x1]) rfl
def B_law_told_t1 : SF := (sSeq (sIf (tE (eOp2 oEq (eV 1) (eC (.str "raise")))) (sRet (eMeth 1 F_Register_raise_to (eV 0) (aCons (eV 2) (aCons (eV 3) aNil)))) sPass)
  (sSeq (sIf (tE (eOp2 oEq (eV 1) (eC (.str "supply")))) (sRet (eMeth 1 F_Register_supply (eV 0) (aCons (eV 3) aNil))) sPass)
  (sRet (eMeth 1 F_Register_count (eV 0) (aCons (eV 2) aNil)))))
def B_law_told : SF := (sTry B_law_told_t1 [(1, some 4, fun c => (sRet (eOp2 oIx (eLst (aCons (eC (.str "other")) (aCons (eC (.str "not allowed")) aNil))) (eOpN oInt (bOne (eAnd (eC (.bl (sub c 0))) (eNot (eC (.bl (sub c 7)))))))))), (7, some 4, fun c => (sRet (eOp2 oIx (eLst (aCons (eC (.str "other")) (aCons (eC (.str "down")) aNil))) (eOpN oInt (bOne (eAnd (eC (.bl (sub c 0))) (eNot (eC (.bl (sub c 1))))))))))])
def F_law_told : Fn := fnOf 4 5 B_law_told
theorem at_law_told (x0 x1 x2 x3 : D) (s : Store) : F_law_told [x0, x1, x2, x3] s = finR (B_law_told [some (.sh x0), some (.sh x1), some (.sh x2), some (.sh x3), none] s) := fnOf_at (n := 4) (m := 5) (B := B_law_told) (ds := [x0, x1, x2, x3]) rfl
def B_law_l1 : SF := (sIf (tOr (tE (eOp2 oNe (eMeth 1 F_Register_count (eV 2) (aCons (eV 13) aNil)) (eOp2 oIx (eV 4) (eV 13)))) (tE (eOp2 oNe (eMeth 1 F_Register_count (eV 3) (aCons (eV 13) aNil)) (eC (.int 0))))) (sRet (eC (.bl false))) sPass)
def B_law_l2 : SF := (sSeq (sAsgF 7 (eOpN oInt (bOne (eCall F_law_at (aCons (eV 1) (aCons (eOp2 oAdd (eC (.int 1)) (eOp2 oMul (eC (.int 2)) (eV 6))) aNil))))))
  (sSeq (sAsgF 8 (eOpN oInt (bOne (eCall F_law_at (aCons (eV 1) (aCons (eOp2 oAdd (eC (.int 2)) (eOp2 oMul (eC (.int 2)) (eV 6))) aNil))))))
  (sSeq (sAsgF 9 (eOp2 oIx (eLst (aCons (eC (.int 0)) (aCons (eC (.int 1)) (aCons (eC (.int 2)) (aCons (eC (.int 0)) (aCons (eC (.int 1)) (aCons (eOp1 oNeg (eC (.int 1))) (aCons (eC (.int 3)) aNil)))))))) (eOp2 oMod (eV 8) (eC (.int 7)))))
  (sSeq (sIf (tE (eOp2 oEq (eOp2 oMod (eV 7) (eC (.int 5))) (eC (.int 0)))) (sSeq (sAsgF 10 (eOp2 oIx (eLst (aCons (eC (.int 0)) (aCons (eC (.int 1)) (aCons (eC (.int 2)) (aCons (eOp1 oNeg (eC (.int 1))) (aCons (eOp1 oNeg (eC (.int 2))) aNil)))))) (eOp2 oMod (eOp2 oFDiv (eV 8) (eC (.int 7))) (eC (.int 5)))))
  (sSeq (sAsgF 11 (eC .non))
  (sSeq (sIf (tE (eOp2 oLt (eV 10) (eOp1 oNeg (eC (.int 1))))) (sAsgF 11 (eC (.str "not allowed"))) (sAsgF 5 (eV 10)))
  (sIf (tE (eOp2 oNe (eCall F_law_told (aCons (eV 2) (aCons (eC (.str "supply")) (aCons (eC (.int 0)) (aCons (eV 10) aNil))))) (eV 11))) (sRet (eC (.bl false))) sPass)))) (sSeq (sAsgF 11 (eC .non))
  (sSeq (sAsgF 12 (eOp2 oMod (eOp2 oFDiv (eV 8) (eC (.int 7))) (eC (.int 9))))
  (sSeq (sIf (tOr (tNot (tE (eChain oLe oLe (eC (.int 0)) (eV 9) (eC (.int 2))))) (tE (eOp2 oLe (eV 12) (eOp2 oIx (eV 4) (eV 9))))) (sAsgF 11 (eC (.str "not allowed"))) (sIf (tE (eOp2 oEq (eV 5) (eC (.int 0)))) (sAsgF 11 (eC (.str "down"))) (sSeq (sSet mSetL (eV 4) (eV 9) (eV 12))
  (sAsgF 5 (eOp2 oSub (eV 5) (eOpN oInt (bOne (eOp2 oGt (eV 5) (eC (.int 0))))))))))
  (sIf (tE (eOp2 oNe (eCall F_law_told (aCons (eV 2) (aCons (eC (.str "raise")) (aCons (eV 9) (aCons (eV 12) aNil))))) (eV 11))) (sRet (eC (.bl false))) sPass)))))
  (sSeq (sFor (gN 13) (itR1 (eC (.int 3))) B_law_l1)
  (sIf (tE (eOp2 oNe (eCall F_law_told (aCons (eV 2) (aCons (eC (.str "count")) (aCons (eOp2 oIx (eLst (aCons (eOp1 oNeg (eC (.int 1))) (aCons (eC (.int 3)) aNil))) (eOp2 oMod (eOpN oInt (bOne (eV 7))) (eC (.int 2)))) (aCons (eC (.int 0)) aNil))))) (eC (.str "not allowed")))) (sRet (eC (.bl false))) sPass))))))
def B_law : SF := (sSeq (sAsgF 1 (eCall F_law_row (aCons (eV 0) aNil)))
  (sSeq (sAsgF 2 (eMake 1 F_Register_init aNil))
  (sSeq (sAsgF 3 (eMake 1 F_Register_init aNil))
  (sSeq (sAsg 4 (eLst (aCons (eC (.int 0)) (aCons (eC (.int 0)) (aCons (eC (.int 0)) aNil)))))
  (sSeq (sAsgF 5 (eOp1 oNeg (eC (.int 1))))
  (sSeq (sFor (gN 6) (itR1 (eOp2 oMod (eOpN oInt (bOne (eCall F_law_at (aCons (eV 1) (aCons (eC (.int 0)) aNil))))) (eC (.int 26)))) B_law_l2)
  (sRet (eOp2 oEq (eC (.int 3)) (eC (.int 3))))))))))
def F_law : Fn := fnOf 1 14 B_law
theorem at_law (x0 : D) (s : Store) : F_law [x0] s = finR (B_law [some (.sh x0), none, none, none, none, none, none, none, none, none, none, none, none, none] s) := fnOf_at (n := 1) (m := 14) (B := B_law) (ds := [x0]) rfl
end K56

open Pz
namespace K56
/-- a drawn row -/
def Row (n : Nat) (r : List Int) : Prop := r.length ≤ n ∧ ∀ x ∈ r, 0 ≤ x ∧ x < 1009
theorem Row.app {n : Nat} {r : List Int} {y : Int} (h : Row n r) (h0 : 0 ≤ y) (h1 : y < 1009) : Row (n + 1) (r ++ [y]) := by
  refine ⟨by rw [List.length_append]; exact Nat.succ_le_succ h.1, fun x hx => ?_⟩
  rcases List.mem_append.mp hx with q | q
  · exact h.2 x q
  · rw [List.mem_singleton.mp q]; exact ⟨h0, h1⟩
theorem Row.mono {n m : Nat} {r : List Int} (h : Row n r) (q : n ≤ m) : Row m r := ⟨Nat.le_trans h.1 q, h.2⟩
theorem l1_ok {S x : Option Slot} {r : List Int} {k c t : Int} {s : Store} {n : Nat} (hr : Row n r) (hn : n < 99999) (hc : 0 ≤ c) :
    ∃ r' c', Row (n + 1) r' ∧ 0 ≤ c' ∧ B_law_row_l1 [S, some (.ow (.lst (r.map D.int))), some (.sh (.int k)), some (.sh (.int c)), some (.sh (.int t)), x] s =
      .nx [S, some (.ow (.lst (r'.map D.int))), some (.sh (.int k)), some (.sh (.int c')), some (.sh (.int t)), x] s := by
  have hl := hr.1
  by_cases h : 0 < c
  · refine ⟨r ++ [c % 1009], c / 1009, hr.app (by omega) (by omega), by omega, ?_⟩
    simp (disch := first | omega | (simp; omega)) [B_law_row_l1, mod_pos, fdiv_small, mApp_one, h, List.getElem?_cons_zero]
  · exact ⟨r, c, hr.mono (by omega), hc, by simp [B_law_row_l1, h]⟩
theorem l2_ok {S c : Option Slot} {r : List Int} {k t m : Int} {s : Store} {n : Nat} (hr : Row n r) (hn : n < 99999) (hm : 0 ≤ m ∧ m < 2147483647) (ht : 0 ≤ t ∧ t < 1000) :
    ∃ r' m', Row (n + 1) r' ∧ (0 ≤ m' ∧ m' < 2147483647) ∧ B_law_row_l2 [S, some (.ow (.lst (r.map D.int))), some (.sh (.int k)), c, some (.sh (.int t)), some (.sh (.int m))] s =
      .nx [S, some (.ow (.lst (r'.map D.int))), some (.sh (.int k)), c, some (.sh (.int t)), some (.sh (.int m'))] s := by
  have hl := hr.1
  refine ⟨r ++ [(m * 16807 + 11 * t + 1) % 2147483647 / 7 % 1009], (m * 16807 + 11 * t + 1) % 2147483647, hr.app (by omega) (by omega), ⟨by omega, by omega⟩, ?_⟩
  simp (disch := first | omega | (simp; omega)) [B_law_row_l2, mul_small, mod_pos, fdiv_small, mApp_one, List.getElem?_cons_zero]

theorem for1 {S x y : Option Slot} {r : List Int} {k c : Int} {s : Store} {n : Nat} (hr : Row n r) (hn : n < 90000) (hc : 0 ≤ c) :
    ∃ r' c' y', Row (n + 40) r' ∧ forL (gN 4) B_law_row_l1 (upto 40 0) [S, some (.ow (.lst (r.map D.int))), some (.sh (.int k)), some (.sh (.int c)), y, x] s =
      .nx [S, some (.ow (.lst (r'.map D.int))), some (.sh (.int k)), some (.sh (.int c')), y', x] s := by
  obtain ⟨e', s', h1, r', c', y', h2, h3, rfl, rfl⟩ := forL_inv (g := gN 4) (B := B_law_row_l1) (fun j e s' => ∃ r' c' y', Row (n + j) r' ∧ 0 ≤ c' ∧ s' = s ∧ e = [S, some (.ow (.lst (r'.map D.int))), some (.sh (.int k)), some (.sh (.int c')), y', x]) (upto 40 0) 0
    (e := [S, some (.ow (.lst (r.map D.int))), some (.sh (.int k)), some (.sh (.int c)), y, x]) (s := s) ⟨r, c, y, hr, hc, rfl, rfl⟩ (by
      rintro i d e s' hi ⟨r', c', y', h2, h3, rfl, rfl⟩
      obtain ⟨hi, rfl⟩ := upto_at hi
      refine ⟨_, rfl, .inl ?_⟩
      obtain ⟨r2, c2, h4, h5, h6⟩ := l1_ok (S := S) (x := x) (k := k) (t := 0 + (i : Int)) (s := s') h2 (by omega) h3
      exact ⟨_, _, h6, r2, c2, _, h4.mono (by omega), h5, rfl, rfl⟩)
  exact ⟨r', c', y', h2.mono (by simp [upto_length]), h1⟩
theorem for2 {S c y : Option Slot} {r : List Int} {k m : Int} {s : Store} {n : Nat} (hr : Row n r) (hn : n < 90000) (hm : 0 ≤ m ∧ m < 2147483647) :
    ∃ r' m' y', Row (n + 6) r' ∧ forL (gN 4) B_law_row_l2 (upto 6 0) [S, some (.ow (.lst (r.map D.int))), some (.sh (.int k)), c, y, some (.sh (.int m))] s =
      .nx [S, some (.ow (.lst (r'.map D.int))), some (.sh (.int k)), c, y', some (.sh (.int m'))] s := by
  obtain ⟨e', s', h1, r', m', y', h2, h3, rfl, rfl⟩ := forL_inv (g := gN 4) (B := B_law_row_l2) (fun j e s' => ∃ r' m' y', Row (n + j) r' ∧ (0 ≤ m' ∧ m' < 2147483647) ∧ s' = s ∧ e = [S, some (.ow (.lst (r'.map D.int))), some (.sh (.int k)), c, y', some (.sh (.int m'))]) (upto 6 0) 0
    (e := [S, some (.ow (.lst (r.map D.int))), some (.sh (.int k)), c, y, some (.sh (.int m))]) (s := s) ⟨r, m, y, hr, hm, rfl, rfl⟩ (by
      rintro i d e s' hi ⟨r', c', y', h2, h3, rfl, rfl⟩
      obtain ⟨hi, rfl⟩ := upto_at hi
      refine ⟨_, rfl, .inl ?_⟩
      obtain ⟨r2, c2, h4, h5, h6⟩ := l2_ok (S := S) (c := c) (k := k) (t := 0 + (i : Int)) (s := s') h2 (by omega) h3 (by omega)
      exact ⟨_, _, h6, r2, c2, _, h4.mono (by omega), h5, rfl, rfl⟩)
  exact ⟨r', m', y', h2.mono (by simp [upto_length]), h1⟩
theorem pow18 : oPow (.int 10) (.int 18) = .v (.int 1000000000000000000) := rfl
theorem l3_ok {ns : List Int} {r : List Int} {k : Nat} {c y m : Option Slot} {s : Store} {n : Nat} (hr : Row n r) (hn : n < 80000) (hk : k < ns.length) (hl : ns.length ≤ 63) :
    ∃ r' c' y' m', Row (n + 40) r' ∧ B_law_row_l3 [some (.sh (.lst (ns.map D.int))), some (.ow (.lst (r.map D.int))), some (.sh (.int k)), c, y, m] s =
      .nx [some (.sh (.lst (ns.map D.int))), some (.ow (.lst (r'.map D.int))), some (.sh (.int k)), c', y', m'] s := by
  obtain ⟨v, hv⟩ : ∃ v, ns[k]? = some v := ⟨_, List.getElem?_eq_getElem hk⟩
  have hix : oIx (.lst (ns.map D.int)) (.int k) = .v (.int v) := oIx_at (by omega) (by simp; omega) (by simp [hv])
  have hc0 : (0 : Int) ≤ (if v < 0 then -v else v) := by split <;> omega
  obtain ⟨c0, ec⟩ : ∃ c0 : Int, c0 = (if v < 0 then -v else v) := ⟨_, rfl⟩
  by_cases h : (1000000000000000000 : Int) ≤ c0
  · obtain ⟨r', c', y', h1, h2⟩ := for1 (S := some (.sh (.lst (ns.map D.int)))) (x := m) (y := y) (k := k) (c := c0) (s := s) hr (by omega) (ec ▸ hc0)
    refine ⟨r', some (.sh (.int c')), y', m, h1, ?_⟩
    simp only [B_law_row_l3]
    simp (disch := first | omega | (simp; omega)) [hix, ← ec, pow18, h, List.getElem?_cons_zero]
    exact h2
  · have hb : c0 < 1000000000000000000 := by omega
    obtain ⟨r', m', y', h1, h2⟩ := for2 (S := some (.sh (.lst (ns.map D.int)))) (c := some (.sh (.int c0))) (y := y) (k := k) (m := (c0 * 48271 + k * 69621 + 12345) % 2147483647) (s := s) hr (by omega) (by omega)
    refine ⟨r', some (.sh (.int c0)), y', some (.sh (.int m')), h1.mono (by omega), ?_⟩
    simp only [B_law_row_l3]
    simp (disch := first | omega | (simp; omega)) [hix, ← ec, pow18, h, mul_small, mod_pos, List.getElem?_cons_zero]
    exact h2
theorem row_ok {ns : List Int} {s : Store} (hl : ns.length ≤ 63) : ∃ r, Row 2520 r ∧ F_law_row [.lst (ns.map D.int)] s = .ok (.ow (.lst (r.map D.int))) s := by
  obtain ⟨e', s', h1, r', k', c', y', m', h2, rfl, rfl⟩ := forL_inv (g := gN 2) (B := B_law_row_l3) (fun j e s' => ∃ r' k' c' y' m', Row (40 * j) r' ∧ s' = s ∧ e = [some (.sh (.lst (ns.map D.int))), some (.ow (.lst (r'.map D.int))), k', c', y', m']) (upto ns.length 0) 0
    (e := [some (.sh (.lst (ns.map D.int))), some (.ow (.lst (([] : List Int).map D.int))), none, none, none, none]) (s := s) ⟨[], _, _, _, _, ⟨Nat.zero_le _, fun x hx => by cases hx⟩, rfl, rfl⟩ (by
      rintro i d e s' hi ⟨r', k', c', y', m', h2, rfl, rfl⟩
      obtain ⟨hi2, rfl⟩ := upto_at hi
      refine ⟨_, rfl, .inl ?_⟩
      obtain ⟨r2, c2, y2, m2, h4, h6⟩ := l3_ok (c := c') (y := y') (m := m') (s := s') h2 (by omega) hi2 hl
      rw [Int.zero_add]
      exact ⟨_, _, h6, r2, _, _, _, _, h4.mono (by omega), rfl, rfl⟩)
  refine ⟨r', h2.mono (by rw [upto_length]; omega), ?_⟩
  rw [at_law_row]
  simp only [B_law_row]
  simp (disch := first | omega | (simp; omega)) [rngR_int, List.getElem?_cons_zero]
  simp only [List.map_nil] at h1
  rw [h1]
  simp

/-! ### the row's numbers -/
def atR (r : List Int) (i : Int) : Int := if 0 ≤ i ∧ i < r.length then r.getD i.toNat 0 else 0
theorem atR_in {n : Nat} {r : List Int} (h : Row n r) (i : Int) : 0 ≤ atR r i ∧ atR r i < 1009 := by
  unfold atR
  split
  · next q =>
    have hi : i.toNat < r.length := by omega
    have e : r.getD i.toNat 0 = r[i.toNat] := by simp [hi]
    rw [e]
    exact h.2 _ (List.getElem_mem hi)
  · omega
theorem at_ok {r : List Int} {i : Int} {s : Store} : F_law_at [.lst (r.map D.int), .int i] s = .ok (.sh (.int (atR r i))) s := by
  rw [at_law_at]
  unfold atR
  by_cases h : 0 ≤ i
  · by_cases h2 : i < r.length
    · have hi : i.toNat < r.length := by omega
      have e : oIx (.lst (r.map D.int)) (.int i) = .v (.int (r.getD i.toNat 0)) := oIx_at h (by simp; omega) (by simp [hi])
      simp [B_law_at, h, h2, e]
    · simp [B_law_at, h, h2]
  · simp [B_law_at, h]
/-! ### a register -/
def reg (a b c p : Int) : Ob := ⟨1, [.ow (.lst [.int a, .int b, .int c]), .sh (.int p)]⟩
def ST (a b c p : Int) : Store := ⟨[reg a b c p, reg 0 0 0 (-1)], false⟩
theorem check_ok {e : Int} {s : Store} (h0 : 0 ≤ e) (h1 : e < 3) : F_check_epoch [.int e] s = .ok (.sh .non) s := by
  rw [at_check_epoch]
  simp [B_check_epoch, show ¬ e < 0 by omega, show ¬ 3 ≤ e by omega]
theorem check_no {e : Int} {s : Store} (h : e < 0 ∨ 3 ≤ e) : F_check_epoch [.int e] s = .ex 1 s := by
  rw [at_check_epoch]
  by_cases h0 : e < 0
  · simp [B_check_epoch, h0]
  · simp [B_check_epoch, h0, show 3 ≤ e by omega]
/-- the count of an epoch -/
def cn (a b c e : Int) : Int := if e = 0 then a else if e = 1 then b else c
theorem ix3 {a b c e : Int} (h0 : 0 ≤ e) (h1 : e < 3) : oIx (.lst [.int a, .int b, .int c]) (.int e) = .v (.int (cn a b c e)) := by
  have : e = 0 ∨ e = 1 ∨ e = 2 := by omega
  rcases this with rfl | rfl | rfl <;> rfl
theorem getF0 {a b c p : Int} {l : Bool} : getF ⟨[reg a b c p, reg 0 0 0 (-1)], l⟩ 1 0 0 = some (.ow (.lst [.int a, .int b, .int c])) := rfl
theorem getF1 {a b c p : Int} {l : Bool} : getF ⟨[reg a b c p, reg 0 0 0 (-1)], l⟩ 1 0 1 = some (.sh (.int p)) := rfl
theorem getG0 {a b c p : Int} {l : Bool} : getF ⟨[reg a b c p, reg 0 0 0 (-1)], l⟩ 1 1 0 = some (.ow (.lst [.int 0, .int 0, .int 0])) := rfl
theorem count_ok {a b c p e : Int} (h0 : 0 ≤ e) (h1 : e < 3) : F_Register_count [.obj 0, .int e] (ST a b c p) = .ok (.sh (.int (cn a b c e))) (ST a b c p) := by
  rw [at_Register_count]
  simp [B_Register_count, check_ok h0 h1, ST, getF0, ix3 h0 h1]
theorem count_ok1 {a b c p e : Int} (h0 : 0 ≤ e) (h1 : e < 3) : F_Register_count [.obj 1, .int e] (ST a b c p) = .ok (.sh (.int (cn 0 0 0 e))) (ST a b c p) := by
  rw [at_Register_count]
  simp [B_Register_count, check_ok h0 h1, ST, getG0, ix3 h0 h1]
theorem count_no {k : Nat} {s : Store} {e : Int} (h : e < 0 ∨ 3 ≤ e) : F_Register_count [.obj k, .int e] s = .ex 1 s := by
  rw [at_Register_count]
  simp [B_Register_count, check_no h]
theorem supply_no {e : Int} {k : Nat} {s : Store} (h : e < -1) : F_Register_supply [.obj k, .int e] s = .ex 1 s := by
  rw [at_Register_supply]
  simp [B_Register_supply, h]
theorem putP {a b c p q : Int} : putO ⟨[reg a b c p, reg 0 0 0 (-1)], false⟩ 1 0 1 (.sh (.int q)) = some (ST a b c q) := rfl
theorem supply_ok {a b c p e : Int} (h : -1 ≤ e) : F_Register_supply [.obj 0, .int e] (ST a b c p) = .ok (.sh .non) (ST a b c e) := by
  rw [at_Register_supply]
  simp [B_Register_supply, show ¬ e < -1 by omega, ST, putP]

/-- counts behind a raise -/
def up (e n : Int) (k x : Int) : Int := if e = k then n else x
theorem set3 {a b c e n : Int} (h0 : 0 ≤ e) (h1 : e < 3) : mSetL (.lst [.int a, .int b, .int c]) (.int e) (.int n) = some (.lst [.int (up e n 0 a), .int (up e n 1 b), .int (up e n 2 c)]) := by
  have : e = 0 ∨ e = 1 ∨ e = 2 := by omega
  rcases this with rfl | rfl | rfl <;> rfl
theorem putC {a b c p a' b' c' : Int} {e : Env} : put (.fb 0 0 (.lst [.int a, .int b, .int c])) (.lst [.int a', .int b', .int c']) e ⟨[reg a b c p, reg 0 0 0 (-1)], false⟩ = .nx e (ST a' b' c' p) := rfl
theorem raise_out {e n : Int} {k : Nat} {s : Store} (h : e < 0 ∨ 3 ≤ e) : F_Register_raise_to [.obj k, .int e, .int n] s = .ex 1 s := by
  rw [at_Register_raise_to]
  simp [B_Register_raise_to, check_no h]
theorem raise_low {a b c p e n : Int} (h0 : 0 ≤ e) (h1 : e < 3) (h : n ≤ cn a b c e) : F_Register_raise_to [.obj 0, .int e, .int n] (ST a b c p) = .ex 1 (ST a b c p) := by
  rw [at_Register_raise_to]
  simp [B_Register_raise_to, check_ok h0 h1, ST, getF0, ix3 h0 h1, h]
theorem raise_down {a b c e n : Int} (h0 : 0 ≤ e) (h1 : e < 3) (h : ¬ n ≤ cn a b c e) : F_Register_raise_to [.obj 0, .int e, .int n] (ST a b c 0) = .ex 7 (ST a b c 0) := by
  rw [at_Register_raise_to]
  simp [B_Register_raise_to, check_ok h0 h1, ST, getF0, getF1, ix3 h0 h1, h]
theorem raise_ok {a b c p e n : Int} (h0 : 0 ≤ e) (h1 : e < 3) (h : ¬ n ≤ cn a b c e) (hp : p ≠ 0) :
    F_Register_raise_to [.obj 0, .int e, .int n] (ST a b c p) = .ok (.sh .non) (ST (up e n 0 a) (up e n 1 b) (up e n 2 c) (if 0 < p then p - 1 else p)) := by
  rw [at_Register_raise_to]
  by_cases q : 0 < p
  · simp [B_Register_raise_to, check_ok h0 h1, ST, getF0, getF1, ix3 h0 h1, h, hp, q, putP, set3 h0 h1, putC]
  · simp [B_Register_raise_to, check_ok h0 h1, ST, getF0, getF1, ix3 h0 h1, h, hp, q, set3 h0 h1, putC]

theorem e1 : oEq (.str "raise") (.str "raise") = .v (.bl true) := oEq_s (by decide +kernel)
theorem e2 : oEq (.str "supply") (.str "raise") = .v (.bl false) := oEq_s (by decide +kernel)
theorem e3 : oEq (.str "supply") (.str "supply") = .v (.bl true) := oEq_s (by decide +kernel)
theorem e4 : oEq (.str "count") (.str "raise") = .v (.bl false) := oEq_s (by decide +kernel)
theorem e5 : oEq (.str "count") (.str "supply") = .v (.bl false) := oEq_s (by decide +kernel)
theorem n1 : oNe (.str "not allowed") (.str "not allowed") = .v (.bl false) := oNe_s (by decide +kernel)
theorem n2 : oNe (.str "down") (.str "down") = .v (.bl false) := oNe_s (by decide +kernel)
theorem isC0 {a b c p : Int} : isC (ST a b c p) 1 0 = some () := rfl
theorem px {a b : D} : oIx (.lst [a, b]) (.int 1) = .v b := rfl
theorem told_sup_no {a b c p e : Int} (h : e < -1) : F_law_told [.obj 0, .str "supply", .int 0, .int e] (ST a b c p) = .ok (.sh (.str "not allowed")) (ST a b c p) := by
  rw [at_law_told]
  simp [B_law_told, B_law_told_t1, e2, e3, isC0, supply_no h, sub, px, mkL_ok]
theorem told_sup {a b c p e : Int} (h : -1 ≤ e) : F_law_told [.obj 0, .str "supply", .int 0, .int e] (ST a b c p) = .ok (.sh .non) (ST a b c e) := by
  rw [at_law_told]
  simp [B_law_told, B_law_told_t1, e2, e3, isC0, supply_ok h]
theorem told_count {a b c p e : Int} (h : e < 0 ∨ 3 ≤ e) : F_law_told [.obj 0, .str "count", .int e, .int 0] (ST a b c p) = .ok (.sh (.str "not allowed")) (ST a b c p) := by
  rw [at_law_told]
  simp [B_law_told, B_law_told_t1, e4, e5, isC0, count_no h, sub, px, mkL_ok]
theorem told_raise_no {a b c p e n : Int} (h : F_Register_raise_to [.obj 0, .int e, .int n] (ST a b c p) = .ex 1 (ST a b c p)) : F_law_told [.obj 0, .str "raise", .int e, .int n] (ST a b c p) = .ok (.sh (.str "not allowed")) (ST a b c p) := by
  rw [at_law_told]
  simp [B_law_told, B_law_told_t1, e1, isC0, h, sub, px, mkL_ok]
theorem told_raise_down {a b c p e n : Int} (h : F_Register_raise_to [.obj 0, .int e, .int n] (ST a b c p) = .ex 7 (ST a b c p)) : F_law_told [.obj 0, .str "raise", .int e, .int n] (ST a b c p) = .ok (.sh (.str "down")) (ST a b c p) := by
  rw [at_law_told]
  simp [B_law_told, B_law_told_t1, e1, isC0, h, sub, px, mkL_ok]
theorem told_raise {a b c p e n : Int} {s' : Store} (h : F_Register_raise_to [.obj 0, .int e, .int n] (ST a b c p) = .ok (.sh .non) s') : F_law_told [.obj 0, .str "raise", .int e, .int n] (ST a b c p) = .ok (.sh .non) s' := by
  rw [at_law_told]
  simp [B_law_told, B_law_told_t1, e1, isC0, h]

/-! ### the law's turns -/
def EN (S : Option Slot) (r : List Int) (a b c p : Int) (t : List (Option Slot)) : Env := S :: some (.sh (.lst (r.map D.int))) :: some (.sh (.obj 0)) :: some (.sh (.obj 1)) :: some (.ow (.lst [.int a, .int b, .int c])) :: some (.sh (.int p)) :: t
theorem cn0 {e : Int} : cn 0 0 0 e = 0 := by unfold cn; split <;> (try split) <;> rfl
theorem isC1 {a b c p : Int} : isC (ST a b c p) 1 1 = some () := rfl
theorem look_ok {S : Option Slot} {r : List Int} {a b c p q i : Int} {x6 x7 x8 x9 x10 x11 x12 : Option Slot} (h0 : 0 ≤ i) (h1 : i < 3) :
    B_law_l1 (EN S r a b c p [x6, x7, x8, x9, x10, x11, x12, some (.sh (.int i))]) (ST a b c q) = .nx (EN S r a b c p [x6, x7, x8, x9, x10, x11, x12, some (.sh (.int i))]) (ST a b c q) := by
  simp [B_law_l1, EN, isC0, isC1, count_ok h0 h1, count_ok1 h0 h1, ix3 h0 h1, cn0]
theorem for3 {S : Option Slot} {r : List Int} {a b c p q : Int} {x6 x7 x8 x9 x10 x11 x12 x13 : Option Slot} :
    forL (gN 13) B_law_l1 (upto 3 0) (EN S r a b c p [x6, x7, x8, x9, x10, x11, x12, x13]) (ST a b c q) = .nx (EN S r a b c p [x6, x7, x8, x9, x10, x11, x12, some (.sh (.int 2))]) (ST a b c q) := by
  show forL (gN 13) B_law_l1 [.int 0, .int (0 + 1), .int (0 + 1 + 1)] _ _ = _
  have e0 : ∀ (x : Option Slot) (i : Int), gN 13 (.int i) (EN S r a b c p [x6, x7, x8, x9, x10, x11, x12, x]) = some (EN S r a b c p [x6, x7, x8, x9, x10, x11, x12, some (.sh (.int i))]) := fun _ _ => rfl
  rw [forL_cons (e0 _ _), look_ok (by omega) (by omega)]
  show forL (gN 13) B_law_l1 _ _ _ = _
  rw [forL_cons (e0 _ _), look_ok (by omega) (by omega)]
  show forL (gN 13) B_law_l1 _ _ _ = _
  rw [forL_cons (e0 _ _), look_ok (by omega) (by omega)]
  rfl
/-- behind a turn's first half: its second half -/
def Half : SF := sSeq (sFor (gN 13) (itR1 (eC (.int 3))) B_law_l1)
  (sIf (tE (eOp2 oNe (eCall F_law_told (aCons (eV 2) (aCons (eC (.str "count")) (aCons (eOp2 oIx (eLst (aCons (eOp1 oNeg (eC (.int 1))) (aCons (eC (.int 3)) aNil))) (eOp2 oMod (eOpN oInt (bOne (eV 7))) (eC (.int 2)))) (aCons (eC (.int 0)) aNil))))) (eC (.str "not allowed")))) (sRet (eC (.bl false))) sPass)
theorem half_ok {S : Option Slot} {r : List Int} {a b c p q n : Int} {x6 x8 x9 x10 x11 x12 x13 : Option Slot} :
    Half (EN S r a b c p [x6, some (.sh (.int n)), x8, x9, x10, x11, x12, x13]) (ST a b c q) = .nx (EN S r a b c p [x6, some (.sh (.int n)), x8, x9, x10, x11, x12, some (.sh (.int 2))]) (ST a b c q) := by
  obtain ⟨e, he, hx⟩ : ∃ e : Int, (e < 0 ∨ 3 ≤ e) ∧ oIx (.lst [.int (-1), .int 3]) (.int (n % 2)) = .v (.int e) := by
    have : n % 2 = 0 ∨ n % 2 = 1 := by omega
    rcases this with h | h
    · exact ⟨-1, .inl (by omega), by rw [h]; rfl⟩
    · exact ⟨3, .inr (by omega), by rw [h]; rfl⟩
  simp only [Half]
  simp (disch := first | omega | (simp; omega)) [rngR_int]
  rw [for3]
  simp (disch := first | omega | (simp; omega) | simp) [EN, mod_pos, mkL_ok, hx, told_count he, n1, List.getElem?_cons_zero]

theorem ep_in (x : Int) : ∃ e : Int, (e = -1 ∨ e = 0 ∨ e = 1 ∨ e = 2 ∨ e = 3) ∧ oIx (.lst [.int 0, .int 1, .int 2, .int 0, .int 1, .int (-1), .int 3]) (.int (x % 7)) = .v (.int e) := by
  have : x % 7 = 0 ∨ x % 7 = 1 ∨ x % 7 = 2 ∨ x % 7 = 3 ∨ x % 7 = 4 ∨ x % 7 = 5 ∨ x % 7 = 6 := by omega
  rcases this with h | h | h | h | h | h | h <;> rw [h]
  · exact ⟨0, by omega, rfl⟩
  · exact ⟨1, by omega, rfl⟩
  · exact ⟨2, by omega, rfl⟩
  · exact ⟨0, by omega, rfl⟩
  · exact ⟨1, by omega, rfl⟩
  · exact ⟨-1, by omega, rfl⟩
  · exact ⟨3, by omega, rfl⟩
theorem su_in (x : Int) : ∃ e : Int, -2 ≤ e ∧ oIx (.lst [.int 0, .int 1, .int 2, .int (-1), .int (-2)]) (.int (x % 5)) = .v (.int e) := by
  have : x % 5 = 0 ∨ x % 5 = 1 ∨ x % 5 = 2 ∨ x % 5 = 3 ∨ x % 5 = 4 := by omega
  rcases this with h | h | h | h | h <;> rw [h]
  · exact ⟨0, by omega, rfl⟩
  · exact ⟨1, by omega, rfl⟩
  · exact ⟨2, by omega, rfl⟩
  · exact ⟨-1, by omega, rfl⟩
  · exact ⟨-2, by omega, rfl⟩
/-- what stands behind a turn -/
def Good (S : Option Slot) (r : List Int) (k : Int) (o : Out) : Prop := ∃ a b c p y7 y8 y9 y10 y11 y12 y13, -1 ≤ p ∧ o = .nx (EN S r a b c p [some (.sh (.int k)), y7, y8, y9, y10, y11, y12, y13]) (ST a b c p)
theorem half_good {S : Option Slot} {r : List Int} {a b c p n k : Int} {x8 x9 x10 x11 x12 x13 : Option Slot} (hp : -1 ≤ p) : Good S r k (Half (EN S r a b c p [some (.sh (.int k)), some (.sh (.int n)), x8, x9, x10, x11, x12, x13]) (ST a b c p)) :=
  ⟨a, b, c, p, _, _, _, _, _, _, _, hp, half_ok⟩
theorem turn_ok {S : Option Slot} {r : List Int} {n0 : Nat} (hr : Row n0 r) {a b c p k : Int} (hk : 0 ≤ k ∧ k < 100) (hp : -1 ≤ p) {x7 x8 x9 x10 x11 x12 x13 : Option Slot} :
    Good S r k (B_law_l2 (EN S r a b c p [some (.sh (.int k)), x7, x8, x9, x10, x11, x12, x13]) (ST a b c p)) := by
  obtain ⟨N, hN⟩ : ∃ N, N = atR r (1 + 2 * k) := ⟨_, rfl⟩
  obtain ⟨X, hX⟩ : ∃ X, X = atR r (2 + 2 * k) := ⟨_, rfl⟩
  have bN := atR_in hr (1 + 2 * k)
  have bX := atR_in hr (2 + 2 * k)
  rw [← hN] at bN
  rw [← hX] at bX
  obtain ⟨e, he, hE⟩ := ep_in X
  obtain ⟨z, hz, hZ⟩ := su_in (X / 7)
  have eq : B_law_l2 = sSeq _ (sSeq _ (sSeq _ (sSeq _ Half))) := rfl
  rw [eq]
  by_cases h5 : N % 5 = 0
  · by_cases hzz : z < -1
    · simp (disch := first | omega | (simp; omega) | simp) [EN, at_ok, mul_small, mod_pos, fdiv_small, mkL_ok, hE, hZ, ← hN, ← hX, h5, hzz, told_sup_no, n1, List.getElem?_cons_zero]
      exact half_good hp
    · simp (disch := first | omega | (simp; omega) | simp) [EN, at_ok, mul_small, mod_pos, fdiv_small, mkL_ok, hE, hZ, ← hN, ← hX, h5, hzz, told_sup (show -1 ≤ z by omega), n1, List.getElem?_cons_zero]
      exact half_good (by omega)
  · obtain ⟨m, hm⟩ : ∃ m, m = X / 7 % 9 := ⟨_, rfl⟩
    by_cases h1 : 0 ≤ e ∧ e ≤ 2
    · have i3 := ix3 (a := a) (b := b) (c := c) (e := e) h1.1 (by omega)
      by_cases h2 : m ≤ cn a b c e
      · have T := told_raise_no (raise_low (p := p) h1.1 (by omega) h2)
        simp (disch := first | omega | (simp; omega) | simp) [EN, at_ok, mul_small, mod_pos, fdiv_small, mkL_ok, hE, hZ, ← hN, ← hX, h5, ← hm, h1.1, h1.2, i3, h2, T, n1, List.getElem?_cons_zero]
        exact half_good hp
      · by_cases h3 : p = 0
        · subst h3
          have T := told_raise_down (raise_down h1.1 (by omega) h2)
          simp (disch := first | omega | (simp; omega) | simp) [EN, at_ok, mul_small, mod_pos, fdiv_small, mkL_ok, hE, hZ, ← hN, ← hX, h5, ← hm, h1.1, h1.2, i3, h2, T, n2, List.getElem?_cons_zero]
          exact half_good hp
        · have T := told_raise (raise_ok (p := p) h1.1 (by omega) h2 h3)
          have s3 := set3 (a := a) (b := b) (c := c) (n := m) h1.1 (by omega)
          have ep : p - (if 0 < p then 1 else 0) = if 0 < p then p - 1 else p := by split <;> omega
          simp (disch := first | omega | (simp; omega) | simp) [EN, at_ok, mul_small, mod_pos, fdiv_small, mkL_ok, hE, hZ, ← hN, ← hX, h5, ← hm, h1.1, h1.2, i3, h2, h3, T, s3, ep, List.getElem?_cons_zero]
          exact half_good (by split <;> omega)
    · have T := told_raise_no (a := a) (b := b) (c := c) (p := p) (raise_out (k := 0) (n := m) (e := e) (by omega))
      by_cases h2 : 0 ≤ e
      · simp (disch := first | omega | (simp; omega) | simp) [EN, at_ok, mul_small, mod_pos, fdiv_small, mkL_ok, hE, hZ, ← hN, ← hX, h5, ← hm, h2, show ¬ e ≤ 2 by omega, T, n1, List.getElem?_cons_zero]
        exact half_good hp
      · simp (disch := first | omega | (simp; omega) | simp) [EN, at_ok, mul_small, mod_pos, fdiv_small, mkL_ok, hE, hZ, ← hN, ← hX, h5, ← hm, h2, T, n1, List.getElem?_cons_zero]
        exact half_good hp
theorem init0 : F_Register_init [.obj 0] ⟨[⟨1, []⟩], false⟩ = .ok (.sh .non) ⟨[reg 0 0 0 (-1)], false⟩ := by rfl
theorem init1 : F_Register_init [.obj 1] ⟨[reg 0 0 0 (-1), ⟨1, []⟩], false⟩ = .ok (.sh .non) (ST 0 0 0 (-1)) := by rfl
theorem law_ok : ∀ ns : List Int, ns.length ≤ 63 → ∃ st', F_law [.lst (ns.map D.int)] ⟨[], false⟩ = .ok (.sh (.bl true)) st' := by
  intro ns hl
  obtain ⟨r, hr, hrow⟩ := row_ok (s := ⟨[], false⟩) hl
  have b0 := atR_in hr 0
  obtain ⟨m, hm⟩ : ∃ m, m = atR r 0 % 26 := ⟨_, rfl⟩
  obtain ⟨e', s', hf, a, b, c, p, y6, y7, y8, y9, y10, y11, y12, y13, hp, rfl, rfl⟩ := forL_inv (g := gN 6) (B := B_law_l2) (fun _ e s => ∃ a b c p y6 y7 y8 y9 y10 y11 y12 y13, -1 ≤ p ∧ e = EN (some (.sh (.lst (ns.map D.int)))) r a b c p [y6, y7, y8, y9, y10, y11, y12, y13] ∧ s = ST a b c p) (upto m.toNat 0) 0
    (e := EN (some (.sh (.lst (ns.map D.int)))) r 0 0 0 (-1) [none, none, none, none, none, none, none, none]) (s := ST 0 0 0 (-1)) ⟨0, 0, 0, -1, _, _, _, _, _, _, _, _, by omega, rfl, rfl⟩ (by
      rintro i d e s hi ⟨a, b, c, p, y6, y7, y8, y9, y10, y11, y12, y13, hp, rfl, rfl⟩
      obtain ⟨hi2, rfl⟩ := upto_at hi
      refine ⟨_, rfl, .inl ?_⟩
      obtain ⟨a', b', c', p', z7, z8, z9, z10, z11, z12, z13, hp', h⟩ := turn_ok (S := some (.sh (.lst (ns.map D.int)))) hr (a := a) (b := b) (c := c) (p := p) (k := 0 + (i : Int)) (by omega) hp (x7 := y7) (x8 := y8) (x9 := y9) (x10 := y10) (x11 := y11) (x12 := y12) (x13 := y13)
      exact ⟨_, _, h, a', b', c', p', _, z7, z8, z9, z10, z11, z12, z13, hp', rfl, rfl⟩)
  refine ⟨ST a b c p, ?_⟩
  rw [at_law]
  simp only [B_law]
  simp (disch := first | omega | (simp; omega) | simp) [hrow, at_ok, mkL_ok, mod_pos, init0, init1, ← hm, rngR_int, List.getElem?_cons_zero]
  simp only [EN] at hf
  rw [hf]
  simp
end K56

/-! k56_registers: each def's text computes that (printed by gen.py). -/
namespace K56
open PySem L2 Pz
def top (i : Nat) : Stmt := PySem.Challenge.pw_cloak_k56_registers.main.body.getD i (.Pass ⟨0, 0, 0, 0⟩)
abbrev s_law_row : Stmt := top 9
abbrev s_Register_init : Stmt := inClass (top 7) 0
abbrev s_law_at : Stmt := top 10
abbrev s_check_epoch : Stmt := top 6
abbrev s_Register_raise_to : Stmt := inClass (top 7) 2
abbrev s_Register_supply : Stmt := inClass (top 7) 3
abbrev s_Register_count : Stmt := inClass (top 7) 1
abbrev s_law_told : Stmt := top 11
abbrev s_law : Stmt := top 12
def cnm (c : Nat) : Str := match c with
  | 1 => "Register"
  | _ => ""
def fnm (c : Nat) : List Str := match c with
  | 1 => ["_counts", "_power"]
  | _ => []
def enm (c : Nat) : Str := match c with
  | 1 => "NotAllowed"
  | 7 => "Down"
  | _ => "CloakError"
def TT (K : PySem.W.Frag) : CT := ⟨fun c => He.ga K (cnm c), fnm, fun c => .ref (He.ga K (enm c))⟩
abbrev dd_law_row : He.DefD := ⟨("_law_row", none), "_law_row", "_law_row", defArgs s_law_row, defBody s_law_row, defScope s_law_row, [], []⟩
abbrev dd_Register_init : He.DefD := ⟨("Register", some "__init__"), "__init__", "Register.__init__", defArgs s_Register_init, defBody s_Register_init, defScope s_Register_init, [], []⟩
abbrev dd_law_at : He.DefD := ⟨("_law_at", none), "_law_at", "_law_at", defArgs s_law_at, defBody s_law_at, defScope s_law_at, [], []⟩
abbrev dd_check_epoch : He.DefD := ⟨("check_epoch", none), "check_epoch", "check_epoch", defArgs s_check_epoch, defBody s_check_epoch, defScope s_check_epoch, [], []⟩
abbrev dd_Register_raise_to : He.DefD := ⟨("Register", some "raise_to"), "raise_to", "Register.raise_to", defArgs s_Register_raise_to, defBody s_Register_raise_to, defScope s_Register_raise_to, [], []⟩
abbrev dd_Register_supply : He.DefD := ⟨("Register", some "supply"), "supply", "Register.supply", defArgs s_Register_supply, defBody s_Register_supply, defScope s_Register_supply, [], []⟩
abbrev dd_Register_count : He.DefD := ⟨("Register", some "count"), "count", "Register.count", defArgs s_Register_count, defBody s_Register_count, defScope s_Register_count, [], []⟩
abbrev dd_law_told : He.DefD := ⟨("_law_told", none), "_law_told", "_law_told", defArgs s_law_told, defBody s_law_told, defScope s_law_told, [], []⟩
abbrev dd_law : He.DefD := ⟨("law", none), "law", "law", defArgs s_law, defBody s_law, defScope s_law, [], []⟩
def fn0 : List He.DefD := [dd_law_row,
  dd_Register_init,
  dd_law_at,
  dd_check_epoch,
  dd_Register_raise_to,
  dd_Register_supply,
  dd_Register_count,
  dd_law_told,
  dd_law]
def fn : List He.DefD := fn0
def fa0 : List Fx := [.he (.free "range"),
  .he (.free "len"),
  .he (.free "abs"),
  .he (.free "int"),
  .he (.glo "_law_row"),
  .he (.int "EPOCHS" (3)),
  .he (.cls "Register"),
  .he (.noat "Register" "_counts"),
  .he (.noat "Register" "_power"),
  .he (.glo "Register"),
  .he (.mkr "Register"),
  .he (.glo "_law_at"),
  .he (.exc "NotAllowed"),
  .he (.glo "NotAllowed"),
  .he (.glo "check_epoch"),
  .he (.exc "Down"),
  .he (.glo "Down"),
  .he (.meth "Register" "raise_to"),
  .he (.meth "Register" "supply"),
  .he (.meth "Register" "count"),
  .he (.glo "CloakError"),
  .he (.free "isinstance"),
  .he (.glo "_law_told"),
  .he (.glo "law"),
  .he (.exm "NotAllowed" "NotAllowed" true),
  .he (.exm "Down" "NotAllowed" false),
  .he (.exm "CloakError" "NotAllowed" false),
  .he (.exm "NotAllowed" "Down" false),
  .he (.exm "Down" "Down" true),
  .he (.exm "CloakError" "Down" false)]
def fa1 : List Fx := [.isi "NotAllowed" "CloakError" true,
  .isi "Down" "CloakError" true,
  .isi "CloakError" "CloakError" true,
  .isi "NotAllowed" "NotAllowed" true,
  .isi "Down" "NotAllowed" false,
  .isi "CloakError" "NotAllowed" false,
  .isi "NotAllowed" "Down" false,
  .isi "Down" "Down" true,
  .isi "CloakError" "Down" false,
  .excC "CloakError",
  .excC "NotAllowed",
  .excC "Down"]
def fa : List Fx := fa0 ++ fa1
theorem fz_1 : (fnm 1).length < 1000 := by decide
theorem cla_1 {K : PySem.W.Frag} {mg : Str → Option Value} (t : Tx fa fn K mg) : ClA K (TT K) 1 := ⟨t.cls 6, fun n h => by
  simp only [TT, fnm, List.mem_cons, List.mem_nil_iff, or_false] at h
  rcases h with rfl | rfl
  · exact t.noat 7
  · exact t.noat 8, by show (fnm 1).Nodup; decide⟩
theorem hx_1 {K : PySem.W.Frag} {mg : Str → Option Value} (t : Tx fa fn K mg) (c : Nat) : PySem.W.exmOne K ((TT K).err c) ((TT K).err 1) = some (sub c 1) := by
  match c with
  | 1 => exact t.exm 24
  | 7 => exact t.exm 25
  | 0 => exact t.exm 26
  | 2 => exact t.exm 26
  | 3 => exact t.exm 26
  | 4 => exact t.exm 26
  | 5 => exact t.exm 26
  | 6 => exact t.exm 26
  | n + 8 => exact (t.exm 26).trans (congrArg some (by simp [sub]))
theorem hx_7 {K : PySem.W.Frag} {mg : Str → Option Value} (t : Tx fa fn K mg) (c : Nat) : PySem.W.exmOne K ((TT K).err c) ((TT K).err 7) = some (sub c 7) := by
  match c with
  | 1 => exact t.exm 27
  | 7 => exact t.exm 28
  | 0 => exact t.exm 29
  | 2 => exact t.exm 29
  | 3 => exact t.exm 29
  | 4 => exact t.exm 29
  | 5 => exact t.exm 29
  | 6 => exact t.exm 29
  | n + 8 => exact (t.exm 29).trans (congrArg some (by simp [sub]))
theorem isi_0 {K : PySem.W.Frag} {mg : Str → Option Value} (t : Tx fa fn K mg) (c : Nat) : PySem.W.kitOne K (.ref (He.ga K (enm c))) (.ref (He.ga K "CloakError")) = some (sub c 0) := by
  match c with
  | 1 => exact t.isi 30
  | 7 => exact t.isi 31
  | 0 => exact t.isi 32
  | 2 => exact t.isi 32
  | 3 => exact t.isi 32
  | 4 => exact t.isi 32
  | 5 => exact t.isi 32
  | 6 => exact t.isi 32
  | n + 8 => exact (t.isi 32).trans (congrArg some (by simp [sub]))
theorem isi_1 {K : PySem.W.Frag} {mg : Str → Option Value} (t : Tx fa fn K mg) (c : Nat) : PySem.W.kitOne K (.ref (He.ga K (enm c))) (.ref (He.ga K "NotAllowed")) = some (sub c 1) := by
  match c with
  | 1 => exact t.isi 33
  | 7 => exact t.isi 34
  | 0 => exact t.isi 35
  | 2 => exact t.isi 35
  | 3 => exact t.isi 35
  | 4 => exact t.isi 35
  | 5 => exact t.isi 35
  | 6 => exact t.isi 35
  | n + 8 => exact (t.isi 35).trans (congrArg some (by simp [sub]))
theorem isi_7 {K : PySem.W.Frag} {mg : Str → Option Value} (t : Tx fa fn K mg) (c : Nat) : PySem.W.kitOne K (.ref (He.ga K (enm c))) (.ref (He.ga K "Down")) = some (sub c 7) := by
  match c with
  | 1 => exact t.isi 36
  | 7 => exact t.isi 37
  | 0 => exact t.isi 38
  | 2 => exact t.isi 38
  | 3 => exact t.isi 38
  | 4 => exact t.isi 38
  | 5 => exact t.isi 38
  | 6 => exact t.isi 38
  | n + 8 => exact (t.isi 38).trans (congrArg some (by simp [sub]))
theorem excC_of {K : PySem.W.Frag} {mg : Str → Option Value} (t : Tx fa fn K mg) (c : Nat) : ExcC K (He.ga K (enm c)) := by
  unfold enm
  split
  · exact t.excC 40
  · exact t.excC 41
  · exact t.excC 39
abbrev N_law_row : List Str := ["_law_script", "_law_row_here", "_law_k", "_law_cell", "_law_turn", "_law_mixed"]
abbrev p_law_row : List Str := ["_law_script"]
theorem sc_law_row : FnScope N_law_row p_law_row (defScope s_law_row) := ⟨rfl, rfl, rfl, by decide +kernel, rfl, by decide +kernel, by decide +kernel⟩
theorem cal_law_row {K : PySem.W.Frag} {mg : Str → Option Value} {P : Program} {w : World} (t : Tx fa fn K mg) : Cal P w K mg (TT K) 1 (He.fAd K ("_law_row", none)) p_law_row F_law_row :=
  cal_of (P := P) (w := w) (mg := mg) (T := TT K) (k := 0) t.c 0 (d := dd_law_row) (N := N_law_row) (ps := p_law_row) (B := B_law_row) sc_law_row 1 6 rfl rfl (fun _ _ _ _ _ _ us hl => match us, hl with | [_], _ => rfl) fun base cdv A outer s H E hr =>
  have tk := L2N.takes_of (X := cxOf (L2N.CX P w) P w K mg base N_law_row "_law_row" (defScope s_law_row) (He.fAd K ("_law_row", none)) cdv A outer s H E) (E := E) rfl rfl rfl rfl
  have hp : PassesOwn (model P w) (cxOf (L2N.CX P w) P w K mg base N_law_row "_law_row" (defScope s_law_row) (He.fAd K ("_law_row", none)) cdv A outer s H E).A _ (cxOf (L2N.CX P w) P w K mg base N_law_row "_law_row" (defScope s_law_row) (He.fAd K ("_law_row", none)) cdv A outer s H E).xe := PassesOwn.leaving
  (js_seq (js_asg (i := 1) sc_law_row.nd (je_lst ja_nil))
  (js_seq (js_for hp rfl (ji_range1 (je_callB ok_len (t.free 1) rfl (jb_one (je_V 0))) (t.free 0)) (jg_name (i := 2) sc_law_row.nd) (js_seq (js_asgF (i := 3) sc_law_row.nd (je_callB ok_abs (t.free 2) rfl (jb_one (je_callTy ok_int (t.free 3) rfl (jb_one (je_ix (je_V 0) (je_V 2)))))))
  (js_one (js_if (jt_cmp ok_ge (je_V 3) (je_bin ok_pow je_int je_int)) (js_one (js_for hp rfl (ji_range1 je_int (t.free 0)) (jg_name (i := 4) sc_law_row.nd) (js_one (js_if (jt_cmp ok_gt (je_V 3) je_int) (js_seq (js_app (je_V 1) (ja_cons (je_bin ok_mod (je_callTy ok_int (t.free 3) rfl (jb_one (je_V 3))) je_int) ja_nil))
  (js_one (js_asgF (i := 3) sc_law_row.nd (je_bin ok_fdiv (je_V 3) je_int)))) js_nil)))) (js_seq (js_asgF (i := 5) sc_law_row.nd (je_bin ok_mod (je_callTy ok_int (t.free 3) rfl (jb_one (je_bin ok_add (je_bin ok_add (je_bin ok_mul (je_V 3) je_int) (je_bin ok_mul (je_V 2) je_int)) je_int))) je_int))
  (js_one (js_for hp rfl (ji_range1 je_int (t.free 0)) (jg_name (i := 4) sc_law_row.nd) (js_seq (js_asgF (i := 5) sc_law_row.nd (je_bin ok_mod (je_callTy ok_int (t.free 3) rfl (jb_one (je_bin ok_add (je_bin ok_add (je_bin ok_mul (je_V 5) je_int) (je_bin ok_mul je_int (je_V 4))) je_int))) je_int))
  (js_one (js_app (je_V 1) (ja_cons (je_bin ok_mod (je_callTy ok_int (t.free 3) rfl (jb_one (je_bin ok_fdiv (je_V 5) je_int))) je_int) ja_nil)))))))))))
  (js_one (js_retV 1))))
abbrev N_Register_init : List Str := ["self", "_"]
abbrev p_Register_init : List Str := ["self"]
theorem sc_Register_init : FnScope N_Register_init p_Register_init (defScope s_Register_init) := ⟨rfl, rfl, rfl, by decide +kernel, rfl, by decide +kernel, by decide +kernel⟩
theorem cal_Register_init {K : PySem.W.Frag} {mg : Str → Option Value} {P : Program} {w : World} (t : Tx fa fn K mg) : Cal P w K mg (TT K) 1 (He.fAd K ("Register", some "__init__")) p_Register_init F_Register_init :=
  cal_of (P := P) (w := w) (mg := mg) (T := TT K) (k := 0) t.c 1 (d := dd_Register_init) (N := N_Register_init) (ps := p_Register_init) (B := B_Register_init) sc_Register_init 1 2 rfl rfl (fun _ _ _ _ _ _ us hl => match us, hl with | [_], _ => rfl) fun base cdv A outer s H E hr =>
  have tk := L2N.takes_of (X := cxOf (L2N.CX P w) P w K mg base N_Register_init "Register.__init__" (defScope s_Register_init) (He.fAd K ("Register", some "__init__")) cdv A outer s H E) (E := E) rfl rfl rfl rfl
  have hp : PassesOwn (model P w) (cxOf (L2N.CX P w) P w K mg base N_Register_init "Register.__init__" (defScope s_Register_init) (He.fAd K ("Register", some "__init__")) cdv A outer s H E).A _ (cxOf (L2N.CX P w) P w K mg base N_Register_init "Register.__init__" (defScope s_Register_init) (He.fAd K ("Register", some "__init__")) cdv A outer s H E).xe := PassesOwn.leaving
  (js_seq (js_fld (f := 0) (hz := fz_1) (cla_1 t).ok (je_V 0) (je_lc (Tg.nm 1) rfl sc_Register_init.nd (own := [("_", 1)]) (ji_range1 (j_gI (t.int 5)) (t.free 0)) (by show BlkOk N_Register_init (defScope s_Register_init) _ _; exact ⟨rfl, by decide +kernel, by decide +kernel, by decide +kernel, by decide +kernel⟩) (by decide) (by show ∀ i ∈ _, i < N_Register_init.length; decide) (fun _ _ _ _ _ => (jt_nm sc_Register_init.nd)) (fun _ _ _ _ _ => pts_no) (fun _ _ _ _ _ => je_int)))
  (js_one (js_fld (f := 1) (hz := fz_1) (cla_1 t).ok (je_V 0) (je_un ok_neg je_int))))
abbrev N_law_at : List Str := ["_law_row_here", "_law_at_here"]
abbrev p_law_at : List Str := ["_law_row_here", "_law_at_here"]
theorem sc_law_at : FnScope N_law_at p_law_at (defScope s_law_at) := ⟨rfl, rfl, rfl, by decide +kernel, rfl, by decide +kernel, by decide +kernel⟩
theorem cal_law_at {K : PySem.W.Frag} {mg : Str → Option Value} {P : Program} {w : World} (t : Tx fa fn K mg) : Cal P w K mg (TT K) 1 (He.fAd K ("_law_at", none)) p_law_at F_law_at :=
  cal_of (P := P) (w := w) (mg := mg) (T := TT K) (k := 0) t.c 2 (d := dd_law_at) (N := N_law_at) (ps := p_law_at) (B := B_law_at) sc_law_at 2 2 rfl rfl (fun _ _ _ _ _ _ us hl => match us, hl with | [_, _], _ => rfl) fun base cdv A outer s H E hr =>
  have tk := L2N.takes_of (X := cxOf (L2N.CX P w) P w K mg base N_law_at "_law_at" (defScope s_law_at) (He.fAd K ("_law_at", none)) cdv A outer s H E) (E := E) rfl rfl rfl rfl
  have hp : PassesOwn (model P w) (cxOf (L2N.CX P w) P w K mg base N_law_at "_law_at" (defScope s_law_at) (He.fAd K ("_law_at", none)) cdv A outer s H E).A _ (cxOf (L2N.CX P w) P w K mg base N_law_at "_law_at" (defScope s_law_at) (He.fAd K ("_law_at", none)) cdv A outer s H E).xe := PassesOwn.leaving
  (js_seq (js_if (jt_chain ok_le ok_lt je_int (je_V 1) (je_callB ok_len (t.free 1) rfl (jb_one (je_V 0)))) (js_one (js_ret (je_ix (je_V 0) (je_V 1)))) js_nil)
  (js_one (js_ret je_int)))
abbrev N_check_epoch : List Str := ["epoch"]
abbrev p_check_epoch : List Str := ["epoch"]
theorem sc_check_epoch : FnScope N_check_epoch p_check_epoch (defScope s_check_epoch) := ⟨rfl, rfl, rfl, by decide +kernel, rfl, by decide +kernel, by decide +kernel⟩
theorem cal_check_epoch {K : PySem.W.Frag} {mg : Str → Option Value} {P : Program} {w : World} (t : Tx fa fn K mg) : Cal P w K mg (TT K) 1 (He.fAd K ("check_epoch", none)) p_check_epoch F_check_epoch :=
  cal_of (P := P) (w := w) (mg := mg) (T := TT K) (k := 0) t.c 3 (d := dd_check_epoch) (N := N_check_epoch) (ps := p_check_epoch) (B := B_check_epoch) sc_check_epoch 1 1 rfl rfl (fun _ _ _ _ _ _ us hl => match us, hl with | [_], _ => rfl) fun base cdv A outer s H E hr =>
  have tk := L2N.takes_of (X := cxOf (L2N.CX P w) P w K mg base N_check_epoch "check_epoch" (defScope s_check_epoch) (He.fAd K ("check_epoch", none)) cdv A outer s H E) (E := E) rfl rfl rfl rfl
  have hp : PassesOwn (model P w) (cxOf (L2N.CX P w) P w K mg base N_check_epoch "check_epoch" (defScope s_check_epoch) (He.fAd K ("check_epoch", none)) cdv A outer s H E).A _ (cxOf (L2N.CX P w) P w K mg base N_check_epoch "check_epoch" (defScope s_check_epoch) (He.fAd K ("check_epoch", none)) cdv A outer s H E).xe := PassesOwn.leaving
  (js_one (js_if (jt_w (jw_or (jt_cmp ok_lt (je_V 0) je_int) (jw_or1 (jt_cmp ok_ge (je_V 0) (j_gI (t.int 5)))))) (js_one (j_raise 1 tk (t.exc 12) (t.glo 13) rfl)) js_nil))
abbrev N_Register_raise_to : List Str := ["self", "epoch", "count"]
abbrev p_Register_raise_to : List Str := ["self", "epoch", "count"]
theorem sc_Register_raise_to : FnScope N_Register_raise_to p_Register_raise_to (defScope s_Register_raise_to) := ⟨rfl, rfl, rfl, by decide +kernel, rfl, by decide +kernel, by decide +kernel⟩
theorem cal_Register_raise_to {K : PySem.W.Frag} {mg : Str → Option Value} {P : Program} {w : World} (t : Tx fa fn K mg) : Cal P w K mg (TT K) 2 (He.fAd K ("Register", some "raise_to")) p_Register_raise_to F_Register_raise_to :=
  cal_of (P := P) (w := w) (mg := mg) (T := TT K) (k := 1) t.c 4 (d := dd_Register_raise_to) (N := N_Register_raise_to) (ps := p_Register_raise_to) (B := B_Register_raise_to) sc_Register_raise_to 3 3 rfl rfl (fun _ _ _ _ _ _ us hl => match us, hl with | [_, _, _], _ => rfl) fun base cdv A outer s H E hr =>
  have tk := L2N.takes_of (X := cxOf (L2N.CX P w) P w K mg base N_Register_raise_to "Register.raise_to" (defScope s_Register_raise_to) (He.fAd K ("Register", some "raise_to")) cdv A outer s H E) (E := E) rfl rfl rfl rfl
  have hp : PassesOwn (model P w) (cxOf (L2N.CX P w) P w K mg base N_Register_raise_to "Register.raise_to" (defScope s_Register_raise_to) (He.fAd K ("Register", some "raise_to")) cdv A outer s H E).A _ (cxOf (L2N.CX P w) P w K mg base N_Register_raise_to "Register.raise_to" (defScope s_Register_raise_to) (He.fAd K ("Register", some "raise_to")) cdv A outer s H E).xe := PassesOwn.leaving
  (js_seq (js_expr (j_call (cal_check_epoch t) (hr.mono (by decide)) (t.glo 14) tk (ja_cons (je_V 1) ja_nil)))
  (js_seq (js_if (jt_cmp ok_le (je_V 2) (je_ix (je_F (f := 0) (cla_1 t).ok (je_V 0)) (je_V 1))) (js_one (j_raise 1 tk (t.exc 12) (t.glo 13) rfl)) js_nil)
  (js_seq (js_if (jt_cmp (ok_eq hr.units) (je_F (f := 1) (cla_1 t).ok (je_V 0)) je_int) (js_one (j_raise 7 tk (t.exc 15) (t.glo 16) rfl)) js_nil)
  (js_seq (js_if (jt_cmp ok_gt (je_F (f := 1) (cla_1 t).ok (je_V 0)) je_int) (js_one (j_fldAug (f := 1) (cla_1 t).ok ip_sub (je_V 0) je_int fz_1)) js_nil)
  (js_one (js_setL (je_V 2) (je_F (f := 0) (cla_1 t).ok (je_V 0)) (je_V 1)))))))
abbrev N_Register_supply : List Str := ["self", "raises"]
abbrev p_Register_supply : List Str := ["self", "raises"]
theorem sc_Register_supply : FnScope N_Register_supply p_Register_supply (defScope s_Register_supply) := ⟨rfl, rfl, rfl, by decide +kernel, rfl, by decide +kernel, by decide +kernel⟩
theorem cal_Register_supply {K : PySem.W.Frag} {mg : Str → Option Value} {P : Program} {w : World} (t : Tx fa fn K mg) : Cal P w K mg (TT K) 1 (He.fAd K ("Register", some "supply")) p_Register_supply F_Register_supply :=
  cal_of (P := P) (w := w) (mg := mg) (T := TT K) (k := 0) t.c 5 (d := dd_Register_supply) (N := N_Register_supply) (ps := p_Register_supply) (B := B_Register_supply) sc_Register_supply 2 2 rfl rfl (fun _ _ _ _ _ _ us hl => match us, hl with | [_, _], _ => rfl) fun base cdv A outer s H E hr =>
  have tk := L2N.takes_of (X := cxOf (L2N.CX P w) P w K mg base N_Register_supply "Register.supply" (defScope s_Register_supply) (He.fAd K ("Register", some "supply")) cdv A outer s H E) (E := E) rfl rfl rfl rfl
  have hp : PassesOwn (model P w) (cxOf (L2N.CX P w) P w K mg base N_Register_supply "Register.supply" (defScope s_Register_supply) (He.fAd K ("Register", some "supply")) cdv A outer s H E).A _ (cxOf (L2N.CX P w) P w K mg base N_Register_supply "Register.supply" (defScope s_Register_supply) (He.fAd K ("Register", some "supply")) cdv A outer s H E).xe := PassesOwn.leaving
  (js_seq (js_if (jt_cmp ok_lt (je_V 1) (je_un ok_neg je_int)) (js_one (j_raise 1 tk (t.exc 12) (t.glo 13) rfl)) js_nil)
  (js_one (js_fld (f := 1) (hz := fz_1) (cla_1 t).ok (je_V 0) (je_V 1))))
abbrev N_Register_count : List Str := ["self", "epoch"]
abbrev p_Register_count : List Str := ["self", "epoch"]
theorem sc_Register_count : FnScope N_Register_count p_Register_count (defScope s_Register_count) := ⟨rfl, rfl, rfl, by decide +kernel, rfl, by decide +kernel, by decide +kernel⟩
theorem cal_Register_count {K : PySem.W.Frag} {mg : Str → Option Value} {P : Program} {w : World} (t : Tx fa fn K mg) : Cal P w K mg (TT K) 2 (He.fAd K ("Register", some "count")) p_Register_count F_Register_count :=
  cal_of (P := P) (w := w) (mg := mg) (T := TT K) (k := 1) t.c 6 (d := dd_Register_count) (N := N_Register_count) (ps := p_Register_count) (B := B_Register_count) sc_Register_count 2 2 rfl rfl (fun _ _ _ _ _ _ us hl => match us, hl with | [_, _], _ => rfl) fun base cdv A outer s H E hr =>
  have tk := L2N.takes_of (X := cxOf (L2N.CX P w) P w K mg base N_Register_count "Register.count" (defScope s_Register_count) (He.fAd K ("Register", some "count")) cdv A outer s H E) (E := E) rfl rfl rfl rfl
  have hp : PassesOwn (model P w) (cxOf (L2N.CX P w) P w K mg base N_Register_count "Register.count" (defScope s_Register_count) (He.fAd K ("Register", some "count")) cdv A outer s H E).A _ (cxOf (L2N.CX P w) P w K mg base N_Register_count "Register.count" (defScope s_Register_count) (He.fAd K ("Register", some "count")) cdv A outer s H E).xe := PassesOwn.leaving
  (js_seq (js_expr (j_call (cal_check_epoch t) (hr.mono (by decide)) (t.glo 14) tk (ja_cons (je_V 1) ja_nil)))
  (js_one (js_ret (je_ix (je_F (f := 0) (cla_1 t).ok (je_V 0)) (je_V 1)))))
abbrev N_law_told : List Str := ["_law_counter", "_law_kind", "_law_epoch", "_law_number", "why"]
abbrev p_law_told : List Str := ["_law_counter", "_law_kind", "_law_epoch", "_law_number"]
theorem sc_law_told : FnScope N_law_told p_law_told (defScope s_law_told) := ⟨rfl, rfl, rfl, by decide +kernel, rfl, by decide +kernel, by decide +kernel⟩
theorem cal_law_told {K : PySem.W.Frag} {mg : Str → Option Value} {P : Program} {w : World} (t : Tx fa fn K mg) : Cal P w K mg (TT K) 3 (He.fAd K ("_law_told", none)) p_law_told F_law_told :=
  cal_of (P := P) (w := w) (mg := mg) (T := TT K) (k := 2) t.c 7 (d := dd_law_told) (N := N_law_told) (ps := p_law_told) (B := B_law_told) sc_law_told 4 5 rfl rfl (fun _ _ _ _ _ _ us hl => match us, hl with | [_, _, _, _], _ => rfl) fun base cdv A outer s H E hr =>
  have tk := L2N.takes_of (X := cxOf (L2N.CX P w) P w K mg base N_law_told "_law_told" (defScope s_law_told) (He.fAd K ("_law_told", none)) cdv A outer s H E) (E := E) rfl rfl rfl rfl
  have hp : PassesOwn (model P w) (cxOf (L2N.CX P w) P w K mg base N_law_told "_law_told" (defScope s_law_told) (He.fAd K ("_law_told", none)) cdv A outer s H E).A _ (cxOf (L2N.CX P w) P w K mg base N_law_told "_law_told" (defScope s_law_told) (He.fAd K ("_law_told", none)) cdv A outer s H E).xe := PassesOwn.leaving
  (js_one (js_try tk (fun W pn xe tk hp => (js_seq (js_if (jt_cmp (ok_eq hr.units) (je_V 1) je_str) (js_one (js_ret (j_meth (cal_Register_raise_to t) (cla_1 t) (t.meth 17) (hr.mono (by decide)) tk (no := by show _ ∉ fnm 1; decide) (je_V 0) (ja_cons (je_V 2) (ja_cons (je_V 3) ja_nil))))) js_nil)
  (js_seq (js_if (jt_cmp (ok_eq hr.units) (je_V 1) je_str) (js_one (js_ret (j_meth (cal_Register_supply t) (cla_1 t) (t.meth 18) (hr.mono (by decide)) tk (no := by show _ ∉ fnm 1; decide) (je_V 0) (ja_cons (je_V 3) ja_nil)))) js_nil)
  (js_one (js_ret (j_meth (cal_Register_count t) (cla_1 t) (t.meth 19) (hr.mono (by decide)) tk (no := by show _ ∉ fnm 1; decide) (je_V 0) (ja_cons (je_V 2) ja_nil))))))) (.named (i := 4) (names_glo (t.glo 13)) (hx_1 t) sc_law_told.nd rfl rfl (fun a oe c pn hz hv => (jp_ret (jp_ix (jp_up (je_lst (ja_cons je_str (ja_cons je_str ja_nil)))) (jp_callTy ok_int (t.free 3) rfl (jp_and (jp_isi (excC_of t c) hz.zc hv rfl (t.glo 20) (isi_0 t c) (t.free 21)) (jp_one (jp_not (jp_isi (excC_of t c) hz.zc hv rfl (t.glo 16) (isi_7 t c) (t.free 21))))))))) (.named (i := 4) (names_glo (t.glo 16)) (hx_7 t) sc_law_told.nd rfl rfl (fun a oe c pn hz hv => (jp_ret (jp_ix (jp_up (je_lst (ja_cons je_str (ja_cons je_str ja_nil)))) (jp_callTy ok_int (t.free 3) rfl (jp_and (jp_isi (excC_of t c) hz.zc hv rfl (t.glo 20) (isi_0 t c) (t.free 21)) (jp_one (jp_not (jp_isi (excC_of t c) hz.zc hv rfl (t.glo 13) (isi_1 t c) (t.free 21))))))))) .nil))))
abbrev N_law : List Str := ["_law_script", "_law_row_here", "_law_counter", "_law_other", "_law_counts", "_law_power", "_law_k", "_law_number", "_law_x", "_law_epoch", "_law_raises", "_law_due", "_law_count", "_law_one"]
abbrev p_law : List Str := ["_law_script"]
theorem sc_law : FnScope N_law p_law (defScope s_law) := ⟨rfl, rfl, rfl, by decide +kernel, rfl, by decide +kernel, by decide +kernel⟩
theorem cal_law {K : PySem.W.Frag} {mg : Str → Option Value} {P : Program} {w : World} (t : Tx fa fn K mg) : Cal P w K mg (TT K) 4 (He.fAd K ("law", none)) p_law F_law :=
  cal_of (P := P) (w := w) (mg := mg) (T := TT K) (k := 3) t.c 8 (d := dd_law) (N := N_law) (ps := p_law) (B := B_law) sc_law 1 14 rfl rfl (fun _ _ _ _ _ _ us hl => match us, hl with | [_], _ => rfl) fun base cdv A outer s H E hr =>
  have tk := L2N.takes_of (X := cxOf (L2N.CX P w) P w K mg base N_law "law" (defScope s_law) (He.fAd K ("law", none)) cdv A outer s H E) (E := E) rfl rfl rfl rfl
  have hp : PassesOwn (model P w) (cxOf (L2N.CX P w) P w K mg base N_law "law" (defScope s_law) (He.fAd K ("law", none)) cdv A outer s H E).A _ (cxOf (L2N.CX P w) P w K mg base N_law "law" (defScope s_law) (He.fAd K ("law", none)) cdv A outer s H E).xe := PassesOwn.leaving
  (js_seq (js_asgF (i := 1) sc_law.nd (j_call (cal_law_row t) (hr.mono (by decide)) (t.glo 4) tk (ja_cons (je_V 0) ja_nil)))
  (js_seq (js_asgF (i := 2) sc_law.nd (j_make0 (cn := 1) (cal_Register_init t) (t.mkr 10) (hr.mono (by decide)) (t.glo 9) tk))
  (js_seq (js_asgF (i := 3) sc_law.nd (j_make0 (cn := 1) (cal_Register_init t) (t.mkr 10) (hr.mono (by decide)) (t.glo 9) tk))
  (js_seq (js_asg (i := 4) sc_law.nd (je_lst (ja_cons je_int (ja_cons je_int (ja_cons je_int ja_nil)))))
  (js_seq (js_asgF (i := 5) sc_law.nd (je_un ok_neg je_int))
  (js_seq (js_for hp rfl (ji_range1 (je_bin ok_mod (je_callTy ok_int (t.free 3) rfl (jb_one (j_call (cal_law_at t) (hr.mono (by decide)) (t.glo 11) tk (ja_cons (je_V 1) (ja_cons je_int ja_nil))))) je_int) (t.free 0)) (jg_name (i := 6) sc_law.nd) (js_seq (js_asgF (i := 7) sc_law.nd (je_callTy ok_int (t.free 3) rfl (jb_one (j_call (cal_law_at t) (hr.mono (by decide)) (t.glo 11) tk (ja_cons (je_V 1) (ja_cons (je_bin ok_add je_int (je_bin ok_mul je_int (je_V 6))) ja_nil))))))
  (js_seq (js_asgF (i := 8) sc_law.nd (je_callTy ok_int (t.free 3) rfl (jb_one (j_call (cal_law_at t) (hr.mono (by decide)) (t.glo 11) tk (ja_cons (je_V 1) (ja_cons (je_bin ok_add je_int (je_bin ok_mul je_int (je_V 6))) ja_nil))))))
  (js_seq (js_asgF (i := 9) sc_law.nd (je_ix (je_lst (ja_cons je_int (ja_cons je_int (ja_cons je_int (ja_cons je_int (ja_cons je_int (ja_cons (je_un ok_neg je_int) (ja_cons je_int ja_nil)))))))) (je_bin ok_mod (je_V 8) je_int)))
  (js_seq (js_if (jt_cmp (ok_eq hr.units) (je_bin ok_mod (je_V 7) je_int) je_int) (js_seq (js_asgF (i := 10) sc_law.nd (je_ix (je_lst (ja_cons je_int (ja_cons je_int (ja_cons je_int (ja_cons (je_un ok_neg je_int) (ja_cons (je_un ok_neg je_int) ja_nil)))))) (je_bin ok_mod (je_bin ok_fdiv (je_V 8) je_int) je_int)))
  (js_seq (js_asgF (i := 11) sc_law.nd je_non)
  (js_seq (js_if (jt_cmp ok_lt (je_V 10) (je_un ok_neg je_int)) (js_one (js_asgF (i := 11) sc_law.nd je_str)) (js_one (js_asgF (i := 5) sc_law.nd (je_V 10))))
  (js_one (js_if (jt_cmp (ok_ne hr.units) (j_call (cal_law_told t) (hr.mono (by decide)) (t.glo 22) tk (ja_cons (je_V 2) (ja_cons je_str (ja_cons je_int (ja_cons (je_V 10) ja_nil))))) (je_V 11)) (js_one (js_ret je_bl)) js_nil))))) (js_seq (js_asgF (i := 11) sc_law.nd je_non)
  (js_seq (js_asgF (i := 12) sc_law.nd (je_bin ok_mod (je_bin ok_fdiv (je_V 8) je_int) je_int))
  (js_seq (js_if (jt_w (jw_or (jt_not (jt_chain ok_le ok_le je_int (je_V 9) je_int)) (jw_or1 (jt_cmp ok_le (je_V 12) (je_ix (je_V 4) (je_V 9)))))) (js_one (js_asgF (i := 11) sc_law.nd je_str)) (js_one (js_if (jt_cmp (ok_eq hr.units) (je_V 5) je_int) (js_one (js_asgF (i := 11) sc_law.nd je_str)) (js_seq (js_setL (je_V 12) (je_V 4) (je_V 9))
  (js_one (js_asgF (i := 5) sc_law.nd (je_bin ok_sub (je_V 5) (je_callTy ok_int (t.free 3) rfl (jb_one (je_cmp ok_gt (je_V 5) je_int))))))))))
  (js_one (js_if (jt_cmp (ok_ne hr.units) (j_call (cal_law_told t) (hr.mono (by decide)) (t.glo 22) tk (ja_cons (je_V 2) (ja_cons je_str (ja_cons (je_V 9) (ja_cons (je_V 12) ja_nil))))) (je_V 11)) (js_one (js_ret je_bl)) js_nil))))))
  (js_seq (js_for hp rfl (ji_range1 je_int (t.free 0)) (jg_name (i := 13) sc_law.nd) (js_one (js_if (jt_w (jw_or (jt_cmp (ok_ne hr.units) (j_meth (cal_Register_count t) (cla_1 t) (t.meth 19) (hr.mono (by decide)) tk (no := by show _ ∉ fnm 1; decide) (je_V 2) (ja_cons (je_V 13) ja_nil)) (je_ix (je_V 4) (je_V 13))) (jw_or1 (jt_cmp (ok_ne hr.units) (j_meth (cal_Register_count t) (cla_1 t) (t.meth 19) (hr.mono (by decide)) tk (no := by show _ ∉ fnm 1; decide) (je_V 3) (ja_cons (je_V 13) ja_nil)) je_int)))) (js_one (js_ret je_bl)) js_nil)))
  (js_one (js_if (jt_cmp (ok_ne hr.units) (j_call (cal_law_told t) (hr.mono (by decide)) (t.glo 22) tk (ja_cons (je_V 2) (ja_cons je_str (ja_cons (je_ix (je_lst (ja_cons (je_un ok_neg je_int) (ja_cons je_int ja_nil))) (je_bin ok_mod (je_callTy ok_int (t.free 3) rfl (jb_one (je_V 7))) je_int)) (ja_cons je_int ja_nil))))) je_str) (js_one (js_ret je_bl)) js_nil))))))))
  (js_one (js_ret (je_cmp (ok_eq hr.units) (j_gI (t.int 5)) je_int)))))))))
end K56

/-! k56_registers: the head (printed by gen.py). -/
namespace K56
open PySem PySem.Spec PyProof.Rows L2 Pz
abbrev RR : PySem.W.OpenRow := PySem.W.OpenLaw.row PySem.Challenge.rw_cloak_k56_registers
abbrev hk : PySem.W.Hook := hookX 6 fa fn
def ob (s : PySem.W.SharedT) : AlX := obsXG 6 fa fn (HandSHeadRun.getT s)
theorem ob_eq (s : PySem.W.SharedT) : ob s = hk.obs s.abs := obsXG_eq (HandSHeadRun.getT_eq s)
def names0 : List PySem.Str := ["__name__", "CloakError", "NotAllowed", "Down", "EPOCHS", "check_epoch", "Register", "_law_row", "_law_at", "_law_told"]
def names : List PySem.Str := names0
theorem run (w : World) : HandSHeadRun.RunEq RR (PySem.W.view RR.prog [12]) hk ob 4000 names w := by
  intro os
  kernel_rfl
end K56

open PySem PySem.W PySem.Calls PyProof.Rows in
set_option maxHeartbeats 0 in
theorem PySem.Challenge.cw_cloak_k56_registers_holds : PySem.Challenge.rw_cloak_k56_registers.Holds := by
  w_on; o_law
  refine HandSHeadRun.head_any (r := K56.RR) (q := view K56.RR.prog [12]) (H := K56.hk) (ob := K56.ob) (M := 4000) (loose := K56.names) (d := HandSHeadRun.topDef K56.RR.prog 12) (kwd := []) K56.ob_eq (by kernel_rfl) (fun s => by kernel_rfl) K56.run (by kernel_rfl) (by kernel_rfl) (by kernel_rfl) (by rfl)
    (by first | assumption | decide +kernel) (by decide +kernel) ⟨rfl, rfl, rfl, rfl, rfl, by decide +kernel⟩ ?hw ?hc
  case hw => w_witness2
  case hc => exact Pz.walk_end (l := PySem.Challenge.rw_cloak_k56_registers) (x := "_law_script") (k := 4) (gi := 23) (F := K56.F_law) (fa := K56.fa) (fn := K56.fn) (TT := K56.TT) rfl (by kernel_rfl) ⟨rfl, by decide, by decide⟩ (by kernel_rfl) (fun K mg w t => K56.cal_law t) rfl K56.law_ok
